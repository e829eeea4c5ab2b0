import PyProof.Rows.All
import Wide.All
import OpenK.AllK
import Wide.FinOn
import PySem.Challenge.RW_thinspans_k17_sights_told
import HandS.ForMost
import HandS.Exc
import HandS.Zip
import HandS.Wide
import HandS.Flow
import HandS.TupAny
import HandS.CallSlots
import HandS.Defaults
import HandS.IsInst
import HandS.HeadHook1
import HandS.Lambda
import KE.DataAny
import KE.DataIsa
import KE.DataFind
import KE.SortData
import KE.DataMinMax
import HandS.TupMul
import PyProof.SumAnyB
import HandS.ExcInit
import HandS.ExcSuper
import KE.KExcSuper
import KE.KSuper
import HandS.ExcIs
import HandS.ExcField
import KE.KExcIs
import HandS.HeadEnd
import PyProof.ReprRoads
import KE.DataCmp
import KE.DataEq
import HandS.More
import KE.KDictPairs
import HandS.TupSets
import HandS.TryOnly
import KE.GoesEnum
import KE.GoesMore
import KE.GoesEnumKw
import HandS.Small
import HandS.EndTab
import HandS.Comp
import HandS.Style
import HandS.Property
import HandS.CallRecv
import HandS.Star
import HandS.Head0
import HandS.Head1
import HandS.Head2
import HandS.HeadHook2
import KE.KStateDown
import PyProof.ReprLen
set_option Elab.async false
set_option linter.all false
set_option maxRecDepth 100000
set_option maxHeartbeats 0
set_option autoImplicit false
namespace Ev
open PySem PySem.Spec PyProof.Rows L2

/-! ### values, the store, outcomes -/
/-- Z: the part of the heap that never changes; μ: where the cells lie -/
structure Wd where
  Z : Hp
  μ : List Addr
/-- a value of the evaluator: data, or a mutable cell of the store -/
inductive Vl where
  | d (x : PyData)
  | ref (n : Nat)
  /-- a thing that is known by its place: a lambda, an exception that is handled; P: what is known of the world in which it was met -/
  | adr (a : Addr) (P : Wd → Prop)
/-- a cell: a list, a dict that may change; or one that is fixed from now on -/
inductive Cell where
  | lst (xs : List PyData)
  | dct (kvs : List (Key × PyData))
  | frz (x : PyData)
  | ins (c : Str) (fs : List (Str × PyData))
abbrev Sto := List Cell
structure Exn where
  c : Str
  fs : List (Str × PyData)
inductive Out (α : Type) where
  | ok (a : α) (M : Sto)
  | exc (x : Exn) (M : Sto)
  | bad
def Out.bind {α β : Type} : Out α → (α → Sto → Out β) → Out β
  | .ok a M, k => k a M
  | .exc x M, _ => .exc x M
  | .bad, _ => .bad
theorem Out.bind_ok {α β : Type} (a : α) (M : Sto) (k : α → Sto → Out β) : (Out.ok a M).bind k = k a M := rfl
abbrev Rho := List (Option Vl)
inductive OutS where
  | nx (ρ : Rho) (M : Sto)
  | rt (v : Vl) (M : Sto)
  | bk (ρ : Rho) (M : Sto)
  | ct (ρ : Rho) (M : Sto)
  | exc (x : Exn) (ρ : Rho) (M : Sto)
  | bad

/-! ### how values lie in the heap -/
def Wd.le (W W' : Wd) : Prop := Same W.Z W'.Z ∧ ∃ ν, W'.μ = W.μ ++ ν
theorem Wd.le.refl (W : Wd) : W.le W := ⟨Same.refl _, [], (List.append_nil _).symm⟩
theorem Wd.le.trans {W W1 W2 : Wd} (a : W.le W1) (b : W1.le W2) : W.le W2 := by
  obtain ⟨a1, ν, a2⟩ := a
  obtain ⟨b1, ν', b2⟩ := b
  exact ⟨a1.trans b1, ν ++ ν', by rw [b2, a2, List.append_assoc]⟩
theorem Wd.le.at {W W' : Wd} (l : W.le W') {n : Nat} {a : Addr} (h : W.μ[n]? = some a) : W'.μ[n]? = some a := by
  obtain ⟨_, ν, e⟩ := l
  rw [e, List.getElem?_append_left (List.getElem?_eq_some_iff.mp h).1]
  exact h

/-! ### data in the heap (no list of the module's own) -/
/-- a tuple that has no dict of its own -/
def TpP (K : PySem.W.Frag) (H : Hp) (a : Addr) (xs : List V) : Prop :=
  (∃ o : Obj, o.dict = none ∧ H a = some (.frz o (.tup xs))) ∨
    ∃ (o : Obj) (its : Array Value) (n : Nat), K.lookup a = some o ∧ o.cls = .type "tuple" ∧ o.dict = none ∧ o.data = .seq its n ∧ its.size ≤ sizeLine ∧ Vals xs its.toList
theorem TpP.sq {K : PySem.W.Frag} {H : Hp} {a : Addr} {xs : List V} (h : TpP K H a xs) : SqT K H a xs := by
  rcases h with ⟨o, _, e⟩ | ⟨o, its, n, h1, h2, _, h3⟩
  · exact .inl (.inr ⟨o, e⟩)
  · exact .inr ⟨o, its, n, h1, h2, h3⟩
theorem TpP.mono {K : PySem.W.Frag} {H H' : Hp} {a : Addr} {xs : List V} (e : Same H H') (h : TpP K H a xs) : TpP K H' a xs := by
  rcases h with ⟨o, h0, h⟩ | h
  · exact .inl ⟨o, h0, e _ _ h⟩
  · exact .inr h
/-- a new tuple is laid at p -/
def NewT (H : Hp) (p : Addr) (xs : List V) (H' : Hp) : Prop := ∃ o : Obj, o.dict = none ∧ H' = upd H p (.frz o (.tup xs))
theorem NewT.same {H H' : Hp} {p : Addr} {xs : List V} (n : NewT H p xs H') (h : H p = none) : Same H H' := by
  obtain ⟨o, _, rfl⟩ := n
  exact fun b u e => by rw [upd_ne (ne_of_none e h)]; exact e
mutual
inductive Dq (K : PySem.W.Frag) (H : Hp) : V → PyData → Prop
  | non : Dq K H .non .none
  | bl (b : Bool) : Dq K H (.bl b) (.bool b)
  | int (i : Int) : Dq K H (.int i) (.int i)
  | str (x : Str) : Dq K H (.str x) (.str x)
  | lst {a : Addr} {xs : List V} {ds : List PyData} : SqL K H a xs → DqAll K H xs ds → Dq K H (.ref a) (.list ds)
  | tup {a : Addr} {xs : List V} {ds : List PyData} : TpP K H a xs → DqAll K H xs ds → Dq K H (.ref a) (.tuple ds)
inductive DqAll (K : PySem.W.Frag) (H : Hp) : List V → List PyData → Prop
  | nil : DqAll K H [] []
  | cons {v : V} {vs : List V} {d : PyData} {ds : List PyData} : Dq K H v d → DqAll K H vs ds → DqAll K H (v :: vs) (d :: ds)
end
mutual
theorem Dq.dp {K : PySem.W.Frag} {H : Hp} : ∀ {v : V} {d : PyData}, Dq K H v d → Dp K H v d
  | _, _, .non => .non
  | _, _, .bl b => .bl b
  | _, _, .int i => .int i
  | _, _, .str x => .str x
  | _, _, .lst h a => .lst h (DqAll.dp a)
  | _, _, .tup h a => .tup h.sq (DqAll.dp a)
theorem DqAll.dp {K : PySem.W.Frag} {H : Hp} : ∀ {vs : List V} {ds : List PyData}, DqAll K H vs ds → DpAll K H vs ds
  | _, _, .nil => .nil
  | _, _, .cons h t => .cons (Dq.dp h) (DqAll.dp t)
end
theorem Same.rd {H H' : Hp} {a : Addr} {u : HO} (e : Same H H') (h : Rd H a u) : Rd H' a u := by
  rcases h with h | ⟨o, h⟩
  · exact .inl (e _ _ h)
  · exact .inr ⟨o, e _ _ h⟩
theorem Same.seqL {K : PySem.W.Frag} {H H' : Hp} {a : Addr} {xs : List V} (e : Same H H') (h : SqL K H a xs) : SqL K H' a xs := by
  rcases h with h | h
  · exact .inl (Same.rd e h)
  · exact .inr h
theorem Same.seqT {K : PySem.W.Frag} {H H' : Hp} {a : Addr} {xs : List V} (e : Same H H') (h : SqT K H a xs) : SqT K H' a xs := by
  rcases h with (h | ⟨o, h⟩) | h
  · exact .inl (.inl (e _ _ h))
  · exact .inl (.inr ⟨o, e _ _ h⟩)
  · exact .inr h
mutual
theorem Dq.mono {K : PySem.W.Frag} {H H' : Hp} (e : Same H H') : ∀ {v : V} {d : PyData}, Dq K H v d → Dq K H' v d
  | _, _, .non => .non
  | _, _, .bl b => .bl b
  | _, _, .int i => .int i
  | _, _, .str x => .str x
  | _, _, .lst h a => .lst (Same.seqL e h) (DqAll.mono e a)
  | _, _, .tup h a => .tup (h.mono e) (DqAll.mono e a)
theorem DqAll.mono {K : PySem.W.Frag} {H H' : Hp} (e : Same H H') : ∀ {vs : List V} {ds : List PyData}, DqAll K H vs ds → DqAll K H' vs ds
  | _, _, .nil => .nil
  | _, _, .cons h t => .cons (Dq.mono e h) (DqAll.mono e t)
end
theorem DqAll.length {K : PySem.W.Frag} {H : Hp} : ∀ {vs : List V} {ds : List PyData}, DqAll K H vs ds → vs.length = ds.length
  | _, _, .nil => rfl
  | _, _, .cons _ t => by rw [List.length_cons, List.length_cons, DqAll.length t]
theorem DqAll.get {K : PySem.W.Frag} {H : Hp} : ∀ {vs : List V} {ds : List PyData} {i : Nat} {d : PyData}, DqAll K H vs ds → ds[i]? = some d → ∃ v, vs[i]? = some v ∧ Dq K H v d
  | _, _, _, _, .nil, e => by simp at e
  | _, _, 0, _, .cons h _, e => by simp at e; subst e; exact ⟨_, rfl, h⟩
  | _, _, i + 1, _, .cons _ t, e => by
    obtain ⟨v, h1, h2⟩ := DqAll.get (i := i) t (by simpa using e)
    exact ⟨v, by simpa using h1, h2⟩
theorem DqAll.getV {K : PySem.W.Frag} {H : Hp} : ∀ {vs : List V} {ds : List PyData} {i : Nat} {v : V}, DqAll K H vs ds → vs[i]? = some v → ∃ d, ds[i]? = some d ∧ Dq K H v d
  | _, _, _, _, .nil, e => by simp at e
  | _, _, 0, _, .cons h _, e => by simp at e; subst e; exact ⟨_, rfl, h⟩
  | _, _, i + 1, _, .cons _ t, e => by
    obtain ⟨v, h1, h2⟩ := DqAll.getV (i := i) t (by simpa using e)
    exact ⟨v, by simpa using h1, h2⟩
theorem DqAll.append {K : PySem.W.Frag} {H : Hp} : ∀ {vs ws : List V} {ds es : List PyData}, DqAll K H vs ds → DqAll K H ws es → DqAll K H (vs ++ ws) (ds ++ es)
  | _, _, _, _, .nil, s => s
  | _, _, _, _, .cons h t, s => .cons h (DqAll.append t s)
theorem DqAll.take {K : PySem.W.Frag} {H : Hp} : ∀ {vs : List V} {ds : List PyData} (n : Nat), DqAll K H vs ds → DqAll K H (vs.take n) (ds.take n)
  | _, _, 0, _ => .nil
  | _, _, _ + 1, .nil => .nil
  | _, _, n + 1, .cons h t => .cons h (DqAll.take n t)
theorem DqAll.drop {K : PySem.W.Frag} {H : Hp} : ∀ {vs : List V} {ds : List PyData} (n : Nat), DqAll K H vs ds → DqAll K H (vs.drop n) (ds.drop n)
  | _, _, 0, h => h
  | _, _, _ + 1, .nil => .nil
  | _, _, n + 1, .cons _ t => DqAll.drop n t
theorem DqAll.set {K : PySem.W.Frag} {H : Hp} {v : V} {d : PyData} (r : Dq K H v d) : ∀ {vs : List V} {ds : List PyData} (i : Nat), DqAll K H vs ds → DqAll K H (vs.set i v) (ds.set i d)
  | _, _, _, .nil => .nil
  | _, _, 0, .cons _ t => .cons r t
  | _, _, i + 1, .cons h t => .cons h (DqAll.set r i t)
theorem DqAll.ints {K : PySem.W.Frag} {H : Hp} : ∀ (ns : List Int), DqAll K H (ns.map V.int) (ns.map PyData.int)
  | [] => .nil
  | n :: ns => .cons (.int n) (DqAll.ints ns)
theorem DqAll.ints_of {K : PySem.W.Frag} {H : Hp} : ∀ {vs : List V} {ns : List Int}, DqAll K H vs (ns.map PyData.int) → vs = ns.map V.int
  | _, [], h => by cases h; rfl
  | _, n :: ns, h => by
    cases h with
    | cons h t =>
      cases h
      rw [DqAll.ints_of t]
      rfl
theorem DqAll.bools_of {K : PySem.W.Frag} {H : Hp} : ∀ {vs : List V} {ns : List Bool}, DqAll K H vs (ns.map PyData.bool) → vs = ns.map V.bl
  | _, [], h => by cases h; rfl
  | _, n :: ns, h => by
    cases h with
    | cons h t =>
      cases h
      rw [DqAll.bools_of t]
      rfl

theorem paired_mono {α β : Type} {F G : α → β → Prop} : ∀ {l₁ : List α} {l₂ : List β}, Paired F l₁ l₂ → (∀ a b, F a b → G a b) → Paired G l₁ l₂
  | _, _, .nil, _ => .nil
  | _, _, .cons h t, f => .cons (f _ _ h) (paired_mono t f)
def CellR (K : PySem.W.Frag) (Z H : Hp) (a : Addr) : Cell → Prop
  | .lst xs => Z a = none ∧ ∃ vs, H a = some (.lst vs) ∧ DqAll K Z vs xs
  | .dct kvs => Z a = none ∧ ∃ vs, H a = some (.dK vs) ∧ Paired (fun (p : Key × V) (q : Key × PyData) => p.1 = q.1 ∧ Dq K Z p.2 q.2) vs kvs
  | .frz x => (∃ o, Z a = some o) ∧ Dq K Z (.ref a) x
  | .ins c fs => Z a = none ∧ ∃ dx vs, H a = some (.ins (He.ga K c) dx vs) ∧ Paired (fun (p : Str × V) (q : Str × PyData) => p.1 = q.1 ∧ Dq K Z p.2 q.2) vs fs
def VlR (K : PySem.W.Frag) (W : Wd) (v : V) : Vl → Prop
  | .d x => Dq K W.Z v x
  | .ref n => ∃ a, v = .ref a ∧ W.μ[n]? = some a
  | .adr a P => v = .ref a ∧ ∃ W0, W0.le W ∧ P W0
theorem VlR.mono {K : PySem.W.Frag} {W W' : Wd} (l : W.le W') {v : V} : ∀ {x : Vl}, VlR K W v x → VlR K W' v x
  | .d _, h => Dq.mono l.1 h
  | .ref _, ⟨a, e, h⟩ => ⟨a, e, l.at h⟩
  | .adr _ _, ⟨e, W0, l0, h⟩ => ⟨e, W0, l0.trans l, h⟩
inductive VlsR (K : PySem.W.Frag) (W : Wd) : List V → List Vl → Prop
  | nil : VlsR K W [] []
  | cons {v : V} {x : Vl} {vs : List V} {xs : List Vl} : VlR K W v x → VlsR K W vs xs → VlsR K W (v :: vs) (x :: xs)
theorem VlsR.mono {K : PySem.W.Frag} {W W' : Wd} (l : W.le W') : ∀ {vs : List V} {xs : List Vl}, VlsR K W vs xs → VlsR K W' vs xs
  | _, _, .nil => .nil
  | _, _, .cons h t => .cons (h.mono l) (VlsR.mono l t)
theorem VlsR.length {K : PySem.W.Frag} {W : Wd} : ∀ {vs : List V} {xs : List Vl}, VlsR K W vs xs → vs.length = xs.length
  | _, _, .nil => rfl
  | _, _, .cons _ t => by rw [List.length_cons, List.length_cons, VlsR.length t]
theorem VlsR.get {K : PySem.W.Frag} {W : Wd} : ∀ {vs : List V} {xs : List Vl} {i : Nat} {x : Vl}, VlsR K W vs xs → xs[i]? = some x → ∃ v, vs[i]? = some v ∧ VlR K W v x
  | _, _, _, _, .nil, e => by simp at e
  | _, _, 0, _, .cons h _, e => by simp at e; subst e; exact ⟨_, rfl, h⟩
  | _, _, i + 1, _, .cons _ t, e => by
    obtain ⟨v, h1, h2⟩ := VlsR.get (i := i) t (by simpa using e)
    exact ⟨v, by simpa using h1, h2⟩

/-- the tables of code objects that are not in the written part: the code object, its table, the name of the lambdas that it tells -/
def tabs3 (K : PySem.W.Frag) : List (Addr × Addr × Str) := K.filterMap fun p => match p.2.data with
  | .func fd => (match fd.code with
    | .ref c => (match K.lookup c with
      | some ⟨_, _, .fields vs, _⟩ => (match (vs[11]? : Option Value) with
        | some (.ref P) => if (K.lookup P).isNone then some (c, P, fd.qualname ++ ".<locals>." ++ "<lambda>") else none
        | _ => none)
      | _ => none)
    | _ => none)
  | _ => none
def tabsF (K : PySem.W.Frag) : List (Addr × Str) := (tabs3 K).map fun p => (p.2.1, p.2.2)
/-- the store lies in the heap -/
structure RelM (K : PySem.W.Frag) (W : Wd) (H : Hp) (M : Sto) : Prop where
  ntb : ∀ b ps, W.Z b ≠ some (.tbl ps)
  tab : LamX.Tabs (tabsF K) H
  sub : Same W.Z H
  len : W.μ.length = M.length
  nd : W.μ.Nodup
  cell : ∀ (n : Nat) (a : Addr) (c : Cell), W.μ[n]? = some a → M[n]? = some c → CellR K W.Z H a c
def SltR (K : PySem.W.Frag) (W : Wd) (σ : L2.St) (ρ : Rho) : Prop := σ.length = ρ.length ∧ ∀ (i : Nat) (x : Vl), ρ[i]? = some (some x) → ∃ v, σ[i]? = some (some v) ∧ VlR K W v x
theorem SltR.mono {K : PySem.W.Frag} {W W' : Wd} (l : W.le W') {σ : L2.St} {ρ : Rho} (h : SltR K W σ ρ) : SltR K W' σ ρ :=
  ⟨h.1, fun i x e => let ⟨v, h1, h2⟩ := h.2 i x e; ⟨v, h1, h2.mono l⟩⟩
theorem SltR.set {K : PySem.W.Frag} {W : Wd} {σ : L2.St} {ρ : Rho} (h : SltR K W σ ρ) {v : V} {x : Vl} (r : VlR K W v x) (i : Nat) : SltR K W (σ.set i (some v)) (ρ.set i (some x)) := by
  refine ⟨by simp [h.1], fun j y e => ?_⟩
  by_cases hj : i = j
  · subst hj
    by_cases hl : i < ρ.length
    · rw [List.getElem?_set_self hl] at e
      cases e
      exact ⟨v, by rw [List.getElem?_set_self (by rw [h.1]; exact hl)], r⟩
    · rw [List.getElem?_eq_none (by simpa using hl)] at e
      cases e
  · rw [List.getElem?_set_ne hj] at e ⊢
    exact h.2 j y e
theorem SltR.unset {K : PySem.W.Frag} {W : Wd} {σ : L2.St} {ρ : Rho} (h : SltR K W σ ρ) (i : Nat) : SltR K W (σ.set i none) (ρ.set i none) := by
  refine ⟨by simp [h.1], fun j y e => ?_⟩
  by_cases hj : i = j
  · subst hj
    by_cases hl : i < ρ.length
    · rw [List.getElem?_set_self hl] at e
      cases e
    · rw [List.getElem?_eq_none (by simpa using hl)] at e
      cases e
  · rw [List.getElem?_set_ne hj] at e ⊢
    exact h.2 j y e

section
variable {K : PySem.W.Frag} {W : Wd} {H H' : Hp} {M : Sto}
theorem cellR_there {Z : Hp} {a : Addr} {c : Cell} (s : Same Z H) (h : CellR K Z H a c) : ∃ o, H a = some o := by
  cases c with
  | lst xs => obtain ⟨_, vs, e, _⟩ := h; exact ⟨_, e⟩
  | dct kvs => obtain ⟨_, vs, e, _⟩ := h; exact ⟨_, e⟩
  | frz x => obtain ⟨⟨o, e⟩, _⟩ := h; exact ⟨o, s _ _ e⟩
  | ins c fs => obtain ⟨_, dx, vs, e, _⟩ := h; exact ⟨_, e⟩
theorem RelM.there (R : RelM K W H M) {n : Nat} {a : Addr} (h : W.μ[n]? = some a) : ∃ o, H a = some o := by
  have hl : n < M.length := by rw [← R.len]; exact (List.getElem?_eq_some_iff.mp h).1
  exact cellR_there R.sub (R.cell n a _ h (List.getElem?_eq_getElem hl))
theorem RelM.notin (R : RelM K W H M) {p : Addr} (h : H p = none) : p ∉ W.μ := fun hm => by
  obtain ⟨n, hn⟩ := List.getElem?_of_mem hm
  obtain ⟨o, e⟩ := R.there hn
  rw [h] at e
  cases e
theorem RelM.Znone (R : RelM K W H M) {p : Addr} (h : H p = none) : W.Z p = none := by
  cases e : W.Z p with
  | none => rfl
  | some o =>
    rw [R.sub _ _ e] at h
    cases h
theorem CellR.mono {Z Z' : Hp} {a : Addr} {c : Cell} (s : Same Z Z') (hz : Z a = none → Z' a = none) (hh : ∀ o, H a = some o → H' a = some o) (h : CellR K Z H a c) : CellR K Z' H' a c := by
  cases c with
  | lst xs => obtain ⟨z, vs, e, d⟩ := h; exact ⟨hz z, vs, hh _ e, DqAll.mono s d⟩
  | dct kvs => obtain ⟨z, vs, e, d⟩ := h; exact ⟨hz z, vs, hh _ e, paired_mono d fun p q r => ⟨r.1, Dq.mono s r.2⟩⟩
  | frz x => obtain ⟨⟨o, e⟩, d⟩ := h; exact ⟨⟨o, s _ _ e⟩, Dq.mono s d⟩
  | ins c fs => obtain ⟨z, dx, vs, e, d⟩ := h; exact ⟨hz z, dx, vs, hh _ e, paired_mono d fun p q r => ⟨r.1, Dq.mono s r.2⟩⟩
/-- the heap has grown -/
theorem RelM.grow (R : RelM K W H M) (s : Same H H') : RelM K W H' M :=
  ⟨R.ntb, R.tab.ext s, R.sub.trans s, R.len, R.nd, fun n a c h1 h2 => CellR.mono (Same.refl _) (fun z => z) (fun o e => s _ _ e) (R.cell n a c h1 h2)⟩
theorem same_upd {p : Addr} {o : HO} (h : H p = none) : Same H (upd H p o) := fun b u e => by
  rw [upd_ne (ne_of_none e h)]
  exact e
/-- a new fixed object -/
theorem RelM.newZ (R : RelM K W H M) {p : Addr} (h : H p = none) (o : HO) (no : ∀ ps, o ≠ .tbl ps := by intro _ z; cases z) : RelM K ⟨upd W.Z p o, W.μ⟩ (upd H p o) M ∧ W.le ⟨upd W.Z p o, W.μ⟩ := by
  have hz := R.Znone h
  refine ⟨⟨fun b ps e => ?_, R.tab.ext (same_upd h), fun b u e => ?_, R.len, R.nd, fun n a c h1 h2 => ?_⟩, same_upd hz, [], (List.append_nil _).symm⟩
  · have e : upd W.Z p o b = some (.tbl ps) := e
    by_cases hb : b = p
    · subst hb
      rw [upd_same] at e
      exact no ps (Option.some.inj e)
    · rw [upd_ne hb] at e
      exact R.ntb b ps e
  · have e : upd W.Z p o b = some u := e
    by_cases hb : b = p
    · subst hb
      rw [upd_same] at e ⊢
      exact e
    · rw [upd_ne hb] at e ⊢
      exact R.sub _ _ e
  · have hne : a ≠ p := fun z => R.notin h (z ▸ List.mem_of_getElem? h1)
    exact CellR.mono (same_upd hz) (fun z => by show upd W.Z p o a = none; rw [upd_ne hne]; exact z) (fun u e => by rw [upd_ne hne]; exact e) (R.cell n a c h1 h2)
/-- a new cell -/
theorem RelM.newM (R : RelM K W H M) {p : Addr} (h : H p = none) {o : HO} {c : Cell} (hc : CellR K W.Z (upd H p o) p c) : RelM K ⟨W.Z, W.μ ++ [p]⟩ (upd H p o) (M ++ [c]) ∧ W.le ⟨W.Z, W.μ ++ [p]⟩ ∧ (W.μ ++ [p])[M.length]? = some p := by
  have hlast : (W.μ ++ [p])[M.length]? = some p := by
    rw [← R.len]
    simp
  refine ⟨⟨R.ntb, R.tab.ext (same_upd h), fun b u e => ?_, by simp [R.len], ?_, fun n a c' h1 h2 => ?_⟩, ⟨Same.refl _, [p], rfl⟩, hlast⟩
  · have e : W.Z b = some u := e
    rw [upd_ne (ne_of_none e (R.Znone h))]
    exact R.sub _ _ e
  · show (W.μ ++ [p]).Nodup
    rw [List.nodup_append]
    refine ⟨R.nd, by simp, fun a ha b hb => ?_⟩
    have : b = p := by simpa using hb
    rw [this]
    exact fun z => R.notin h (z ▸ ha)
  · have h1 : (W.μ ++ [p])[n]? = some a := h1
    by_cases hn : n < M.length
    · rw [List.getElem?_append_left (by rw [R.len]; exact hn)] at h1
      rw [List.getElem?_append_left hn] at h2
      have hne : a ≠ p := fun z => R.notin h (z ▸ List.mem_of_getElem? h1)
      exact CellR.mono (Same.refl _) (fun z => z) (fun u e => by rw [upd_ne hne]; exact e) (R.cell n a c' h1 h2)
    · have hl : n < (M ++ [c]).length := (List.getElem?_eq_some_iff.mp h2).1
      have en : n = M.length := by
        rw [List.length_append, List.length_singleton] at hl
        omega
      subst en
      rw [hlast] at h1
      have e2 : c = c' := by
        simpa using h2
      rw [← Option.some.inj h1, ← e2]
      exact hc
/-- what a cell lies on is no table and no code object -/
theorem RelM.cellO (R : RelM K W H M) {n : Nat} {a : Addr} (h : W.μ[n]? = some a) (hz : W.Z a = none) : ∃ o, H a = some o ∧ (∀ ps, o ≠ .tbl ps) ∧ ∀ φ, o ≠ .ext φ := by
  have hn : n < M.length := by rw [← R.len]; exact (List.getElem?_eq_some_iff.mp h).1
  have hc := R.cell n a _ h (List.getElem?_eq_getElem hn)
  cases e : M[n] with
  | lst xs => rw [e] at hc; obtain ⟨_, vs, q, _⟩ := hc; exact ⟨_, q, (fun _ z => by cases z), (fun _ z => by cases z)⟩
  | dct kvs => rw [e] at hc; obtain ⟨_, vs, q, _⟩ := hc; exact ⟨_, q, (fun _ z => by cases z), (fun _ z => by cases z)⟩
  | frz x => rw [e] at hc; obtain ⟨⟨o, q⟩, _⟩ := hc; rw [hz] at q; cases q
  | ins c fs => rw [e] at hc; obtain ⟨_, dx, vs, q, _⟩ := hc; exact ⟨_, q, (fun _ z => by cases z), (fun _ z => by cases z)⟩
theorem tabs_upd {T : List (Addr × Str)} {a : Addr} {o u : HO} (t : LamX.Tabs T H) (e : H a = some o) (n1 : ∀ ps, o ≠ .tbl ps) (n2 : ∀ φ, o ≠ .ext φ) : LamX.Tabs T (upd H a u) := fun p hp => by
  obtain ⟨ps, h1, h2, h3⟩ := t p hp
  have na : p.1 ≠ a := fun z => by
    rw [z, e] at h1
    exact n1 ps (Option.some.inj h1)
  refine ⟨ps, by rw [upd_ne na]; exact h1, h2, fun pos cv hc => ?_⟩
  obtain ⟨c, e1, e2⟩ := h3 pos cv hc
  have nc : c ≠ a := fun z => by
    rw [z, e] at e2
    have e3 := Option.some.inj e2
    exact n2 _ e3
  exact ⟨c, e1, by rw [upd_ne nc]; exact e2⟩
/-- a cell is changed -/
theorem RelM.setM (R : RelM K W H M) {n : Nat} {a : Addr} (h : W.μ[n]? = some a) (hz : W.Z a = none) {o : HO} {c : Cell} (hc : CellR K W.Z (upd H a o) a c) : RelM K W (upd H a o) (M.set n c) := by
  obtain ⟨o0, e0, n1, n2⟩ := R.cellO h hz
  refine ⟨R.ntb, tabs_upd R.tab e0 n1 n2, fun b u e => ?_, by simp [R.len], R.nd, fun m b c' h1 h2 => ?_⟩
  · rw [upd_ne (ne_of_none e hz)]
    exact R.sub _ _ e
  · have hn : n < M.length := by rw [← R.len]; exact (List.getElem?_eq_some_iff.mp h).1
    by_cases hm : n = m
    · subst hm
      rw [h] at h1
      rw [List.getElem?_set_self hn] at h2
      cases h1
      cases h2
      exact hc
    · rw [List.getElem?_set_ne hm] at h2
      have hne : b ≠ a := fun z => hm (by
        subst z
        obtain ⟨p1, q1⟩ := List.getElem?_eq_some_iff.mp h
        obtain ⟨p2, q2⟩ := List.getElem?_eq_some_iff.mp h1
        exact (List.getElem_inj R.nd).mp (q1.trans q2.symm))
      exact CellR.mono (Same.refl _) (fun z => z) (fun u e => by rw [upd_ne hne]; exact e) (R.cell m b c' h1 h2)
/-- a list cell is fixed from now on -/
theorem RelM.freeze (R : RelM K W H M) {n : Nat} {a : Addr} {xs : List PyData} (h : W.μ[n]? = some a) (hM : M[n]? = some (.lst xs)) :
    ∃ W', W.le W' ∧ RelM K W' H (M.set n (.frz (.list xs))) ∧ Dq K W'.Z (.ref a) (.list xs) := by
  obtain ⟨z, vs, e, d⟩ := R.cell n a _ h hM
  have s : Same W.Z (upd W.Z a (.lst vs)) := same_upd z
  have hd : Dq K (upd W.Z a (.lst vs)) (.ref a) (.list xs) := .lst (.inl (.inl upd_same)) (DqAll.mono s d)
  refine ⟨⟨upd W.Z a (.lst vs), W.μ⟩, ⟨s, [], (List.append_nil _).symm⟩, ⟨fun b ps q => ?_, R.tab, fun b u q => ?_, by simp [R.len], R.nd, fun m b c' h1 h2 => ?_⟩, hd⟩
  · have q : upd W.Z a (.lst vs) b = some (.tbl ps) := q
    by_cases hb : b = a
    · subst hb
      rw [upd_same] at q
      cases q
    · rw [upd_ne hb] at q
      exact R.ntb b ps q
  · by_cases hb : b = a
    · subst hb
      have q : upd W.Z b (.lst vs) b = some u := q
      rw [upd_same] at q
      rw [← q]
      exact e
    · have q : upd W.Z a (.lst vs) b = some u := q
      rw [upd_ne hb] at q
      exact R.sub _ _ q
  · have hn : n < M.length := by rw [← R.len]; exact (List.getElem?_eq_some_iff.mp h).1
    by_cases hm : n = m
    · subst hm
      have h1 : W.μ[n]? = some b := h1
      rw [h] at h1
      rw [List.getElem?_set_self hn] at h2
      cases h1
      cases h2
      exact ⟨⟨_, upd_same⟩, hd⟩
    · rw [List.getElem?_set_ne hm] at h2
      have hne : b ≠ a := fun z => hm (by
        subst z
        obtain ⟨p1, q1⟩ := List.getElem?_eq_some_iff.mp h
        obtain ⟨p2, q2⟩ := List.getElem?_eq_some_iff.mp h1
        exact (List.getElem_inj R.nd).mp (q1.trans q2.symm))
      exact CellR.mono s (fun z => by show upd W.Z a (.lst vs) b = none; rw [upd_ne hne]; exact z) (fun o q => q) (R.cell m b c' h1 h2)
/-- the last cells are forgotten -/
theorem RelM.trunc (R : RelM K W H M) (k : Nat) : RelM K ⟨W.Z, W.μ.take k⟩ H (M.take k) := by
  refine ⟨R.ntb, R.tab, R.sub, by simp [R.len], ?_, fun n a c h1 h2 => ?_⟩
  · exact R.nd.sublist (List.take_sublist _ _)
  · have h1 : (W.μ.take k)[n]? = some a := h1
    have hk : n < k := by
      have := (List.getElem?_eq_some_iff.mp h1).1
      rw [List.length_take] at this
      omega
    rw [List.getElem?_take_of_lt hk] at h1 h2
    exact R.cell n a c h1 h2
/-- a thing that never changes is fixed from now on -/
theorem RelM.adopt (R : RelM K W H M) {d : Addr} {x : HO} (e : H d = some x) (k1 : ∀ ps, x ≠ .tbl ps) (k2 : ∀ ws, x ≠ .lst ws) (k3 : ∀ ws, x ≠ .dK ws) (k4 : ∀ C dx ws, x ≠ .ins C dx ws) : ∃ W', W.le W' ∧ RelM K W' H M ∧ W'.Z d = some x := by
  cases z : W.Z d with
  | some o =>
    have q := R.sub _ _ z
    rw [e] at q
    cases q
    exact ⟨W, Wd.le.refl W, R, z⟩
  | none =>
    have s : Same W.Z (upd W.Z d x) := same_upd z
    refine ⟨⟨upd W.Z d x, W.μ⟩, ⟨s, [], (List.append_nil _).symm⟩, ⟨fun b ps q => ?_, R.tab, fun b u q => ?_, R.len, R.nd, fun n a c h1 h2 => ?_⟩, upd_same⟩
    · have q : upd W.Z d x b = some (.tbl ps) := q
      by_cases hb : b = d
      · subst hb
        rw [upd_same] at q
        exact k1 ps (Option.some.inj q)
      · rw [upd_ne hb] at q
        exact R.ntb b ps q
    · have q : upd W.Z d x b = some u := q
      by_cases hb : b = d
      · subst hb
        rw [upd_same] at q
        rw [← q]
        exact e
      · rw [upd_ne hb] at q
        exact R.sub _ _ q
    · have hc := R.cell n a c h1 h2
      have nd : ∀ {o : HO}, W.Z a = none → H a = some o → o ≠ x → upd W.Z d x a = none := fun {o} h1 h2 h3 => by
        by_cases ha : a = d
        · subst ha
          rw [h2] at e
          exact absurd (Option.some.inj e) h3
        · rw [upd_ne ha]
          exact h1
      cases c with
      | lst xs => obtain ⟨z, ws, q, dd⟩ := hc; exact ⟨nd z q (by first | exact (k2 _).symm | exact (k3 _).symm | exact (k4 _ _ _).symm), ws, q, DqAll.mono s dd⟩
      | dct kvs => obtain ⟨z, ws, q, dd⟩ := hc; exact ⟨nd z q (by first | exact (k2 _).symm | exact (k3 _).symm | exact (k4 _ _ _).symm), ws, q, paired_mono dd fun p q r => ⟨r.1, Dq.mono s r.2⟩⟩
      | frz x => obtain ⟨⟨o, q⟩, dd⟩ := hc; exact ⟨⟨o, s _ _ q⟩, Dq.mono s dd⟩
      | ins c fs => obtain ⟨z, dx, ws, q, dd⟩ := hc; exact ⟨nd z q (by first | exact (k2 _).symm | exact (k3 _).symm | exact (k4 _ _ _).symm), dx, ws, q, paired_mono dd fun p q r => ⟨r.1, Dq.mono s r.2⟩⟩
/-- all but the tables has stayed -/
theorem RelM.extN (R : RelM K W H M) (e : LamX.ExtN H H') (t : LamX.Tabs (tabsF K) H') : RelM K W H' M := by
  have sz : ∀ b o, W.Z b = some o → H' b = some o := fun b o z => e b o (R.sub _ _ z) fun ps q => R.ntb b ps (q ▸ z)
  refine ⟨R.ntb, t, fun b o z => sz b o z, R.len, R.nd, fun n a c h1 h2 => ?_⟩
  have hc := R.cell n a c h1 h2
  cases c with
  | lst xs => obtain ⟨z, vs, q, d⟩ := hc; exact ⟨z, vs, e _ _ q (fun _ z => by cases z), d⟩
  | dct kvs => obtain ⟨z, vs, q, d⟩ := hc; exact ⟨z, vs, e _ _ q (fun _ z => by cases z), d⟩
  | frz x => exact hc
  | ins c fs => obtain ⟨z, dx, vs, q, d⟩ := hc; exact ⟨z, dx, vs, e _ _ q (fun _ z => by cases z), d⟩
end
end Ev

namespace Ev
open PySem PySem.Spec PyProof.Rows L2

/-! ### what is wanted of an outcome -/
def ExnR (K : PySem.W.Frag) (W : Wd) (H : Hp) (cls : Value) (dx : Option Addr) (x : Exn) : Prop :=
  cls = .ref (He.ga K x.c) ∧ ∃ d fs, dx = some d ∧ H d = some (.xd fs) ∧ Paired (fun (p : Str × V) (q : Str × PyData) => p.1 = q.1 ∧ Dq K W.Z p.2 q.2) fs x.fs
section
variable {α β γ δ : Type}
def Post (R : Wd → β → α → Prop) (K : PySem.W.Frag) (W0 : WX) (W : Wd) (σ : L2.St) (o : Out α) (Q : β → Hp → Prop) : Prop := match o with
  | .ok x M' => ∀ v H' W', W.le W' → RelM K W' H' M' → R W' v x → Q v H'
  | .exc x M' => ∀ cls dx H' W', W.le W' → RelM K W' H' M' → ExnR K W' H' cls dx x → W0 cls dx σ H'
  | .bad => False
theorem Post.mono {R : Wd → β → α → Prop} {K : PySem.W.Frag} {W0 : WX} {W W1 : Wd} {σ : L2.St} {o : Out α} {Q : β → Hp → Prop} (l : W.le W1) (h : Post R K W0 W σ o Q) : Post R K W0 W1 σ o Q := by
  cases o with
  | ok x M => exact fun v H' W' l' => h v H' W' (l.trans l')
  | exc x M => exact fun c d H' W' l' => h c d H' W' (l.trans l')
  | bad => exact h
theorem Post.imp {R : Wd → β → α → Prop} {K : PySem.W.Frag} {W0 : WX} {W : Wd} {σ : L2.St} {o : Out α} {Q Q' : β → Hp → Prop} (h : Post R K W0 W σ o Q) (hq : ∀ v H, Q v H → Q' v H) : Post R K W0 W σ o Q' := by
  cases o with
  | ok x M => exact fun v H' W' l r q => hq _ _ (h v H' W' l r q)
  | exc x M => exact h
  | bad => exact h
theorem post_bind {R : Wd → β → α → Prop} {R2 : Wd → δ → γ → Prop} {K : PySem.W.Frag} {W0 : WX} {W : Wd} {σ : L2.St} {o : Out α} {k : α → Sto → Out γ} {Q : β → Hp → Prop} {Q2 : δ → Hp → Prop} (P : Post R2 K W0 W σ (o.bind k) Q2)
    (h : ∀ v H1 W1 M1 x, o = .ok x M1 → W.le W1 → RelM K W1 H1 M1 → R W1 v x → Post R2 K W0 W1 σ (k x M1) Q2 → Q v H1) : Post R K W0 W σ o Q := by
  cases o with
  | ok x M => exact fun v H' W' l r q => h v H' W' M x rfl l r q (Post.mono l P)
  | exc x M => exact P
  | bad => exact P
end
def PostS (K : PySem.W.Frag) (W0 : WX) (W : Wd) (o : OutS) (D : Ends) : Prop := match o with
  | .nx ρ' M' => ∀ σ' H' W', W.le W' → RelM K W' H' M' → SltR K W' σ' ρ' → D.nx σ' H'
  | .rt x M' => ∀ v H' W', W.le W' → RelM K W' H' M' → VlR K W' v x → D.rt v H'
  | .bk ρ' M' => ∀ σ' H' W', W.le W' → RelM K W' H' M' → SltR K W' σ' ρ' → D.bk σ' H'
  | .ct ρ' M' => ∀ σ' H' W', W.le W' → RelM K W' H' M' → SltR K W' σ' ρ' → D.ct σ' H'
  | .exc x ρ' M' => ∀ cls dx σ' H' W', W.le W' → RelM K W' H' M' → SltR K W' σ' ρ' → ExnR K W' H' cls dx x → W0 cls dx σ' H'
  | .bad => False
theorem PostS.mono {K : PySem.W.Frag} {W0 : WX} {W W1 : Wd} {o : OutS} {D : Ends} (l : W.le W1) (h : PostS K W0 W o D) : PostS K W0 W1 o D := by
  cases o with
  | nx ρ M => exact fun σ H W' l' => h σ H W' (l.trans l')
  | rt x M => exact fun v H W' l' => h v H W' (l.trans l')
  | bk ρ M => exact fun σ H W' l' => h σ H W' (l.trans l')
  | ct ρ M => exact fun σ H W' l' => h σ H W' (l.trans l')
  | exc x ρ M => exact fun c d σ H W' l' => h c d σ H W' (l.trans l')
  | bad => exact h
def OutS.then (o : OutS) (k : Rho → Sto → OutS) : OutS := match o with
  | .nx ρ M => k ρ M
  | .rt v M => .rt v M
  | .bk ρ M => .bk ρ M
  | .ct ρ M => .ct ρ M
  | .exc x ρ M => .exc x ρ M
  | .bad => .bad
/-- an expression's outcome, then a statement's -/
def bindS {α : Type} (ρ : Rho) (o : Out α) (k : α → Sto → OutS) : OutS := match o with
  | .ok x M => k x M
  | .exc x M => .exc x ρ M
  | .bad => .bad
theorem postS_bind {α β : Type} {R : Wd → β → α → Prop} {K : PySem.W.Frag} {W0 : WX} {W : Wd} {σ : L2.St} {ρ : Rho} {o : Out α} {k : α → Sto → OutS} {D : Ends} {Q : β → Hp → Prop} (sl : SltR K W σ ρ) (P : PostS K W0 W (bindS ρ o k) D)
    (h : ∀ v H1 W1 M1 x, o = .ok x M1 → W.le W1 → RelM K W1 H1 M1 → R W1 v x → PostS K W0 W1 (k x M1) D → Q v H1) : Post R K W0 W σ o Q := by
  cases o with
  | ok x M => exact fun v H' W' l r q => h v H' W' M x rfl l r q (PostS.mono l P)
  | exc x M => exact fun c d H' W' l r q => P c d σ H' W' l r (sl.mono l) q
  | bad => exact P

/-! ### judgements: the readings by outcome -/
abbrev BoR : Wd → Bool → Bool → Prop := fun _ b x => b = x
def aE (K : PySem.W.Frag) (W0 : WX) (g : Rho → Sto → Out Vl) : TE := fun σ H Q => ∃ ρ M W, RelM K W H M ∧ SltR K W σ ρ ∧ Post (VlR K) K W0 W σ (g ρ M) Q
def aT (K : PySem.W.Frag) (W0 : WX) (g : Rho → Sto → Out Bool) : TT := fun σ H Q => ∃ ρ M W, RelM K W H M ∧ SltR K W σ ρ ∧ Post BoR K W0 W σ (g ρ M) Q
def aA (K : PySem.W.Frag) (W0 : WX) (g : Rho → Sto → Out (List Vl)) : TA := fun σ H Q => ∃ ρ M W, RelM K W H M ∧ SltR K W σ ρ ∧ Post (VlsR K) K W0 W σ (g ρ M) Q
def aS (K : PySem.W.Frag) (W0 : WX) (g : Rho → Sto → OutS) : TS := fun D σ H => ∃ ρ M W, RelM K W H M ∧ SltR K W σ ρ ∧ PostS K W0 W (g ρ M) D
/-- the context X with the wish W0 about exceptions -/
abbrev SE (X : Cx) (W0 : WX) (e : Expr) (g : Rho → Sto → Out Vl) : Prop := PE X e (aE X.K W0 g)
abbrev ST (X : Cx) (W0 : WX) (e : Expr) (g : Rho → Sto → Out Bool) : Prop := PT X e (aT X.K W0 g)
abbrev SA (X : Cx) (W0 : WX) (es : List Expr) (g : Rho → Sto → Out (List Vl)) : Prop := PA X es (aA X.K W0 g)
abbrev SS (X : Cx) (W0 : WX) (st : Stmt) (g : Rho → Sto → OutS) : Prop := PS X st (aS X.K W0 g)
abbrev SSs (X : Cx) (W0 : WX) (st : List Stmt) (g : Rho → Sto → OutS) : Prop := PSs X st (aS X.K W0 g)
section
variable {X : Cx}
theorem PE.mono {e : Expr} {t t' : TE} (h : PE X e t) (m : ∀ σ H Q, t' σ H Q → t σ H Q) : PE X e t' := ⟨fun pins s σ H Q I q => h.run pins s σ H Q I (m _ _ _ q)⟩
theorem PT.mono {e : Expr} {t t' : TT} (h : PT X e t) (m : ∀ σ H Q, t' σ H Q → t σ H Q) : PT X e t' := ⟨fun pins s σ H Q I q => h.run pins s σ H Q I (m _ _ _ q)⟩
theorem PW.mono {e : Expr} {t t' : TT} (h : PW X e t) (m : ∀ σ H Q, t' σ H Q → t σ H Q) : PW X e t' := ⟨fun wh pins s σ H Q I q => h.run wh pins s σ H Q I (m _ _ _ q)⟩
theorem PA.mono {e : List Expr} {t t' : TA} (h : PA X e t) (m : ∀ σ H Q, t' σ H Q → t σ H Q) : PA X e t' := ⟨fun pos pins s σ H Q I q => h.run pos pins s σ H Q I (m _ _ _ q)⟩
theorem PS.mono {e : Stmt} {t t' : TS} (h : PS X e t) (m : ∀ D σ H, t' D σ H → t D σ H) : PS X e t' := ⟨fun pins s σ H D I q => h.run pins s σ H D I (m _ _ _ q)⟩
theorem PSs.mono {e : List Stmt} {t t' : TS} (h : PSs X e t) (m : ∀ D σ H, t' D σ H → t D σ H) : PSs X e t' := ⟨fun pins s σ H D I q => h.run pins s σ H D I (m _ _ _ q)⟩
end

/-! ### data -/
mutual
theorem Dq.plain {K : PySem.W.Frag} {H : Hp} : ∀ {v : V} {d : PyData}, Dq K H v d → d.plain = true
  | _, _, .non => by simp [PyData.plain]
  | _, _, .bl b => by simp [PyData.plain]
  | _, _, .int i => by simp [PyData.plain]
  | _, _, .str x => by simp [PyData.plain]
  | _, _, .lst _ a => by simp only [PyData.plain]; exact DqAll.plain a
  | _, _, .tup _ a => by simp only [PyData.plain]; exact DqAll.plain a
theorem DqAll.plain {K : PySem.W.Frag} {H : Hp} : ∀ {vs : List V} {ds : List PyData}, DqAll K H vs ds → PyData.plainAll ds = true
  | _, _, .nil => by simp [PyData.plainAll]
  | _, _, .cons h t => by simp only [PyData.plainAll, Dq.plain h, DqAll.plain t, Bool.and_self]
end
/-- a value as data, read -/
def peek (M : Sto) : Vl → Option PyData
  | .d x => some x
  | .ref n => match M[n]? with
    | some (.lst xs) => some (.list xs)
    | some (.frz x) => some x
    | _ => none
  | .adr _ _ => none
/-- .. to be kept: a list cell is fixed from then on -/
def toD (M : Sto) : Vl → Option (PyData × Sto)
  | .d x => some (x, M)
  | .ref n => match M[n]? with
    | some (.lst xs) => some (.list xs, M.set n (.frz (.list xs)))
    | some (.frz x) => some (x, M)
    | _ => none
  | .adr _ _ => none
def toDs (M : Sto) : List Vl → Option (List PyData × Sto)
  | [] => some ([], M)
  | v :: vs => match toD M v with
    | some (d, M1) => (match toDs M1 vs with
      | some (ds, M2) => some (d :: ds, M2)
      | none => none)
    | none => none
section
variable {K : PySem.W.Frag} {W : Wd} {H : Hp} {M : Sto}
theorem RelM.cellAt (R : RelM K W H M) {n : Nat} {c : Cell} (h : M[n]? = some c) : ∃ a, W.μ[n]? = some a ∧ CellR K W.Z H a c := by
  have hn : n < W.μ.length := by rw [R.len]; exact (List.getElem?_eq_some_iff.mp h).1
  exact ⟨_, List.getElem?_eq_getElem hn, R.cell n _ c (List.getElem?_eq_getElem hn) h⟩
theorem peek_dp (R : RelM K W H M) {v : V} {x : Vl} {d : PyData} (r : VlR K W v x) (h : peek M x = some d) : Dq K H v d := by
  cases x with
  | d y =>
    have e : y = d := Option.some.inj h
    subst e
    exact Dq.mono R.sub r
  | ref n =>
    obtain ⟨a, rfl, hm⟩ := r
    simp only [peek] at h
    cases e : M[n]? with
    | none => rw [e] at h; cases h
    | some c =>
      obtain ⟨a', hm', hc⟩ := R.cellAt e
      rw [hm] at hm'
      cases hm'
      rw [e] at h
      cases c with
      | lst xs =>
        cases h
        obtain ⟨z, vs, hv, hd⟩ := hc
        exact .lst (.inl (.inl hv)) (DqAll.mono R.sub hd)
      | frz y =>
        cases h
        exact Dq.mono R.sub hc.2
      | dct kvs => cases h
      | ins _ _ => cases h
  | adr _ _ => cases h
theorem toD_dp (R : RelM K W H M) {v : V} {x : Vl} {d : PyData} {M' : Sto} (r : VlR K W v x) (h : toD M x = some (d, M')) : ∃ W', W.le W' ∧ RelM K W' H M' ∧ Dq K W'.Z v d := by
  cases x with
  | d y =>
    have e : (y, M) = (d, M') := Option.some.inj h
    cases e
    exact ⟨W, Wd.le.refl W, R, r⟩
  | ref n =>
    obtain ⟨a, rfl, hm⟩ := r
    simp only [toD] at h
    cases e : M[n]? with
    | none => rw [e] at h; cases h
    | some c =>
      rw [e] at h
      cases c with
      | lst xs =>
        cases h
        exact R.freeze hm e
      | frz y =>
        cases h
        obtain ⟨a', hm', hc⟩ := R.cellAt e
        rw [hm] at hm'
        cases hm'
        exact ⟨W, Wd.le.refl W, R, hc.2⟩
      | dct kvs => cases h
      | ins _ _ => cases h
  | adr _ _ => cases h
theorem toDs_dp : ∀ {W : Wd} {M : Sto} {vs : List V} {xs : List Vl} {ds : List PyData} {M' : Sto}, RelM K W H M → VlsR K W vs xs → toDs M xs = some (ds, M') → ∃ W', W.le W' ∧ RelM K W' H M' ∧ DqAll K W'.Z vs ds
  | W, M, _, _, ds, M', R, .nil, h => by
    cases h
    exact ⟨W, Wd.le.refl W, R, .nil⟩
  | W, M, _, _, ds, M', R, .cons (v := v) (x := x) (vs := vs) (xs := xs) h1 h2, h => by
    simp only [toDs] at h
    cases e : toD M x with
    | none => rw [e] at h; cases h
    | some p =>
      obtain ⟨d, M1⟩ := p
      rw [e] at h
      obtain ⟨W1, l1, R1, r1⟩ := toD_dp R h1 e
      have h : (match toDs M1 xs with
        | some (ds, M2) => some (d :: ds, M2)
        | none => none) = some (ds, M') := h
      cases e2 : toDs M1 xs with
      | none => rw [e2] at h; cases h
      | some q =>
        obtain ⟨es, M2⟩ := q
        rw [e2] at h
        cases h
        obtain ⟨W2, l2, R2, r2⟩ := toDs_dp R1 (h2.mono l1) e2
        exact ⟨W2, l1.trans l2, R2, .cons (Dq.mono l2.1 r1) r2⟩
end
/-- reading data off the machine's heap -/
theorem inv_dp {X : Cx} {pins : List (Addr × Obj)} {σ : L2.St} {H : Hp} {s : Shared} {v : V} {u : Value} {d : PyData} (I : Inv X pins σ H s) (h : Dq X.K H v d) (r : RelV v u) : (∃ as, Reads s.heap u d as) ∧ d.plain = true := ⟨Dp.reads I d v u (Dq.dp h) r, Dq.plain h⟩
end Ev

namespace Ev
open PySem PySem.Spec PyProof.Rows L2

/-! ### operators on values -/
/-- a value that has been peeked at -/
def PkR (K : PySem.W.Frag) (W : Wd) (H : Hp) (v : V) (d : PyData) : Prop := Dq K W.Z v d ∨ ∃ a vs xs, v = .ref a ∧ d = .list xs ∧ H a = some (.lst vs) ∧ DqAll K W.Z vs xs
section
variable {K : PySem.W.Frag} {W : Wd} {H : Hp} {M : Sto}
theorem peek_pk (R : RelM K W H M) {v : V} {x : Vl} {d : PyData} (r : VlR K W v x) (h : peek M x = some d) : PkR K W H v d := by
  cases x with
  | d y =>
    have e : y = d := Option.some.inj h
    subst e
    exact .inl r
  | ref n =>
    obtain ⟨a, rfl, hm⟩ := r
    simp only [peek] at h
    cases e : M[n]? with
    | none => rw [e] at h; cases h
    | some c =>
      obtain ⟨a', hm', hc⟩ := R.cellAt e
      rw [hm] at hm'
      cases hm'
      rw [e] at h
      cases c with
      | lst xs =>
        cases h
        obtain ⟨z, vs, hv, hd⟩ := hc
        exact .inr ⟨a, vs, xs, rfl, rfl, hv, hd⟩
      | frz y =>
        cases h
        exact .inl hc.2
      | dct kvs => cases h
      | ins _ _ => cases h
  | adr _ _ => cases h
theorem PkR.dp (R : RelM K W H M) {v : V} {d : PyData} (h : PkR K W H v d) : Dq K H v d := by
  rcases h with h | ⟨a, vs, xs, rfl, rfl, e, hd⟩
  · exact Dq.mono R.sub h
  · exact .lst (.inl (.inl e)) (DqAll.mono R.sub hd)
theorem PkR.int {v : V} {i : Int} (h : PkR K W H v (.int i)) : v = .int i := by
  rcases h with h | ⟨_, _, _, _, e, _⟩
  · cases h; rfl
  · cases e
theorem PkR.bool {v : V} {i : Bool} (h : PkR K W H v (.bool i)) : v = .bl i := by
  rcases h with h | ⟨_, _, _, _, e, _⟩
  · cases h; rfl
  · cases e
theorem PkR.str {v : V} {i : Str} (h : PkR K W H v (.str i)) : v = .str i := by
  rcases h with h | ⟨_, _, _, _, e, _⟩
  · cases h; rfl
  · cases e
theorem PkR.none {v : V} (h : PkR K W H v .none) : v = .non := by
  rcases h with h | ⟨_, _, _, _, e, _⟩
  · cases h; rfl
  · cases e
theorem PkR.list (R : RelM K W H M) {v : V} {xs : List PyData} (h : PkR K W H v (.list xs)) : ∃ a vs, v = .ref a ∧ SqL K H a vs ∧ DqAll K W.Z vs xs := by
  rcases h with h | ⟨a, vs, ys, rfl, e, hv, hd⟩
  · cases h with
    | lst hs hd => exact ⟨_, _, rfl, Same.seqL R.sub hs, hd⟩
  · cases e
    exact ⟨a, vs, rfl, .inl (.inl hv), hd⟩
theorem PkR.tuple (R : RelM K W H M) {v : V} {xs : List PyData} (h : PkR K W H v (.tuple xs)) : ∃ a vs, v = .ref a ∧ TpP K W.Z a vs ∧ SqT K H a vs ∧ DqAll K W.Z vs xs := by
  rcases h with h | ⟨a, vs, ys, rfl, e, hv, hd⟩
  · cases h with
    | tup hs hd => exact ⟨_, _, rfl, hs, Same.seqT R.sub hs.sq, hd⟩
  · cases e
/-- a new list, a new tuple of data -/
theorem RelM.mkL (R : RelM K W H M) {p : Addr} (h : H p = Option.none) {vs : List V} {xs : List PyData} (d : DqAll K W.Z vs xs) : RelM K ⟨upd W.Z p (.lst vs), W.μ⟩ (upd H p (.lst vs)) M ∧ W.le ⟨upd W.Z p (.lst vs), W.μ⟩ ∧ Dq K (upd W.Z p (.lst vs)) (.ref p) (.list xs) := by
  obtain ⟨R', l⟩ := R.newZ h (.lst vs)
  exact ⟨R', l, .lst (.inl (.inl upd_same)) (DqAll.mono l.1 d)⟩
theorem RelM.mkT (R : RelM K W H M) {p : Addr} (h : H p = Option.none) {vs : List V} {xs : List PyData} {H' : Hp} (n : NewT H p vs H') (d : DqAll K W.Z vs xs) : ∃ W', W.le W' ∧ RelM K W' H' M ∧ Dq K W'.Z (.ref p) (.tuple xs) := by
  obtain ⟨o, ho, rfl⟩ := n
  obtain ⟨R', l⟩ := R.newZ h (.frz o (.tup vs))
  exact ⟨_, l, R', .tup (.inl ⟨o, ho, upd_same⟩) (DqAll.mono l.1 d)⟩
end
/-- a value out -/
def give (M : Sto) : Option PyData → Out Vl
  | some c => .ok (.d c) M
  | none => .bad
def lift2 (f : PyData → PyData → Option PyData) (x y : Vl) (M : Sto) : Out Vl := match peek M x, peek M y with
  | some a, some b => give M (f a b)
  | _, _ => .bad
def lift1 (f : PyData → Option PyData) (x : Vl) (M : Sto) : Out Vl := match peek M x with
  | some a => give M (f a)
  | none => .bad
def aO (K : PySem.W.Frag) (W0 : WX) (op : Vl → Vl → Sto → Out Vl) : R2 := fun x y H Q => ∃ (W : Wd) (M : Sto) (σ : L2.St) (v1 v2 : Vl), RelM K W H M ∧ VlR K W x v1 ∧ VlR K W y v2 ∧ Post (VlR K) K W0 W σ (op v1 v2 M) Q
def aU (K : PySem.W.Frag) (W0 : WX) (op : Vl → Sto → Out Vl) : V → Hp → VK → Prop := fun x H Q => ∃ (W : Wd) (M : Sto) (σ : L2.St) (v1 : Vl), RelM K W H M ∧ VlR K W x v1 ∧ Post (VlR K) K W0 W σ (op v1 M) Q
def aC (K : PySem.W.Frag) (W0 : WX) (op : List Vl → Sto → Out Vl) : List V → Hp → VK → Prop := fun xs H Q => ∃ (W : Wd) (M : Sto) (σ : L2.St) (vs : List Vl), RelM K W H M ∧ VlsR K W xs vs ∧ Post (VlR K) K W0 W σ (op vs M) Q
section
variable {K : PySem.W.Frag} {W0 : WX} {W : Wd} {H : Hp} {M : Sto} {σ : L2.St}
theorem lift2_post {f : PyData → PyData → Option PyData} {x y : V} {v1 v2 : Vl} {Q : VK} (R : RelM K W H M) (r1 : VlR K W x v1) (r2 : VlR K W y v2) (P : Post (VlR K) K W0 W σ (lift2 f v1 v2 M) Q) :
    ∃ a b c, PkR K W H x a ∧ PkR K W H y b ∧ f a b = some c ∧ ∀ v H' W', W.le W' → RelM K W' H' M → Dq K W'.Z v c → Q v H' := by
  unfold lift2 at P
  cases e1 : peek M v1 with
  | none => rw [e1] at P; exact P.elim
  | some a =>
    cases e2 : peek M v2 with
    | none => rw [e1, e2] at P; exact P.elim
    | some b =>
      rw [e1, e2] at P
      cases e3 : f a b with
      | none =>
        have P : Post (VlR K) K W0 W σ (give M (f a b)) Q := P
        rw [e3] at P; exact P.elim
      | some c =>
        have P : Post (VlR K) K W0 W σ (give M (f a b)) Q := P
        rw [e3] at P
        exact ⟨a, b, c, peek_pk R r1 e1, peek_pk R r2 e2, e3, P⟩
theorem lift1_post {f : PyData → Option PyData} {x : V} {v1 : Vl} {Q : VK} (R : RelM K W H M) (r1 : VlR K W x v1) (P : Post (VlR K) K W0 W σ (lift1 f v1 M) Q) :
    ∃ a c, PkR K W H x a ∧ f a = some c ∧ ∀ v H' W', W.le W' → RelM K W' H' M → Dq K W'.Z v c → Q v H' := by
  unfold lift1 at P
  cases e1 : peek M v1 with
  | none => rw [e1] at P; exact P.elim
  | some a =>
    rw [e1] at P
    have P : Post (VlR K) K W0 W σ (give M (f a)) Q := P
    cases e3 : f a with
    | none => rw [e3] at P; exact P.elim
    | some c =>
      rw [e3] at P
      exact ⟨a, c, peek_pk R r1 e1, e3, P⟩
end

/-! #### + - * // % ** -/
def addD : PyData → PyData → Option PyData
  | .int i, .int j => some (.int (i + j))
  | .str a, .str b => if a.length + b.length ≤ sizeLine then some (.str (a ++ b)) else none
  | .tuple xs, .tuple ys => if xs.length + ys.length ≤ sizeLine then some (.tuple (xs ++ ys)) else none
  | .list xs, .list ys => if xs.length + ys.length ≤ sizeLine then some (.list (xs ++ ys)) else none
  | _, _ => none
def subD : PyData → PyData → Option PyData
  | .int i, .int j => some (.int (i - j))
  | _, _ => none
/-- n copies -/
def repL {α : Type} (n : Nat) (xs : List α) : List α := (List.replicate n xs).flatten
def mulD : PyData → PyData → Option PyData
  | .int i, .int j => if i.natAbs.log2 + j.natAbs.log2 < 1000000 then some (.int (i * j)) else none
  | .tuple xs, .int k => if xs ≠ [] ∧ 2 ≤ k ∧ k ≤ 1000 ∧ xs.length ≤ 1000 then some (.tuple (repL k.toNat xs)) else if k = 1 then some (.tuple xs) else none
  | .list xs, .int k => if -(2 ^ 63) ≤ k ∧ k < 2 ^ 63 ∧ xs.length * k.toNat ≤ sizeLine then some (.list (repL k.toNat xs)) else none
  | _, _ => none
def divD : PyData → PyData → Option PyData
  | .int i, .int j => if j ≠ 0 ∧ j.natAbs.log2 < 9000 then some (.int (i.fdiv j)) else none
  | _, _ => none
def modD : PyData → PyData → Option PyData
  | .int i, .int j => if j ≠ 0 then some (.int (i.fmod j)) else none
  | _, _ => none
def powD : PyData → PyData → Option PyData
  | .int i, .int j => if 0 ≤ j ∧ j ≤ 1000000 ∧ i.natAbs < 2 ^ 64 then some (.int (i ^ j.toNat)) else none
  | _, _ => none
section
variable {X : Cx} {W0 : WX}
theorem inv_rdL {pins : List (Addr × Obj)} {σ : L2.St} {H : Hp} {s : Shared} {l : Addr} {xs : List V} (I : Inv X pins σ H s) (hH : Rd H l (.lst xs)) :
    xs.length ≤ sizeLine ∧ ∃ (its : List Value) (n : Nat), Vals xs its ∧ xs.length = its.length ∧ s.heap.get? l = some { cls := .type "list", data := .seq its.toArray n } := by
  obtain ⟨z, its, n, r, e⟩ := hH.ok I.hok
  exact ⟨z, its, n, r, r.length, e⟩
theorem op_catL : OpR X (binaryOp .Add) (fun x y H Q => ∃ l b xs zs, x = .ref l ∧ y = .ref b ∧ SqL X.K H l xs ∧ SqL X.K H b zs ∧ xs.length + zs.length ≤ sizeLine ∧ ∀ p, H p = none → Q (.ref p) (upd H p (.lst (xs ++ zs)))) := by
  intro pins s σ H x y v u Q I rx ry h
  obtain ⟨l, b, xs, zs, rfl, rfl, hH, hB, hz, q⟩ := h
  cases rx
  cases ry
  obtain ⟨its, r, hl, z⟩ := I.list hH
  obtain ⟨its2, r2, hl2, z2⟩ := I.list hB
  obtain ⟨⟨cls, dd, data, sl⟩, n, ho, hc, hd0, hd⟩ := id hl
  obtain ⟨⟨cls2, dd2, data2, sl2⟩, n2, ho2, hc2, hd02, hd2⟩ := id hl2
  simp only at hc hd hc2 hd2
  subst hc hd hc2 hd2
  have hlen := r.length
  have hlen2 := r2.length
  refine concat_meets ⟨_, ho, rfl⟩ ⟨_, ho2, rfl⟩ noFill_list_add seq_list_add PySem.F.slot_list_add PySem.F.entry_list_add (PySem.F.args_list_add_2 _ _) (list_addW l b its.toArray its2.toArray n n2 dd dd2 sl sl2 (by rw [List.size_toArray, List.size_toArray]; omega)) ⟨ho, ho2, ?_⟩
  have ea : its.toArray ++ its2.toArray = (its ++ its2).toArray := by simp
  rw [ea]
  exact ⟨.ref _, _, I.lnew (t' := s.toks) (r.append r2) (by rw [List.length_append]; omega), rfl, q _ I.fresh⟩
theorem inv_newT {pins : List (Addr × Obj)} {σ : L2.St} {H : Hp} {s : Shared} (I : Inv X pins σ H s) {h' : Heap} {a : Addr} {us : List Value} {xs : List V} {n t' : Nat} (kp : ∀ b u, s.heap.get? b = some u → h'.get? b = some u) (hle : s.heap.objs.size ≤ a)
    (e : h'.get? a = some { cls := .type "tuple", data := .seq us.toArray n }) (r : Vals xs us) (hz : xs.length ≤ sizeLine) : ∃ H', NewT H a xs H' ∧ Inv X pins σ H' { s with heap := h', toks := t' } :=
  ⟨_, ⟨_, rfl, rfl⟩, I.laid kp hle ⟨e, hz, us, r, _, e, rfl, n, rfl⟩⟩
/-- the same, pushed -/
theorem inv_pushT {pins : List (Addr × Obj)} {σ : L2.St} {H : Hp} {s : Shared} (I : Inv X pins σ H s) {us : List Value} {xs : List V} (r : Vals xs us) (hz : xs.length ≤ sizeLine) :
    ∃ H', NewT H s.heap.objs.size xs H' ∧ Inv X pins σ H' { s with heap := s.heap.push { cls := .type "tuple", data := .seq us.toArray } } :=
  inv_newT (t' := s.toks) I (fun _ _ q => Heap.get?_push_of_some _ q) (Nat.le_refl _) (Heap.get?_push_size _ rfl) r hz
theorem op_catP : OpR X (binaryOp .Add) (fun x y H Q => ∃ a b xs ys, x = .ref a ∧ y = .ref b ∧ SqT X.K H a xs ∧ SqT X.K H b ys ∧ xs.length + ys.length ≤ sizeLine ∧ (xs = [] → Q (.ref b) H) ∧ (ys = [] → Q (.ref a) H) ∧ ∀ p H', H p = none → NewT H p (xs ++ ys) H' → Q (.ref p) H') := by
  intro pins s σ H x y v u Q I rx ry h
  obtain ⟨a, b, xs, ys, rfl, rfl, ha, hb, hz, q0, q1, q2⟩ := h
  by_cases h0 : xs = []
  · exact op_catA pins s σ H _ _ v u Q I rx ry ⟨a, b, xs, ys, rfl, rfl, ha, hb, hz, q0, fun z => absurd h0 z, fun z => absurd h0 z⟩
  · cases rx
    cases ry
    obtain ⟨us, r1, t1, _⟩ := I.tuple ha
    obtain ⟨ws, r2, t2, _⟩ := I.tuple hb
    refine HT.cat_tup t1 t2 (fun z => h0 (r1.nil_iff.mp z)) (fun z => ⟨.ref _, H, I, rfl, q1 (r2.nil_iff.mp z)⟩) (fun _ => ?_) (by rw [← r1.length, ← r2.length]; exact hz)
    obtain ⟨H', n', I'⟩ := inv_pushT I (r1.append r2) (by rw [List.length_append]; exact hz)
    exact ⟨.ref _, H', I', rfl, q2 _ _ (I.hok.fresh (Nat.le_refl _)) n'⟩
theorem op_addV : OpR X (binaryOp .Add) (aO X.K W0 (lift2 addD)) := by
  intro pins s σ H x y v u Q I rx ry h
  obtain ⟨W, M, σ', v1, v2, R, r1, r2, P⟩ := h
  obtain ⟨a, b, c, pa, pb, e, q⟩ := lift2_post R r1 r2 P
  cases a with
  | int i =>
    cases b with
    | int j =>
      cases e
      obtain rfl := pa.int
      obtain rfl := pb.int
      exact op_add pins s σ H _ _ v u Q I rx ry ⟨i, j, rfl, rfl, q _ _ W (Wd.le.refl W) R (.int _)⟩
    | _ => cases e
  | str i =>
    cases b with
    | str j =>
      obtain rfl := pa.str
      obtain rfl := pb.str
      simp only [addD] at e
      split at e
      · rename_i hz
        cases e
        exact op_add_str pins s σ H _ _ v u Q I rx ry ⟨i, j, rfl, rfl, hz, q _ _ W (Wd.le.refl W) R (.str _)⟩
      · cases e
    | _ => cases e
  | tuple xs =>
    cases b with
    | tuple ys =>
      simp only [addD] at e
      split at e
      · rename_i hz
        cases e
        obtain ⟨a, vs, rfl, ha0, ha, hd⟩ := pa.tuple R
        obtain ⟨b, ws, rfl, hb0, hb, he⟩ := pb.tuple R
        refine op_catP pins s σ H _ _ v u Q I rx ry ⟨a, b, vs, ws, rfl, rfl, ha, hb, by rw [hd.length, he.length]; exact hz, fun ev => ?_, fun ew => ?_, fun p H' hp hn => ?_⟩
        · subst ev
          cases hd
          exact q _ _ W (Wd.le.refl W) R (.tup hb0 he)
        · subst ew
          cases he
          rw [List.append_nil] at q
          exact q _ _ W (Wd.le.refl W) R (.tup ha0 hd)
        · obtain ⟨W', l, R', d⟩ := R.mkT hp hn (hd.append he)
          exact q _ _ _ l R' d
      · cases e
    | _ => cases e
  | list xs =>
    cases b with
    | list ys =>
      simp only [addD] at e
      split at e
      · rename_i hz
        cases e
        obtain ⟨a, vs, rfl, ha, hd⟩ := pa.list R
        obtain ⟨b, ws, rfl, hb, he⟩ := pb.list R
        refine op_catL pins s σ H _ _ v u Q I rx ry ⟨a, b, vs, ws, rfl, rfl, ha, hb, by rw [hd.length, he.length]; exact hz, fun p hp => ?_⟩
        obtain ⟨R', l, d⟩ := R.mkL hp (hd.append he)
        exact q _ _ _ l R' d
      · cases e
    | _ => cases e
  | _ => cases e
theorem op_subV : OpR X (binaryOp .Sub) (aO X.K W0 (lift2 subD)) := by
  intro pins s σ H x y v u Q I rx ry h
  obtain ⟨W, M, σ', v1, v2, R, r1, r2, P⟩ := h
  obtain ⟨a, b, c, pa, pb, e, q⟩ := lift2_post R r1 r2 P
  cases a with
  | int i =>
    cases b with
    | int j =>
      cases e
      obtain rfl := pa.int
      obtain rfl := pb.int
      exact op_sub pins s σ H _ _ v u Q I rx ry ⟨i, j, rfl, rfl, q _ _ W (Wd.le.refl W) R (.int _)⟩
    | _ => cases e
  | _ => cases e
theorem op_divV : OpR X (binaryOp .FloorDiv) (aO X.K W0 (lift2 divD)) := by
  intro pins s σ H x y v u Q I rx ry h
  obtain ⟨W, M, σ', v1, v2, R, r1, r2, P⟩ := h
  obtain ⟨a, b, c, pa, pb, e, q⟩ := lift2_post R r1 r2 P
  cases a with
  | int i =>
    cases b with
    | int j =>
      obtain rfl := pa.int
      obtain rfl := pb.int
      simp only [divD] at e
      split at e
      · rename_i hz
        cases e
        exact (opI (X := X) (C := fun i j => j ≠ 0 ∧ j.natAbs.log2 < 9000) (g := fun i j => i.fdiv j) fun i j _ _ _ _ _ hc q => floordiv_int hc.1 q (.inl (PyProof.noPylong_of_log2 hc.2))) pins s σ H _ _ v u Q I rx ry ⟨i, j, rfl, rfl, hz, q _ _ W (Wd.le.refl W) R (.int _)⟩
      · cases e
    | _ => cases e
  | _ => cases e
theorem op_modV : OpR X (binaryOp .Mod) (aO X.K W0 (lift2 modD)) := by
  intro pins s σ H x y v u Q I rx ry h
  obtain ⟨W, M, σ', v1, v2, R, r1, r2, P⟩ := h
  obtain ⟨a, b, c, pa, pb, e, q⟩ := lift2_post R r1 r2 P
  cases a with
  | int i =>
    cases b with
    | int j =>
      obtain rfl := pa.int
      obtain rfl := pb.int
      simp only [modD] at e
      split at e
      · rename_i hz
        cases e
        exact op_modN pins s σ H _ _ v u Q I rx ry ⟨i, j, rfl, rfl, hz, q _ _ W (Wd.le.refl W) R (.int _)⟩
      · cases e
    | _ => cases e
  | _ => cases e
theorem op_powV : OpR X (binaryOp .Pow) (aO X.K W0 (lift2 powD)) := by
  intro pins s σ H x y v u Q I rx ry h
  obtain ⟨W, M, σ', v1, v2, R, r1, r2, P⟩ := h
  obtain ⟨a, b, c, pa, pb, e, q⟩ := lift2_post R r1 r2 P
  cases a with
  | int i =>
    cases b with
    | int j =>
      obtain rfl := pa.int
      obtain rfl := pb.int
      simp only [powD] at e
      split at e
      · rename_i hz
        cases e
        exact op_pow pins s σ H _ _ v u Q I rx ry ⟨i, j, rfl, rfl, hz, q _ _ W (Wd.le.refl W) R (.int _)⟩
      · cases e
    | _ => cases e
  | _ => cases e
end
end Ev

namespace Ev
open PySem PySem.Spec PyProof.Rows L2
open Builtin
theorem tuple_mul1 (l : Addr) (items : Array Value) (n : Nat) (dd : Option Addr) (sl : Array (Option Value)) (x : Int) (u : Tok) (c0 : (decide (x < -(2 ^ 63)) || decide (x ≥ 2 ^ 63)) = false) (c1 : (items.isEmpty || x == 1) = true) :
    Meets (Builtin.«tuple.__mul__» ⟨[.ref l, .int x u], []⟩) (fun _ R s => s.heap.get? l = some { cls := .type "tuple", dict := dd, data := .seq items n, slots := sl } ∧ R (.ok (.ret (Value.ref l))) s) :=
  .of_wp fun prog w A R s h => by
    obtain ⟨hp, g, d, tk, os⟩ := s
    obtain ⟨hl, h⟩ := h
    have f1 := AutoSeq1.idx_int
    wp_walk using wpAny_loadPart' hl
    refine wpAny_ite_false (decide_eq_false (by rw [c0]; exact Bool.false_ne_true)) ?_
    wp_walk using wpAny_loadPart' hl
    exact ⟨_, rfl, h⟩
theorem int_rmul_listW (a : Int) (t : Tok) (l : Addr) (items : Array Value) (n : Nat) (dd : Option Addr) (sl : Array (Option Value)) :
    Meets (Builtin.«int.__rmul__» ⟨[.int a t, .ref l], []⟩) (fun _ R s => s.heap.get? l = some { cls := .type "list", dict := dd, data := .seq items n, slots := sl } ∧ R (.ok (.ret Value.notImplemented)) s) :=
  .of_wp fun prog w A R s h => by obtain ⟨hp, g, d, tk, os⟩ := s; obtain ⟨hl, h⟩ := h; wp_walk; exact ⟨_, rfl, h⟩
theorem list_mulW (l : Addr) (items : Array Value) (n : Nat) (dd : Option Addr) (sl : Array (Option Value)) (x : Int) (u : Tok) (hc0 : ¬(!Builtin.List.listFitsIndex x) = true) (hc1 : ¬items.size * x.toNat > (2 ^ 63 - 1) / 8) (hc2 : ¬Builtin.List.listTooLong (items.size * x.toNat) = true) :
    Meets (Builtin.«list.__mul__» ⟨[.ref l, .int x u], []⟩) (fun _ R s => s.heap.get? l = some { cls := .type "list", dict := dd, data := .seq items n, slots := sl } ∧ R (.ok (.ret (Value.ref s.heap.objs.size))) { s with heap := s.heap.push { cls := Value.type "list", data := Data.seq (List.foldl (fun x1 x2 => x1 ++ x2) #[] (List.replicate (if items.isEmpty = true then 0 else x.toNat) items)) }, toks := s.toks }) :=
  .of_wp fun prog w A R s h => by
    obtain ⟨hp, g, d, tk, os⟩ := s; obtain ⟨hl, h⟩ := h
    have hsz := AutoListH.joined_fits hc2
    wp_walk; refine wpAny_ite_false (decide_eq_false (Nat.not_lt.mpr hsz)) ?_; wp_walk; exact ⟨_, rfl, h⟩
section
variable {X : Cx} {W0 : WX}
theorem op_repT1 : OpR X (binaryOp .Mult) (fun x y H Q => ∃ l xs, x = .ref l ∧ y = .int 1 ∧ SqT X.K H l xs ∧ Q (.ref l) H) := by
  intro pins s σ H x y v u Q I rx ry h
  obtain ⟨l, xs, rfl, rfl, hT, q⟩ := h
  cases rx
  obtain ⟨t, rfl⟩ := ry
  obtain ⟨its, r, ⟨⟨cls, dd, data, sl⟩, ho, hc, n, hd⟩, hs⟩ := I.tuple hT
  simp only at hc hd
  subst hc hd
  exact wpAny_binaryOp_repeat_ref (T := "tuple") (U := "int") (by decide) ⟨_, ho, rfl⟩ (fun s' => typeIs_int s' 1 t) noFill_tuple_mul F.fills_int_mul F.slot_int_rmul repeat_tuple F.slot_int_index.lookup
    (call_meets F.slot_int_rmul (typeIs_int s 1 t) F.entry_int_rmul (F.args_int_rmul_2 _ _) (int_rmul_tuple 1 t l its.toArray n dd sl)
      ⟨ho, rfl, ⟨_, ho, rfl⟩, call_meets F.slot_tuple_mul ⟨_, ho, rfl⟩ F.entry_tuple_mul (F.args_tuple_mul_2 _ _) (tuple_mul1 l its.toArray n dd sl 1 t (by decide) (by simp)) ⟨ho, ⟨.ref l, H, I, rfl, q⟩⟩⟩)
theorem op_repL : OpR X (binaryOp .Mult) (fun x y H Q => ∃ l k xs, x = .ref l ∧ y = .int k ∧ SqL X.K H l xs ∧ -(2 ^ 63) ≤ k ∧ k < 2 ^ 63 ∧ xs.length * k.toNat ≤ sizeLine ∧
  ∀ p, H p = none → Q (.ref p) (upd H p (.lst (List.replicate k.toNat xs).flatten))) := by
  intro pins s σ H x y v u Q I rx ry h
  obtain ⟨l, k, xs, rfl, rfl, hH, h1, h2, hz, q⟩ := h
  cases rx
  obtain ⟨t, rfl⟩ := ry
  obtain ⟨its, r, hpl, z⟩ := I.list hH
  obtain ⟨⟨cls, dd, data, sl⟩, n, e, hc, hd0, hd⟩ := id hpl
  simp only at hc hd
  subst hc hd
  have hl := r.length
  have hlen : its.toArray.size * k.toNat ≤ sizeLine := by rw [List.size_toArray, ← hl]; exact hz
  have hcap : ¬ its.toArray.size * k.toNat > (2 ^ 63 - 1) / 8 := by
    have : (sizeLine : Nat) ≤ (2 ^ 63 - 1) / 8 := by decide
    omega
  have hfit : ¬ (!Builtin.List.listFitsIndex k) = true := by
    rw [fitsIndex_both h1 h2]
    exact Bool.false_ne_true
  have hlong : ¬ Builtin.List.listTooLong (its.toArray.size * k.toNat) = true := by
    rw [notLongL hlen]
    exact Bool.false_ne_true
  have hnew : List.foldl (fun x1 x2 => x1 ++ x2) #[] (List.replicate (if its.toArray.isEmpty = true then 0 else k.toNat) its.toArray) = (List.replicate k.toNat its).flatten.toArray := by
    have f0 : ∀ m : Nat, List.foldl (fun x1 x2 => x1 ++ x2) #[] (List.replicate m its.toArray) = (List.replicate m its).flatten.toArray := fun m => by
      have := foldl_rep its m []
      rw [List.nil_append] at this
      exact this
    rw [f0]
    cases its with
    | nil => simp
    | cons a r' => rw [if_neg (by simp)]
  refine wpAny_binaryOp_repeat_ref (T := "list") (U := "int") (by decide) ⟨_, e, rfl⟩ (fun s' => typeIs_int s' k t) noFill_list_mul F.fills_int_mul F.slot_int_rmul repeat_list F.slot_int_index.lookup
    (call_meets F.slot_int_rmul (typeIs_int s k t) F.entry_int_rmul (F.args_int_rmul_2 _ _) (int_rmul_listW k t l its.toArray n dd sl)
      ⟨e, rfl, ⟨_, e, rfl⟩, call_meets F.slot_list_mul ⟨_, e, rfl⟩ F.entry_list_mul (F.args_list_mul_2 _ _) (list_mulW l its.toArray n dd sl k t hfit hcap hlong) ⟨e, ?_⟩⟩)
  rw [hnew]
  exact ⟨.ref _, _, I.lnew (t' := s.toks) (r.rep k.toNat) (by rw [PyProof.Rows.lm_len_rep_flat, Nat.mul_comm]; exact hz), rfl, q _ I.fresh⟩
theorem op_repP : OpR X (binaryOp .Mult) (fun x y H Q => ∃ l k xs, x = .ref l ∧ y = .int k ∧ SqT X.K H l xs ∧ xs ≠ [] ∧ 2 ≤ k ∧ k ≤ 1000 ∧ xs.length ≤ 1000 ∧ ∀ p H', H p = none → NewT H p (List.replicate k.toNat xs).flatten H' → Q (.ref p) H') := by
  intro pins s σ H x y v u Q I rx ry h
  obtain ⟨l, k, xs, rfl, rfl, hT, hne, h1, h2, hz, q⟩ := h
  cases rx
  obtain ⟨t, rfl⟩ := ry
  obtain ⟨us, r, ⟨⟨cls, dd, data, sl⟩, ho, hc, n, hd⟩, hs⟩ := I.tuple hT
  simp only at hc hd
  subst hc hd
  have hle := r.length
  have hemp : us.toArray.isEmpty = false := by
    cases us with
    | nil => exact absurd (List.eq_nil_of_length_eq_zero hle) hne
    | cons _ _ => rfl
  have hsize : us.toArray.size = xs.length := by rw [List.size_toArray, hle]
  have hm : ((us.toArray.size : Nat) : Int) * k ≤ 1000000 := by
    rw [hsize]
    have : ((xs.length : Nat) : Int) * k ≤ 1000 * k := Int.mul_le_mul_of_nonneg_right (by omega) (by omega)
    omega
  have hmax : k.toNat * xs.length ≤ 1000 * 1000 := Nat.mul_le_mul (by omega) hz
  have hfl : (List.replicate k.toNat us).flatten.length ≤ sizeLine := by rw [PyProof.Rows.lm_len_rep_flat, ← hle, sizeLine_eq]; omega
  have b0 : (decide (k < -(2 ^ 63)) || decide (k ≥ 2 ^ 63)) = false := by
    rw [decide_eq_false (by omega), decide_eq_false (by omega)]; rfl
  have b1 : (us.toArray.isEmpty || k == 1) = false := by
    rw [hemp, Bool.false_or]; exact beq_eq_false_iff_ne.mpr (by omega)
  have b2 : (decide (k ≤ 0) || us.toArray.isEmpty) = false := by
    rw [hemp, Bool.or_false]; exact decide_eq_false (by omega)
  have b4 : Builtin.Tuple.tupleTooMany (((us.toArray.size : Nat) : Int) * k) = false := by
    unfold Builtin.Tuple.tupleTooMany
    rw [sizeLine_eq]; exact decide_eq_false (by omega)
  refine wpAny_binaryOp_repeat_ref (T := "tuple") (U := "int") (by decide) ⟨_, ho, rfl⟩ (fun s' => typeIs_int s' k t) noFill_tuple_mul F.fills_int_mul F.slot_int_rmul repeat_tuple F.slot_int_index.lookup
    (call_meets F.slot_int_rmul (typeIs_int s k t) F.entry_int_rmul (F.args_int_rmul_2 _ _) (int_rmul_tuple k t l us.toArray n dd sl)
      ⟨ho, rfl, ⟨_, ho, rfl⟩, call_meets F.slot_tuple_mul ⟨_, ho, rfl⟩ F.entry_tuple_mul (F.args_tuple_mul_2 _ _) (tuple_mulW l us.toArray n dd sl k t b0 b1 b2 (by omega) b4 (by rw [size_rep, List.size_toArray]; exact hfl)) ⟨ho, ?_⟩⟩)
  rw [size_rep]
  obtain ⟨H', n', I'⟩ := inv_pushT I (r.rep k.toNat) (by rw [PyProof.Rows.lm_len_rep_flat, sizeLine_eq]; omega)
  exact ⟨.ref _, H', I', rfl, q _ _ (I.hok.fresh (Nat.le_refl _)) n'⟩
theorem DqAll.rep {K : PySem.W.Frag} {H : Hp} {vs : List V} {ds : List PyData} (h : DqAll K H vs ds) : ∀ n : Nat, DqAll K H (List.replicate n vs).flatten (List.replicate n ds).flatten
  | 0 => .nil
  | n + 1 => by
    rw [List.replicate_succ, List.replicate_succ, List.flatten_cons, List.flatten_cons]
    exact h.append (DqAll.rep h n)
theorem op_mulV : OpR X (binaryOp .Mult) (aO X.K W0 (lift2 mulD)) := by
  intro pins s σ H x y v u Q I rx ry h
  obtain ⟨W, M, σ', v1, v2, R, r1, r2, P⟩ := h
  obtain ⟨a, b, c, pa, pb, e, q⟩ := lift2_post R r1 r2 P
  cases a with
  | int i =>
    cases b with
    | int j =>
      obtain rfl := pa.int
      obtain rfl := pb.int
      simp only [mulD] at e
      split at e
      · rename_i hz
        cases e
        exact op_mulW pins s σ H _ _ v u Q I rx ry ⟨i, j, rfl, rfl, hz, q _ _ W (Wd.le.refl W) R (.int _)⟩
      · cases e
    | _ => cases e
  | tuple xs =>
    cases b with
    | int k =>
      obtain rfl := pb.int
      obtain ⟨a, vs, rfl, ha0, ha, hd⟩ := pa.tuple R
      simp only [mulD] at e
      split at e
      · rename_i hz
        cases e
        obtain ⟨h1, h2, h3, h4⟩ := hz
        refine op_repP pins s σ H _ _ v u Q I rx ry ⟨a, k, vs, rfl, rfl, ha, fun ev => h1 ?_, h2, h3, by rw [hd.length]; exact h4, fun p H' hp hn => ?_⟩
        · subst ev
          cases hd
          rfl
        · obtain ⟨W', l, R', d⟩ := R.mkT hp hn (hd.rep k.toNat)
          exact q _ _ _ l R' d
      · split at e
        · rename_i hk
          subst hk
          cases e
          exact op_repT1 pins s σ H _ _ v u Q I rx ry ⟨a, vs, rfl, rfl, ha, q _ _ W (Wd.le.refl W) R (.tup ha0 hd)⟩
        · cases e
    | _ => cases e
  | list xs =>
    cases b with
    | int k =>
      obtain rfl := pb.int
      obtain ⟨a, vs, rfl, ha, hd⟩ := pa.list R
      simp only [mulD] at e
      split at e
      · rename_i hz
        cases e
        obtain ⟨h1, h2, h3⟩ := hz
        refine op_repL pins s σ H _ _ v u Q I rx ry ⟨a, k, vs, rfl, rfl, ha, h1, h2, by rw [hd.length]; exact h3, fun p hp => ?_⟩
        obtain ⟨R', l, d⟩ := R.mkL hp (hd.rep k.toNat)
        exact q _ _ _ l R' d
      · cases e
    | _ => cases e
  | _ => cases e
end
end Ev

namespace Ev
open PySem PySem.Spec PyProof.Rows L2

/-! #### == != < <= > >= in is -/
def eqD (a b : PyData) : Option PyData := if min a.depth b.depth ≤ 64 then some (.bool (PyData.eqv a b)) else none
def neD (a b : PyData) : Option PyData := if min a.depth b.depth ≤ 64 then some (.bool (!PyData.eqv a b)) else none
def cmpI (p : Int → Int → Bool) : PyData → PyData → Option PyData
  | .int i, .int j => some (.bool (p i j))
  | _, _ => none
def itemsOf : PyData → Option (List PyData)
  | .list xs => some xs
  | .tuple xs => some xs
  | _ => none
/-- a one-sign text within a text; an item within a list or tuple -/
def inD (neg : Bool) (a : PyData) : PyData → Option PyData
  | .list xs => if min (PyData.depthAll xs) a.depth ≤ 64 then some (.bool (neg ^^ xs.any fun y => PyData.eqv y a)) else none
  | .tuple xs => if min (PyData.depthAll xs) a.depth ≤ 64 then some (.bool (neg ^^ xs.any fun y => PyData.eqv y a)) else none
  | .str y => match a with
    | .str x => some (.bool (neg ^^ !(Builtin.Str.occurrences y x 0 y.length 1).isEmpty))
    | _ => none
  | _ => none
def isNoneV (neg : Bool) : Vl → Sto → Out Vl
  | .d .none, M => .ok (.d (.bool (!neg))) M
  | _, M => .ok (.d (.bool neg)) M
/-- a datum's truth -/
def truD : PyData → Option Bool
  | .str x => if x.length ≤ sizeLine then some (PyData.truthy (.str x)) else none
  | x => some x.truthy
def truV (M : Sto) (x : Vl) : Out Bool := match peek M x with
  | some a => (match truD a with
    | some b => .ok b M
    | none => .bad)
  | none => match x with
    | .ref n => (match M[n]? with
      | some (.dct kvs) => .ok (!kvs.isEmpty) M
      | _ => .bad)
    | _ => .bad
section
variable {X : Cx} {W0 : WX}
theorem op_eqV (hu : X.A.units + 64 < cLine) : OpR X (compareOp .Eq) (aO X.K W0 (lift2 eqD)) := by
  intro pins s σ H x y v u Q I rx ry h
  obtain ⟨W, M, σ', v1, v2, R, r1, r2, P⟩ := h
  obtain ⟨a, b, c, pa, pb, e, q⟩ := lift2_post R r1 r2 P
  unfold eqD at e
  split at e
  · rename_i hd
    cases e
    obtain ⟨⟨as, ra⟩, ha⟩ := inv_dp I (pa.dp R) rx
    obtain ⟨⟨bs, rb⟩, hb⟩ := inv_dp I (pb.dp R) ry
    exact SeqAt.eq_plain ra rb ha hb (by omega) ⟨.bl _, H, I, rfl, q _ _ W (Wd.le.refl W) R (.bl _)⟩
  · cases e
theorem op_neV (hu : X.A.units + 64 < cLine) : OpR X (compareOp .NotEq) (aO X.K W0 (lift2 neD)) := by
  intro pins s σ H x y v u Q I rx ry h
  obtain ⟨W, M, σ', v1, v2, R, r1, r2, P⟩ := h
  obtain ⟨a, b, c, pa, pb, e, q⟩ := lift2_post R r1 r2 P
  unfold neD at e
  split at e
  · rename_i hd
    cases e
    obtain ⟨⟨as, ra⟩, ha⟩ := inv_dp I (pa.dp R) rx
    obtain ⟨⟨bs, rb⟩, hb⟩ := inv_dp I (pb.dp R) ry
    exact SeqAt.ne_plain ra rb ha hb (by omega) ⟨.bl _, H, I, rfl, q _ _ W (Wd.le.refl W) R (.bl _)⟩
  · cases e
theorem op_cmpI {op : CmpOp} {p : Int → Int → Bool} (ho : OpR X (compareOp op) (rI0 fun i j => .bl (p i j))) : OpR X (compareOp op) (aO X.K W0 (lift2 (cmpI p))) := by
  intro pins s σ H x y v u Q I rx ry h
  obtain ⟨W, M, σ', v1, v2, R, r1, r2, P⟩ := h
  obtain ⟨a, b, c, pa, pb, e, q⟩ := lift2_post R r1 r2 P
  cases a with
  | int i =>
    cases b with
    | int j =>
      obtain rfl := pa.int
      obtain rfl := pb.int
      cases e
      exact ho pins s σ H _ _ v u Q I rx ry ⟨i, j, rfl, rfl, q _ _ W (Wd.le.refl W) R (.bl _)⟩
    | _ => cases e
  | _ => cases e
theorem op_inV (hu : X.A.units + 65 < cLine) : OpR X (compareOp .In) (aO X.K W0 (lift2 (inD false))) := by
  intro pins s σ H x y v u Q I rx ry h
  obtain ⟨W, M, σ', v1, v2, R, r1, r2, P⟩ := h
  obtain ⟨a, b, c, pa, pb, e, q⟩ := lift2_post R r1 r2 P
  obtain ⟨⟨as, ra⟩, ha⟩ := inv_dp I (pa.dp R) rx
  obtain ⟨⟨bs, rb⟩, hb⟩ := inv_dp I (pb.dp R) ry
  cases b with
  | list xs =>
    simp only [inD] at e
    split at e
    · rename_i hd
      cases e
      exact SeqAt.in_list_data rb ra (by simpa [PyData.plain] using hb) ha (by omega) ⟨.bl _, H, I, rfl, by simpa using q _ _ W (Wd.le.refl W) R (.bl _)⟩
    · cases e
  | tuple xs =>
    simp only [inD] at e
    split at e
    · rename_i hd
      cases e
      exact SeqAt.in_tuple_data rb ra (by simpa [PyData.plain] using hb) ha (by omega) ⟨.bl _, H, I, rfl, by simpa using q _ _ W (Wd.le.refl W) R (.bl _)⟩
    · cases e
  | str z =>
    cases a with
    | str w =>
      cases e
      obtain rfl := pa.str
      obtain rfl := pb.str
      exact op_in_str pins s σ H _ _ v u Q I rx ry ⟨w, z, rfl, rfl, by simpa using q _ _ W (Wd.le.refl W) R (.bl _)⟩
    | _ => cases e
  | _ => cases e
theorem op_notInV (hu : X.A.units + 65 < cLine) : OpR X (compareOp .NotIn) (aO X.K W0 (lift2 (inD true))) := by
  intro pins s σ H x y v u Q I rx ry h
  obtain ⟨W, M, σ', v1, v2, R, r1, r2, P⟩ := h
  obtain ⟨a, b, c, pa, pb, e, q⟩ := lift2_post R r1 r2 P
  obtain ⟨⟨as, ra⟩, ha⟩ := inv_dp I (pa.dp R) rx
  obtain ⟨⟨bs, rb⟩, hb⟩ := inv_dp I (pb.dp R) ry
  cases b with
  | list xs =>
    simp only [inD] at e
    split at e
    · rename_i hd
      cases e
      exact SeqAt.notIn_list_data rb ra (by simpa [PyData.plain] using hb) ha (by omega) ⟨.bl _, H, I, rfl, by simpa using q _ _ W (Wd.le.refl W) R (.bl _)⟩
    · cases e
  | tuple xs =>
    simp only [inD] at e
    split at e
    · rename_i hd
      cases e
      exact SeqAt.notIn_tuple_data rb ra (by simpa [PyData.plain] using hb) ha (by omega) ⟨.bl _, H, I, rfl, by simpa using q _ _ W (Wd.le.refl W) R (.bl _)⟩
    · cases e
  | str z =>
    cases a with
    | str w =>
      cases e
      obtain rfl := pa.str
      obtain rfl := pb.str
      exact op_notin_str pins s σ H _ _ v u Q I rx ry ⟨w, z, rfl, rfl, by simpa using q _ _ W (Wd.le.refl W) R (.bl _)⟩
    | _ => cases e
  | _ => cases e
theorem vlr_non {K : PySem.W.Frag} {W : Wd} {x : V} {v : Vl} (r : VlR K W x v) : decide (x = V.non) = (match v with | .d .none => true | _ => false) := by
  cases v with
  | d y => cases r <;> rfl
  | ref n => obtain ⟨a, rfl, _⟩ := r; rfl
  | adr a _ => obtain ⟨rfl, _⟩ := r; rfl
theorem isNone_post {K : PySem.W.Frag} {W : Wd} {M : Sto} {σ : L2.St} {H : Hp} {x : V} {v : Vl} {neg : Bool} {Q : VK} (R : RelM K W H M) (r : VlR K W x v) (P : Post (VlR K) K W0 W σ (isNoneV neg v M) Q) : Q (.bl (neg ^^ decide (x = V.non))) H := by
  rw [vlr_non r]
  cases v with
  | d y =>
    cases y with
    | none => simpa using P _ _ W (Wd.le.refl W) R (.bl (!neg))
    | _ => simpa using P _ _ W (Wd.le.refl W) R (.bl neg)
  | ref n => simpa using P _ _ W (Wd.le.refl W) R (.bl neg)
  | adr _ _ => simpa using P _ _ W (Wd.le.refl W) R (.bl neg)
theorem op_isNoneV : OpR X (compareOp .Is) (fun x y H Q => y = .non ∧ aU X.K W0 (isNoneV false) x H Q) := by
  intro pins s σ H x y v u Q I rx ry h
  obtain ⟨rfl, W, M, σ', v1, R, r1, P⟩ := h
  refine op_isN pins s σ H _ _ v u Q I rx ry ⟨rfl, ?_⟩
  simpa using isNone_post R r1 P
theorem op_notNoneV : OpR X (compareOp .IsNot) (fun x y H Q => y = .non ∧ aU X.K W0 (isNoneV true) x H Q) := by
  intro pins s σ H x y v u Q I rx ry h
  obtain ⟨rfl, W, M, σ', v1, R, r1, P⟩ := h
  refine op_notN pins s σ H _ _ v u Q I rx ry ⟨rfl, ?_⟩
  simpa using isNone_post R r1 P
/-- truth -/
theorem dq_tru {K : PySem.W.Frag} {H : Hp} {x : V} {d : PyData} {b : Bool} (h : Dq K H x d) (e : truD d = some b) : TruV K x H b := by
  cases h with
  | non => cases e; rfl
  | bl b => cases e; rfl
  | int i => cases e; rfl
  | str z =>
    simp only [truD] at e
    split at e
    · rename_i hz
      cases e
      exact ⟨hz, rfl⟩
    · cases e
  | lst hs hd =>
    cases e
    refine .inl ⟨_, hs, ?_⟩
    simp only [PyData.truthy]
    cases hd <;> rfl
  | tup hs hd =>
    cases e
    refine .inr (.inl ⟨_, hs.sq, ?_⟩)
    simp only [PyData.truthy]
    cases hd <;> rfl
theorem truV_ok {K : PySem.W.Frag} {W : Wd} {M M' : Sto} {H : Hp} {x : V} {v : Vl} {b : Bool} (R : RelM K W H M) (r : VlR K W x v) (P : truV M v = .ok b M') : M' = M ∧ TruV K x H b := by
  unfold truV at P
  cases e1 : peek M v with
  | some a =>
    simp only [e1] at P
    cases e2 : truD a with
    | none => simp only [e2] at P; cases P
    | some c =>
      simp only [e2] at P
      cases P
      exact ⟨rfl, dq_tru (peek_dp R r e1) e2⟩
  | none =>
    cases v with
    | d y => cases e1
    | adr _ _ => simp only [e1] at P; cases P
    | ref n =>
      simp only [e1] at P
      obtain ⟨a, rfl, hm⟩ := r
      cases e2 : M[n]? with
      | none => simp only [e2] at P; cases P
      | some c =>
        obtain ⟨a', hm', hc⟩ := R.cellAt e2
        rw [hm] at hm'
        cases hm'
        cases c with
        | dct kvs =>
          simp only [e2] at P
          cases P
          obtain ⟨z, vs, hv, hp⟩ := hc
          refine ⟨rfl, .inr (.inr ⟨vs, hv, ?_⟩)⟩
          cases hp <;> rfl
        | lst xs => simp only [e2] at P; cases P
        | frz x => simp only [e2] at P; cases P
        | ins _ _ => simp only [e2] at P; cases P
theorem truV_nx {x : Vl} {e : Exn} {M M' : Sto} (h : truV M x = .exc e M') : False := by
  unfold truV at h
  split at h
  · split at h <;> cases h
  · split at h
    · split at h <;> cases h
    · cases h
end
end Ev

namespace Ev
open PySem PySem.Spec PyProof.Rows L2

/-! ### expressions: names, constants, operators -/
abbrev Ev0 (α : Type) := Rho → Sto → Out α
def gVar (i : Nat) : Ev0 Vl := fun ρ M => match ρ[i]? with
  | some (some v) => .ok v M
  | _ => .bad
def gCon (d : PyData) : Ev0 Vl := fun _ M => .ok (.d d) M
def gBin (op : Vl → Vl → Sto → Out Vl) (g h : Ev0 Vl) : Ev0 Vl := fun ρ M => (g ρ M).bind fun x M1 => (h ρ M1).bind fun y M2 => op x y M2
def gUn (op : Vl → Sto → Out Vl) (g : Ev0 Vl) : Ev0 Vl := fun ρ M => (g ρ M).bind fun x M1 => op x M1
/-- a value's truth -/
def gTru (g : Ev0 Vl) : Ev0 Bool := fun ρ M => (g ρ M).bind fun x M1 => truV M1 x
def asBool : Vl → Sto → Out Bool
  | .d (.bool b), M => .ok b M
  | _, _ => .bad
def gB (g : Ev0 Vl) : Ev0 Bool := fun ρ M => (g ρ M).bind fun x M1 => asBool x M1
def gIf {α : Type} (c : Ev0 Bool) (g h : Ev0 α) : Ev0 α := fun ρ M => (c ρ M).bind fun b M1 => if b then g ρ M1 else h ρ M1
def gAndT (c d : Ev0 Bool) : Ev0 Bool := fun ρ M => (c ρ M).bind fun b M1 => if b then d ρ M1 else .ok false M1
def gOrT (c d : Ev0 Bool) : Ev0 Bool := fun ρ M => (c ρ M).bind fun b M1 => if b then .ok true M1 else d ρ M1
def gNotT (c : Ev0 Bool) : Ev0 Bool := fun ρ M => (c ρ M).bind fun b M1 => .ok (!b) M1
/-- x and y, x or y as values -/
def gAnd (g h : Ev0 Vl) : Ev0 Vl := fun ρ M => (g ρ M).bind fun x M1 => (truV M1 x).bind fun b M2 => if b then h ρ M2 else .ok x M2
def gOr (g h : Ev0 Vl) : Ev0 Vl := fun ρ M => (g ρ M).bind fun x M1 => (truV M1 x).bind fun b M2 => if b then .ok x M2 else h ρ M2
def gNot (g : Ev0 Vl) : Ev0 Vl := fun ρ M => (g ρ M).bind fun x M1 => (truV M1 x).bind fun b M2 => .ok (.d (.bool (!b))) M2
/-- a op b op' c -/
def gChain (op op' : Vl → Vl → Sto → Out Vl) (a b c : Ev0 Vl) : Ev0 Vl := fun ρ M => (a ρ M).bind fun x M1 => (b ρ M1).bind fun y M2 => (op x y M2).bind fun z M3 => (asBool z M3).bind fun k M4 =>
  if k then (c ρ M4).bind fun w M5 => op' y w M5 else .ok (.d (.bool false)) M4
def gNil : Ev0 (List Vl) := fun _ M => .ok [] M
def gCons (g : Ev0 Vl) (h : Ev0 (List Vl)) : Ev0 (List Vl) := fun ρ M => (g ρ M).bind fun x M1 => (h ρ M1).bind fun xs M2 => .ok (x :: xs) M2
section
variable {K : PySem.W.Frag} {W0 : WX} {W : Wd} {H : Hp} {M : Sto} {σ : L2.St}
/-- the truth of a value at hand, then what follows -/
theorem tru_bind {γ δ : Type} {R2 : Wd → δ → γ → Prop} {v : V} {x : Vl} {k : Bool → Sto → Out γ} {Q2 : δ → Hp → Prop} (R : RelM K W H M) (r : VlR K W v x) (P : Post R2 K W0 W σ ((truV M x).bind k) Q2) : ∃ b, TruV K v H b ∧ Post R2 K W0 W σ (k b M) Q2 := by
  cases e : truV M x with
  | ok b M' =>
    obtain ⟨h, t⟩ := truV_ok R r e
    subst h
    rw [e] at P
    exact ⟨b, t, P⟩
  | exc e' M' => exact (truV_nx e).elim
  | bad => rw [e] at P; exact P.elim
theorem asB_bind {γ δ : Type} {R2 : Wd → δ → γ → Prop} {v : V} {x : Vl} {k : Bool → Sto → Out γ} {Q2 : δ → Hp → Prop} (r : VlR K W v x) (P : Post R2 K W0 W σ ((asBool x M).bind k) Q2) : ∃ b, v = .bl b ∧ Post R2 K W0 W σ (k b M) Q2 := by
  cases x with
  | d y =>
    cases y with
    | bool b =>
      cases r
      exact ⟨b, rfl, P⟩
    | _ => exact P.elim
  | ref n => exact P.elim
  | adr _ _ => exact P.elim
end
section
variable {X : Cx} {W0 : WX} {a b c : Expr} {ga gb gc : Ev0 Vl} {ca cb : Ev0 Bool} {pos : Pos}
theorem se_var {i : Nat} {x : Str} (hN : X.N[i]? = some x) (hv : Vis X.env.scope x) (hd : (x == ("__debug__" : Str)) = false) (hcd : (x == ("__classdict__" : Str)) = false) : SE X W0 (.Name x pos) (gVar i) := by
  refine PE.mono (pe_var hN hv hd hcd) fun σ H Q h => ?_
  obtain ⟨ρ, M, W, R, S, P⟩ := h
  unfold gVar at P
  cases e : ρ[i]? with
  | none => simp only [e] at P; exact P.elim
  | some o =>
    cases o with
    | none => simp only [e] at P; exact P.elim
    | some v =>
      simp only [e] at P
      obtain ⟨u, h1, h2⟩ := S.2 i v e
      exact ⟨u, h1, P u H W (Wd.le.refl W) R h2⟩
theorem se_tC {e : Expr} {v : V} {d : PyData} (h : PE X e (tC v)) (r : ∀ Z, Dq X.K Z v d) : SE X W0 e (gCon d) := by
  refine PE.mono h fun σ H Q h => ?_
  obtain ⟨ρ, M, W, R, S, P⟩ := h
  exact P v H W (Wd.le.refl W) R (r _)
theorem se_int {i : Int} {j : Nat} : SE X W0 (.Constant (.int i) j pos) (gCon (.int i)) := se_tC pe_int fun _ => .int i
theorem se_bl {i : Bool} {j : Nat} : SE X W0 (.Constant (.bool i) j pos) (gCon (.bool i)) := se_tC pe_bl fun _ => .bl i
theorem se_non {j : Nat} : SE X W0 (.Constant .none j pos) (gCon .none) := se_tC pe_non fun _ => .non
theorem se_str {i : Str} {j : Nat} : SE X W0 (.Constant (.str i) j pos) (gCon (.str i)) := se_tC pe_str fun _ => .str i
theorem se_op {op : Operator} {f : Vl → Vl → Sto → Out Vl} (ho : OpR X (binaryOp op) (aO X.K W0 f)) (ha : SE X W0 a ga) (hb : SE X W0 b gb) : SE X W0 (.BinOp a op b pos) (gBin f ga gb) := by
  refine PE.mono (pe_op ho ha hb) fun σ H Q h => ?_
  obtain ⟨ρ, M, W, R, S, P⟩ := h
  refine ⟨ρ, M, W, R, S, post_bind P fun v H1 W1 M1 x e l1 R1 r1 P1 => ?_⟩
  refine ⟨ρ, M1, W1, R1, S.mono l1, post_bind P1 fun u H2 W2 M2 y e2 l2 R2 r2 P2 => ?_⟩
  exact ⟨W2, M2, σ, x, y, R2, r1.mono l2, r2, P2⟩
theorem se_un {op : UnaryOp} {f : Vl → Sto → Out Vl} (ho : UnR X (unaryOp op) (aU X.K W0 f)) (ha : SE X W0 a ga) : SE X W0 (.UnaryOp op a pos) (gUn f ga) := by
  refine PE.mono (pe_un ho ha) fun σ H Q h => ?_
  obtain ⟨ρ, M, W, R, S, P⟩ := h
  refine ⟨ρ, M, W, R, S, post_bind P fun v H1 W1 M1 x e l1 R1 r1 P1 => ?_⟩
  exact ⟨W1, M1, σ, x, R1, r1, P1⟩
def negD : PyData → Option PyData
  | .int i => some (.int (-i))
  | _ => none
theorem un_negV : UnR X (unaryOp .USub) (aU X.K W0 (lift1 negD)) := by
  intro pins s σ H x v Q I rx h
  obtain ⟨W, M, σ', v1, R, r1, P⟩ := h
  obtain ⟨d, c, pa, e, q⟩ := lift1_post R r1 P
  cases d with
  | int i =>
    cases e
    obtain rfl := pa.int
    exact un_neg pins s σ H _ v Q I rx ⟨i, rfl, q _ _ W (Wd.le.refl W) R (.int _)⟩
  | _ => cases e
theorem behind_of {op : CmpOp} (hb : ∀ es k p, b ≠ .Set es k p) : behindInMarks op b = false := by
  cases b <;> first | rfl | exact absurd rfl (hb _ _ _)
theorem se_cmp {op : CmpOp} {f : Vl → Vl → Sto → Out Vl} (ho : OpR X (compareOp op) (aO X.K W0 f)) (ha : SE X W0 a ga) (hb : SE X W0 b gb) (hs : ∀ es k p, b ≠ .Set es k p) : SE X W0 (.Compare a [op] [b] pos) (gBin f ga gb) := by
  refine PE.mono (pe_cmpR ho ha hb (behind_of hs)) fun σ H Q h => ?_
  obtain ⟨ρ, M, W, R, S, P⟩ := h
  refine ⟨ρ, M, W, R, S, post_bind P fun v H1 W1 M1 x e l1 R1 r1 P1 => ?_⟩
  refine ⟨ρ, M1, W1, R1, S.mono l1, post_bind P1 fun u H2 W2 M2 y e2 l2 R2 r2 P2 => ?_⟩
  exact ⟨W2, M2, σ, x, y, R2, r1.mono l2, r2, P2⟩
theorem st_cmp {op : CmpOp} {f : Vl → Vl → Sto → Out Vl} (ho : OpR X (compareOp op) (aO X.K W0 f)) (ha : SE X W0 a ga) (hb : SE X W0 b gb) (hs : ∀ es k p, b ≠ .Set es k p) : ST X W0 (.Compare a [op] [b] pos) (gB (gBin f ga gb)) := by
  refine PT.mono (pt_cmpR ho ha hb (behind_of hs)) fun σ H Q h => ?_
  obtain ⟨ρ, M, W, R, S, P⟩ := h
  have P : Post BoR X.K W0 W σ ((gBin f ga gb ρ M).bind fun z M3 => asBool z M3) Q := P
  have P2 : Post (VlR X.K) X.K W0 W σ (gBin f ga gb ρ M) (fun z H' => ∃ k, z = .bl k ∧ Q k H') := by
    refine post_bind P fun v H1 W1 M1 x e l1 R1 r1 P1 => ?_
    cases x with
    | d y =>
      cases y with
      | bool k =>
        cases r1
        exact ⟨k, rfl, P1 k H1 W1 (Wd.le.refl _) R1 rfl⟩
      | _ => exact P1.elim
    | ref n => exact P1.elim
    | adr _ _ => exact P1.elim
  refine ⟨ρ, M, W, R, S, post_bind P2 fun v H1 W1 M1 x e l1 R1 r1 P1 => ?_⟩
  refine ⟨ρ, M1, W1, R1, S.mono l1, post_bind P1 fun u H2 W2 M2 y e2 l2 R2 r2 P2 => ?_⟩
  exact ⟨W2, M2, σ, x, y, R2, r1.mono l2, r2, P2⟩
theorem se_isN {j : Nat} {p : Pos} (ha : SE X W0 a ga) : SE X W0 (.Compare a [.Is] [.Constant .none j p] pos) (gUn (isNoneV false) ga) := by
  refine PE.mono (pe_cmpR (op_isNoneV (W0 := W0)) ha pe_non (behind_of fun _ _ _ e => by cases e)) fun σ H Q h => ?_
  obtain ⟨ρ, M, W, R, S, P⟩ := h
  refine ⟨ρ, M, W, R, S, post_bind P fun v H1 W1 M1 x e l1 R1 r1 P1 => ?_⟩
  exact ⟨rfl, W1, M1, σ, x, R1, r1, P1⟩
theorem se_notN {j : Nat} {p : Pos} (ha : SE X W0 a ga) : SE X W0 (.Compare a [.IsNot] [.Constant .none j p] pos) (gUn (isNoneV true) ga) := by
  refine PE.mono (pe_cmpR (op_notNoneV (W0 := W0)) ha pe_non (behind_of fun _ _ _ e => by cases e)) fun σ H Q h => ?_
  obtain ⟨ρ, M, W, R, S, P⟩ := h
  refine ⟨ρ, M, W, R, S, post_bind P fun v H1 W1 M1 x e l1 R1 r1 P1 => ?_⟩
  exact ⟨rfl, W1, M1, σ, x, R1, r1, P1⟩
/-- a comparison's value as a test, whatever its rule -/
theorem st_of_cmp {op : CmpOp} {r : R2} {ta tb : TE} {g : Ev0 Vl} (ho : OpR X (compareOp op) r) (ha : PE X a ta) (hb : PE X b tb) (hm : behindInMarks op b = false) (hg : ∀ σ H Q, aE X.K W0 g σ H Q → tOp r ta tb σ H Q) : ST X W0 (.Compare a [op] [b] pos) (gB g) := by
  refine PT.mono (pt_cmpR ho ha hb hm) fun σ H Q h => ?_
  obtain ⟨ρ, M, W, R, S, P⟩ := h
  refine hg σ H _ ⟨ρ, M, W, R, S, post_bind P fun v H1 W1 M1 x e l1 R1 r1 P1 => ?_⟩
  cases x with
  | d y =>
    cases y with
    | bool k =>
      cases r1
      exact ⟨k, rfl, P1 k H1 W1 (Wd.le.refl _) R1 rfl⟩
    | _ => exact P1.elim
  | ref n => exact P1.elim
  | adr _ _ => exact P1.elim
theorem st_isN {j : Nat} {p : Pos} (ha : SE X W0 a ga) : ST X W0 (.Compare a [.Is] [.Constant .none j p] pos) (gB (gUn (isNoneV false) ga)) := by
  refine st_of_cmp (op_isNoneV (W0 := W0)) ha pe_non (behind_of fun _ _ _ e => by cases e) fun σ H Q h => ?_
  obtain ⟨ρ, M, W, R, S, P⟩ := h
  refine ⟨ρ, M, W, R, S, post_bind P fun v H1 W1 M1 x e l1 R1 r1 P1 => ?_⟩
  exact ⟨rfl, W1, M1, σ, x, R1, r1, P1⟩
theorem st_notN {j : Nat} {p : Pos} (ha : SE X W0 a ga) : ST X W0 (.Compare a [.IsNot] [.Constant .none j p] pos) (gB (gUn (isNoneV true) ga)) := by
  refine st_of_cmp (op_notNoneV (W0 := W0)) ha pe_non (behind_of fun _ _ _ e => by cases e) fun σ H Q h => ?_
  obtain ⟨ρ, M, W, R, S, P⟩ := h
  refine ⟨ρ, M, W, R, S, post_bind P fun v H1 W1 M1 x e l1 R1 r1 P1 => ?_⟩
  exact ⟨rfl, W1, M1, σ, x, R1, r1, P1⟩
theorem chain_post {op op' : Vl → Vl → Sto → Out Vl} {r r' : R2} {ρ : Rho} {M : Sto} {W : Wd} {σ : L2.St} {H : Hp} {Q : VK} (hr : r = aO X.K W0 op) (hr' : r' = aO X.K W0 op') (R : RelM X.K W H M) (S : SltR X.K W σ ρ) (P : Post (VlR X.K) X.K W0 W σ (gChain op op' ga gb gc ρ M) Q) :
    tChain r r' (aE X.K W0 ga) (aE X.K W0 gb) (aE X.K W0 gc) σ H Q := by
  subst hr hr'
  refine ⟨ρ, M, W, R, S, post_bind P fun v H1 W1 M1 x e l1 R1 r1 P1 => ?_⟩
  refine ⟨ρ, M1, W1, R1, S.mono l1, post_bind P1 fun u H2 W2 M2 y e2 l2 R2 r2 P2 => ?_⟩
  refine ⟨W2, M2, σ, x, y, R2, r1.mono l2, r2, post_bind P2 fun z H3 W3 M3 k e3 l3 R3 r3 P3 => ?_⟩
  obtain ⟨t, rfl, P4⟩ := asB_bind r3 P3
  refine ⟨t, rfl, ?_⟩
  cases t with
  | false => exact P4 _ H3 W3 (Wd.le.refl _) R3 (.bl false)
  | true =>
    refine ⟨ρ, M3, W3, R3, S.mono (l1.trans (l2.trans l3)), post_bind P4 fun w H4 W4 M4 q e4 l4 R4 r4 P5 => ?_⟩
    exact ⟨W4, M4, σ, y, q, R4, (r2.mono l3).mono l4, r4, P5⟩
theorem last_of {op op' : CmpOp} (hs : ∀ es k p, c ≠ .Set es k p) : lastMarks [op, op'] [b, c] = false := by
  show lastMarks [op'] [c] = false
  exact behind_of hs
theorem se_chain {op op' : CmpOp} {f f' : Vl → Vl → Sto → Out Vl} (ho : OpR X (compareOp op) (aO X.K W0 f)) (ho' : OpR X (compareOp op') (aO X.K W0 f')) (ha : SE X W0 a ga) (hb : SE X W0 b gb) (hc : SE X W0 c gc) (hs : ∀ es k p, c ≠ .Set es k p) :
    SE X W0 (.Compare a [op, op'] [b, c] pos) (gChain f f' ga gb gc) := by
  refine PE.mono (pe_chain ho ho' ha hb hc (last_of hs)) fun σ H Q h => ?_
  obtain ⟨ρ, M, W, R, S, P⟩ := h
  exact chain_post rfl rfl R S P
theorem st_chain {op op' : CmpOp} {f f' : Vl → Vl → Sto → Out Vl} (ho : OpR X (compareOp op) (aO X.K W0 f)) (ho' : OpR X (compareOp op') (aO X.K W0 f')) (ha : SE X W0 a ga) (hb : SE X W0 b gb) (hc : SE X W0 c gc) (hs : ∀ es k p, c ≠ .Set es k p) :
    ST X W0 (.Compare a [op, op'] [b, c] pos) (gB (gChain f f' ga gb gc)) := by
  refine PT.mono (pt_chain ho ho' ha hb hc (last_of hs)) fun σ H Q h => ?_
  obtain ⟨ρ, M, W, R, S, P⟩ := h
  refine chain_post rfl rfl R S (post_bind P fun v H1 W1 M1 x e l1 R1 r1 P1 => ?_)
  cases x with
  | d y =>
    cases y with
    | bool k =>
      cases r1
      exact ⟨k, rfl, P1 k H1 W1 (Wd.le.refl _) R1 rfl⟩
    | _ => exact P1.elim
  | ref n => exact P1.elim
  | adr _ _ => exact P1.elim

/-! #### tests -/
/-- an expression whose test is the truth of its value -/
def testsPlain : Expr → Bool
  | .UnaryOp .Not _ _ => false
  | .BoolOp _ _ _ => false
  | .IfExp _ _ _ _ => false
  | .Compare _ _ _ _ => false
  | _ => true
theorem testsPlain_ok {X : Cx} (h : testsPlain a = true) (whole : Sem Value) : isTrue a X.env whole = (do let v ← whole; standAt a.pos; holding [v] (truthy v)) := by
  cases a with
  | UnaryOp op e p => cases op <;> first | rfl | cases h
  | BoolOp _ _ _ => cases h
  | IfExp _ _ _ _ => cases h
  | Compare _ _ _ _ => cases h
  | _ => rfl
theorem st_truth (ha : SE X W0 a ga) (h : testsPlain a = true) : ST X W0 a (gTru ga) := by
  refine PT.mono (pt_truth ha (testsPlain_ok h)) fun σ H Q h => ?_
  obtain ⟨ρ, M, W, R, S, P⟩ := h
  refine ⟨ρ, M, W, R, S, post_bind P fun v H1 W1 M1 x e l1 R1 r1 P1 => ?_⟩
  cases e2 : truV M1 x with
  | ok b M' =>
    obtain ⟨h, t⟩ := truV_ok R1 r1 e2
    subst h
    rw [e2] at P1
    exact ⟨b, t, P1 b H1 W1 (Wd.le.refl _) R1 rfl⟩
  | exc e' M' => exact (truV_nx e2).elim
  | bad => rw [e2] at P1; exact P1.elim
theorem st_not (ha : ST X W0 a ca) : ST X W0 (.UnaryOp .Not a pos) (gNotT ca) := by
  refine PT.mono (pt_not ha) fun σ H Q h => ?_
  obtain ⟨ρ, M, W, R, S, P⟩ := h
  refine ⟨ρ, M, W, R, S, post_bind P fun v H1 W1 M1 x e l1 R1 r1 P1 => ?_⟩
  have r1 : v = x := r1
  subst r1
  exact P1 _ H1 W1 (Wd.le.refl _) R1 rfl
/-- and, or: whatever the whole is -/
abbrev SW (X : Cx) (W0 : WX) (e : Expr) (g : Ev0 Bool) : Prop := PW X e (aT X.K W0 g)
theorem sw_and1 (ha : ST X W0 a ca) : SW X W0 (.BoolOp .And [a] pos) ca := pw_and1 ha
theorem sw_or1 (ha : ST X W0 a ca) : SW X W0 (.BoolOp .Or [a] pos) ca := pw_or1 ha
theorem sw_and {rest : List Expr} (ha : ST X W0 a ca) (hb : SW X W0 (.BoolOp .And (b :: rest) pos) cb) : SW X W0 (.BoolOp .And (a :: b :: rest) pos) (gAndT ca cb) := by
  refine PW.mono (pw_and ha hb) fun σ H Q h => ?_
  obtain ⟨ρ, M, W, R, S, P⟩ := h
  refine ⟨ρ, M, W, R, S, post_bind P fun v H1 W1 M1 x e l1 R1 r1 P1 => ?_⟩
  have r1 : v = x := r1
  subst r1
  cases v with
  | true => exact ⟨ρ, M1, W1, R1, S.mono l1, P1⟩
  | false => exact P1 false H1 W1 (Wd.le.refl _) R1 rfl
theorem sw_or {rest : List Expr} (ha : ST X W0 a ca) (hb : SW X W0 (.BoolOp .Or (b :: rest) pos) cb) : SW X W0 (.BoolOp .Or (a :: b :: rest) pos) (gOrT ca cb) := by
  refine PW.mono (pw_or ha hb) fun σ H Q h => ?_
  obtain ⟨ρ, M, W, R, S, P⟩ := h
  refine ⟨ρ, M, W, R, S, post_bind P fun v H1 W1 M1 x e l1 R1 r1 P1 => ?_⟩
  have r1 : v = x := r1
  subst r1
  cases v with
  | false => exact ⟨ρ, M1, W1, R1, S.mono l1, P1⟩
  | true => exact P1 true H1 W1 (Wd.le.refl _) R1 rfl
theorem st_if (hc : ST X W0 c ca) (ha : ST X W0 a cb) {cc : Ev0 Bool} (hb : ST X W0 b cc) : ST X W0 (.IfExp c a b pos) (gIf ca cb cc) := by
  refine ⟨fun pins s σ H Q I h => ?_⟩
  obtain ⟨ρ, M, W, R, S, P⟩ := h
  show wpAny _ _ (do if ← isTrue c X.env (eval c X.env) then isTrue a X.env (eval a X.env) else isTrue b X.env (eval b X.env)) _ _ _
  refine wpAny_bind (thn (hc.run pins s σ H (fun k H1 => if k = true then aT X.K W0 cb σ H1 Q else aT X.K W0 cc σ H1 Q) I ⟨ρ, M, W, R, S, post_bind P fun v H1 W1 M1 x e l1 R1 r1 P1 => ?_⟩) fun d s1 ⟨H1, I1, q1⟩ => ?_)
  · have r1 : v = x := r1
    subst r1
    cases v with
    | true => exact ⟨ρ, M1, W1, R1, S.mono l1, P1⟩
    | false => exact ⟨ρ, M1, W1, R1, S.mono l1, P1⟩
  · cases d with
    | true => exact ha.run pins s1 σ H1 Q I1 q1
    | false => exact hb.run pins s1 σ H1 Q I1 q1
/-! #### and, or, not, if as values -/
theorem se_one {op : BoolOp} (ha : SE X W0 a ga) : SE X W0 (.BoolOp op [a] pos) ga := pe_one ha
theorem se_and {rest : List Expr} (ha : SE X W0 a ga) (hb : SE X W0 (.BoolOp .And (b :: rest) pos) gb) : SE X W0 (.BoolOp .And (a :: b :: rest) pos) (gAnd ga gb) := by
  refine PE.mono (pe_andT ha hb) fun σ H Q h => ?_
  obtain ⟨ρ, M, W, R, S, P⟩ := h
  refine ⟨ρ, M, W, R, S, post_bind P fun v H1 W1 M1 x e l1 R1 r1 P1 => ?_⟩
  obtain ⟨k, t, P2⟩ := tru_bind R1 r1 P1
  refine ⟨k, t, ?_⟩
  cases k with
  | true => exact ⟨ρ, M1, W1, R1, S.mono l1, P2⟩
  | false => exact P2 v H1 W1 (Wd.le.refl _) R1 r1
theorem se_or {rest : List Expr} (ha : SE X W0 a ga) (hb : SE X W0 (.BoolOp .Or (b :: rest) pos) gb) : SE X W0 (.BoolOp .Or (a :: b :: rest) pos) (gOr ga gb) := by
  refine PE.mono (pe_orT ha hb) fun σ H Q h => ?_
  obtain ⟨ρ, M, W, R, S, P⟩ := h
  refine ⟨ρ, M, W, R, S, post_bind P fun v H1 W1 M1 x e l1 R1 r1 P1 => ?_⟩
  obtain ⟨k, t, P2⟩ := tru_bind R1 r1 P1
  refine ⟨k, t, ?_⟩
  cases k with
  | false => exact ⟨ρ, M1, W1, R1, S.mono l1, P2⟩
  | true => exact P2 v H1 W1 (Wd.le.refl _) R1 r1
theorem se_not (ha : SE X W0 a ga) : SE X W0 (.UnaryOp .Not a pos) (gNot ga) := by
  refine PE.mono (pe_notT ha) fun σ H Q h => ?_
  obtain ⟨ρ, M, W, R, S, P⟩ := h
  refine ⟨ρ, M, W, R, S, post_bind P fun v H1 W1 M1 x e l1 R1 r1 P1 => ?_⟩
  obtain ⟨k, t, P2⟩ := tru_bind R1 r1 P1
  exact ⟨k, t, P2 _ H1 W1 (Wd.le.refl _) R1 (.bl _)⟩
theorem se_if (hc : ST X W0 c ca) (ha : SE X W0 a ga) (hb : SE X W0 b gb) : SE X W0 (.IfExp c a b pos) (gIf ca ga gb) := by
  refine PE.mono (pe_ifExp hc ha hb) fun σ H Q h => ?_
  obtain ⟨ρ, M, W, R, S, P⟩ := h
  refine ⟨ρ, M, W, R, S, post_bind P fun v H1 W1 M1 x e l1 R1 r1 P1 => ?_⟩
  have r1 : v = x := r1
  subst r1
  cases v with
  | true => exact ⟨ρ, M1, W1, R1, S.mono l1, P1⟩
  | false => exact ⟨ρ, M1, W1, R1, S.mono l1, P1⟩
end
end Ev

namespace Ev
open PySem PySem.Spec PyProof.Rows L2

/-! ### dict cells -/
def getP (kvs : List (Key × PyData)) (k : Key) : Option PyData := (kvs.find? fun kv => decide (kv.1 = k)).map (·.2)
def putP (kvs : List (Key × PyData)) (k : Key) (v : PyData) : List (Key × PyData) :=
  if (kvs.any fun kv => decide (kv.1 = k)) = true then kvs.map (fun kv => if kv.1 = k then (kv.1, v) else kv) else kvs ++ [(k, v)]
def mergeP (kvs more : List (Key × PyData)) : List (Key × PyData) := more.foldl (fun acc kv => putP acc kv.1 kv.2) kvs
abbrev KvR (K : PySem.W.Frag) (Z : Hp) : List (Key × V) → List (Key × PyData) → Prop := Paired (fun (p : Key × V) (q : Key × PyData) => p.1 = q.1 ∧ Dq K Z p.2 q.2)
section
variable {K : PySem.W.Frag} {Z : Hp}
theorem kv_any (k : Key) : ∀ {vs : List (Key × V)} {kvs : List (Key × PyData)}, KvR K Z vs kvs → (vs.any fun kv => decide (kv.1 = k)) = (kvs.any fun kv => decide (kv.1 = k))
  | _, _, .nil => rfl
  | _, _, .cons h t => by rw [List.any_cons, List.any_cons, kv_any k t, h.1]
theorem kv_get (k : Key) : ∀ {vs : List (Key × V)} {kvs : List (Key × PyData)}, KvR K Z vs kvs → (∀ d, getP kvs k = some d → ∃ v, valV vs k = some v ∧ Dq K Z v d) ∧ (getP kvs k = none → valV vs k = none)
  | _, _, .nil => ⟨fun d e => absurd (show (none : Option PyData) = some d from e) (by simp), fun _ => rfl⟩
  | _, _, .cons (a := p) (b := q) (l₁ := vs) (l₂ := kvs) h t => by
    obtain ⟨i1, i2⟩ := kv_get k t
    unfold getP valV at *
    simp only [List.find?_cons]
    rw [h.1]
    by_cases hk : q.1 = k
    · simp only [hk, decide_true]
      exact ⟨fun d e => ⟨p.2, rfl, by cases e; exact h.2⟩, fun e => by cases e⟩
    · simp only [hk, decide_false]
      exact ⟨i1, i2⟩
theorem kv_map (k : Key) {v : V} {d : PyData} (r : Dq K Z v d) : ∀ {vs : List (Key × V)} {kvs : List (Key × PyData)}, KvR K Z vs kvs → KvR K Z (vs.map (fun kv => if kv.1 = k then (kv.1, v) else kv)) (kvs.map (fun kv => if kv.1 = k then (kv.1, d) else kv))
  | _, _, .nil => .nil
  | _, _, .cons (a := p) (b := q) h t => by
    rw [List.map_cons, List.map_cons]
    refine .cons ?_ (kv_map k r t)
    rw [h.1]
    by_cases hk : q.1 = k
    · rw [if_pos hk, if_pos hk]
      exact ⟨rfl, r⟩
    · rw [if_neg hk, if_neg hk]
      exact h
theorem kv_app : ∀ {vs ws : List (Key × V)} {kvs lvs : List (Key × PyData)}, KvR K Z vs kvs → KvR K Z ws lvs → KvR K Z (vs ++ ws) (kvs ++ lvs)
  | _, _, _, _, .nil, s => s
  | _, _, _, _, .cons h t, s => .cons h (kv_app t s)
theorem kv_put (k : Key) {v : V} {d : PyData} (r : Dq K Z v d) {vs : List (Key × V)} {kvs : List (Key × PyData)} (h : KvR K Z vs kvs) : KvR K Z (putK vs k v) (putP kvs k d) := by
  unfold putK putP
  rw [kv_any k h]
  by_cases hk : (kvs.any fun kv => decide (kv.1 = k)) = true
  · rw [if_pos hk, if_pos hk]
    exact kv_map k r h
  · rw [if_neg hk, if_neg hk]
    exact kv_app h (.cons ⟨rfl, r⟩ .nil)
theorem kv_merge : ∀ {ms : List (Key × V)} {more : List (Key × PyData)} {vs : List (Key × V)} {kvs : List (Key × PyData)}, KvR K Z ms more → KvR K Z vs kvs → KvR K Z (mergeK vs ms) (mergeP kvs more)
  | _, _, _, _, .nil, h => h
  | _, _, _, _, .cons (a := p) (b := q) h t, s => by
    have e := kv_put p.1 h.2 s
    have e2 := kv_merge t e
    rw [h.1] at e2
    rw [← h.1] at e2
    have e2 := e2
    unfold mergeK mergeP at e2 ⊢
    rw [List.foldl_cons, List.foldl_cons, ← h.1]
    exact e2
theorem kv_len : ∀ {vs : List (Key × V)} {kvs : List (Key × PyData)}, KvR K Z vs kvs → vs.length = kvs.length
  | _, _, .nil => rfl
  | _, _, .cons _ t => by rw [List.length_cons, List.length_cons, kv_len t]
theorem kv_zip : ∀ (ks : List Str) {vs : List V} {ds : List PyData}, DqAll K Z vs ds → KvR K Z ((ks.map Sum.inr).zip vs) ((ks.map Sum.inr).zip ds)
  | [], _, _, _ => .nil
  | _ :: _, _, _, .nil => .nil
  | k :: ks, _, _, .cons h t => .cons ⟨rfl, h⟩ (kv_zip ks t)
end

/-! ### displays -/
def gTup (g : Ev0 (List Vl)) : Ev0 Vl := fun ρ M => (g ρ M).bind fun xs M1 => match toDs M1 xs with
  | some (ds, M2) => if ds.length ≤ sizeLine then .ok (.d (.tuple ds)) M2 else .bad
  | none => .bad
def gLst (g : Ev0 (List Vl)) : Ev0 Vl := fun ρ M => (g ρ M).bind fun xs M1 => match toDs M1 xs with
  | some (ds, M2) => if ds.length ≤ sizeLine then .ok (.d (.list ds)) M2 else .bad
  | none => .bad
/-- a list that may change -/
def gLstM (g : Ev0 (List Vl)) : Ev0 Vl := fun ρ M => (g ρ M).bind fun xs M1 => match toDs M1 xs with
  | some (ds, M2) => if ds.length ≤ sizeLine then .ok (.ref M2.length) (M2 ++ [.lst ds]) else .bad
  | none => .bad
def gDisp (ks : List Str) (g : Ev0 (List Vl)) : Ev0 Vl := fun ρ M => (g ρ (M ++ [.dct []])).bind fun xs M1 => match toDs M1 xs with
  | some (ds, M2) => (match M2[M.length]? with
    | some (.dct []) => if ks.length ≤ 15 then .ok (.ref M.length) (M2.set M.length (.dct (mergeP [] ((ks.map Sum.inr).zip ds)))) else .bad
    | _ => .bad)
  | none => .bad
/-- {} -/
def gDisp0 : Ev0 Vl := fun _ M => .ok (.ref M.length) (M ++ [.dct []])
section
variable {X : Cx} {W0 : WX} {a b c : Expr} {ga gb gc : Ev0 Vl} {ca cb : Ev0 Bool} {pos : Pos} {es : List Expr} {g : Ev0 (List Vl)}
theorem keep_bind {γ δ : Type} {K : PySem.W.Frag} {W : Wd} {H : Hp} {M : Sto} {σ : L2.St} {R2 : Wd → δ → γ → Prop} {vs : List V} {xs : List Vl} {k : List PyData → Sto → Out γ} {Q2 : δ → Hp → Prop} (R : RelM K W H M) (r : VlsR K W vs xs)
    (P : Post R2 K W0 W σ (match toDs M xs with | some (ds, M2) => k ds M2 | none => .bad) Q2) : ∃ ds M2 W2, toDs M xs = some (ds, M2) ∧ W.le W2 ∧ RelM K W2 H M2 ∧ DqAll K W2.Z vs ds ∧ Post R2 K W0 W2 σ (k ds M2) Q2 := by
  cases e : toDs M xs with
  | none => rw [e] at P; exact P.elim
  | some q =>
    obtain ⟨ds, M2⟩ := q
    rw [e] at P
    obtain ⟨W2, l2, R2, r2⟩ := toDs_dp R r e
    exact ⟨ds, M2, W2, rfl, l2, R2, r2, Post.mono l2 P⟩
theorem if_post {γ δ : Type} {K : PySem.W.Frag} {W : Wd} {σ : L2.St} {R2 : Wd → δ → γ → Prop} {p : Prop} [Decidable p] {o : Out γ} {Q2 : δ → Hp → Prop} (P : Post R2 K W0 W σ (if p then o else .bad) Q2) : p ∧ Post R2 K W0 W σ o Q2 := by
  by_cases h : p
  · rw [if_pos h] at P
    exact ⟨h, P⟩
  · rw [if_neg h] at P
    exact P.elim
theorem pe_tupP {x1} {t : TA} (h : PA X es t) : PE X (.Tuple es x1 pos) (fun σ H Q => t σ H fun vs H1 => vs.length ≤ sizeLine ∧ ∀ p H', H1 p = none → NewT H1 p vs H' → Q (.ref p) H') := by
  refine ⟨fun pins s σ H Q I hq => wpAny_Tuple_spliced (thn (h.run pos pins s σ H _ I hq) fun us s1 ⟨vs, H1, I1, r, hz, q⟩ => ⟨by rw [← r.length]; exact hz, ?_⟩)⟩
  obtain ⟨H', n', I'⟩ := inv_pushT I1 r hz
  exact ⟨.ref _, H', I', rfl, q _ _ (I1.hok.fresh (Nat.le_refl _)) n'⟩
theorem se_tup {x1} (h : SA X W0 es g) : SE X W0 (.Tuple es x1 pos) (gTup g) := by
  refine PE.mono (pe_tupP h) fun σ H Q hq => ?_
  obtain ⟨ρ, M, W, R, S, P⟩ := hq
  refine ⟨ρ, M, W, R, S, post_bind P fun vs H1 W1 M1 xs e l1 R1 r1 P1 => ?_⟩
  obtain ⟨ds, M2, W2, e2, l2, R2, r2, P2⟩ := keep_bind R1 r1 P1
  obtain ⟨hz, P3⟩ := if_post P2
  refine ⟨by rw [r2.length]; exact hz, fun p H' hp hn => ?_⟩
  obtain ⟨W3, l3, R3, d⟩ := R2.mkT hp hn r2
  exact P3 _ _ _ l3 R3 d
theorem se_lst (h : SA X W0 es g) : SE X W0 (.List es pos) (gLst g) := by
  refine PE.mono (pe_lst h) fun σ H Q hq => ?_
  obtain ⟨ρ, M, W, R, S, P⟩ := hq
  refine ⟨ρ, M, W, R, S, post_bind P fun vs H1 W1 M1 xs e l1 R1 r1 P1 => ?_⟩
  obtain ⟨ds, M2, W2, e2, l2, R2, r2, P2⟩ := keep_bind R1 r1 P1
  obtain ⟨hz, P3⟩ := if_post P2
  refine ⟨by rw [r2.length]; exact hz, fun p hp => ?_⟩
  obtain ⟨R3, l3, d⟩ := R2.mkL hp r2
  exact P3 _ _ _ l3 R3 d
theorem new_lst {K : PySem.W.Frag} {W : Wd} {H : Hp} {M : Sto} (R : RelM K W H M) {p : Addr} (hp : H p = none) {vs : List V} {ds : List PyData} (d : DqAll K W.Z vs ds) : ∃ W', W.le W' ∧ RelM K W' (upd H p (.lst vs)) (M ++ [.lst ds]) ∧ VlR K W' (.ref p) (.ref M.length) := by
  obtain ⟨R3, l3, e3⟩ := R.newM hp (o := .lst vs) (c := .lst ds) ⟨R.Znone hp, vs, upd_same, d⟩
  exact ⟨_, l3, R3, p, rfl, e3⟩
theorem se_lstM (h : SA X W0 es g) : SE X W0 (.List es pos) (gLstM g) := by
  refine PE.mono (pe_lst h) fun σ H Q hq => ?_
  obtain ⟨ρ, M, W, R, S, P⟩ := hq
  refine ⟨ρ, M, W, R, S, post_bind P fun vs H1 W1 M1 xs e l1 R1 r1 P1 => ?_⟩
  obtain ⟨ds, M2, W2, e2, l2, R2, r2, P2⟩ := keep_bind R1 r1 P1
  obtain ⟨hz, P3⟩ := if_post P2
  refine ⟨by rw [r2.length]; exact hz, fun p hp => ?_⟩
  obtain ⟨W3, l3, R3, d⟩ := new_lst R2 hp r2
  exact P3 _ _ _ l3 R3 d

/-! #### arguments -/
def notStar : Expr → Bool
  | .Starred _ _ => false
  | _ => true
theorem star_one {e : Expr} (h : notStar e = true) (es : List Expr) (env : Env) : starEach (e :: es) env = (false, eval e env) :: starEach es env := by
  cases e <;> first | rfl | cases h
theorem star_none (pos : Pos) (env : Env) : ∀ (es : List Expr), es.all notStar = true → (backTo pos (starEach es env)).any (·.1) = false
  | [], _ => rfl
  | e :: es, h => by
    rw [List.all_cons, Bool.and_eq_true] at h
    rw [star_one h.1]
    have := star_none pos env es h.2
    unfold backTo at this ⊢
    rw [List.map_cons, List.any_cons, this]
    rfl
theorem sa_nil : SA X W0 [] gNil := by
  refine PA.mono pa_nil fun σ H Q h => ?_
  obtain ⟨ρ, M, W, R, S, P⟩ := h
  exact P [] H W (Wd.le.refl W) R .nil
theorem sa_cons (ha : SE X W0 a ga) (hr : SA X W0 es g) (hs : notStar a = true) : SA X W0 (a :: es) (gCons ga g) := by
  refine PA.mono (pa_cons ha hr (star_one hs _ _)) fun σ H Q h => ?_
  obtain ⟨ρ, M, W, R, S, P⟩ := h
  refine ⟨ρ, M, W, R, S, post_bind P fun v H1 W1 M1 x e l1 R1 r1 P1 => ?_⟩
  refine ⟨ρ, M1, W1, R1, S.mono l1, post_bind P1 fun vs H2 W2 M2 xs e2 l2 R2 r2 P2 => ?_⟩
  exact P2 _ _ W2 (Wd.le.refl _) R2 (.cons (r1.mono l2) r2)

/-! #### {k: v, ..}, the keys texts -/
def SP (X : Cx) (W0 : WX) (pos : Pos) (keys : List (Option Expr)) (values : List Expr) (ks : List Str) (g : Ev0 (List Vl)) : Prop :=
  ∃ trs, PPs X pos keys values trs ∧ ∀ σ H (Q : List V → Hp → Prop) (Q' : List (V × V) → Hp → Prop), (∀ vs H', vs.length = ks.length → Q vs H' → Q' ((ks.map fun k => V.str k).zip vs) H') → aA X.K W0 g σ H Q → tPairs trs σ H Q'
theorem sp_nil : SP X W0 pos [] [] [] gNil := by
  refine ⟨[], pps_nil, fun σ H Q Q' hq h => ?_⟩
  obtain ⟨ρ, M, W, R, S, P⟩ := h
  exact hq [] H rfl (P [] H W (Wd.le.refl W) R .nil)
theorem sp_cons {k : Str} {kn} {v : Expr} {ke : Expr} {ks : List (Option Expr)} {vs : List Expr} {gv : Ev0 Vl} (hk : PE X ke (tC (.str k))) (hv : SE X W0 v gv) (hr : SP X W0 pos ks vs kn g) : SP X W0 pos (some ke :: ks) (v :: vs) (k :: kn) (gCons gv g) := by
  obtain ⟨trs, h1, h2⟩ := hr
  refine ⟨_, pps_cons hk hv h1, fun σ H Q Q' hq h => ?_⟩
  obtain ⟨ρ, M, W, R, S, P⟩ := h
  refine ⟨ρ, M, W, R, S, post_bind P fun v H1 W1 M1 x e l1 R1 r1 P1 => ?_⟩
  refine h2 σ H1 (fun us H' => Q (v :: us) H') _ (fun us H' hl q => hq (v :: us) H' (by rw [List.length_cons, List.length_cons, hl]) q) ⟨ρ, M1, W1, R1, S.mono l1, post_bind P1 fun us H2 W2 M2 xs e2 l2 R2 r2 P2 => ?_⟩
  exact P2 _ _ W2 (Wd.le.refl _) R2 (.cons (r1.mono l2) r2)
theorem zip_keys : ∀ (ks : List Str) (vs : List V), ((ks.map Sum.inr).zip vs).map (fun kv : Key × V => (kV kv.1, kv.2)) = (ks.map fun k => V.str k).zip vs
  | [], _ => rfl
  | _ :: _, [] => rfl
  | k :: ks, v :: vs => by
    rw [List.map_cons, List.zip_cons_cons, List.map_cons, zip_keys ks vs]
    rfl
theorem cell_dct {K : PySem.W.Frag} {W : Wd} {H : Hp} {M : Sto} (R : RelM K W H M) {n : Nat} {a : Addr} {kvs : List (Key × PyData)} (h : W.μ[n]? = some a) (e : M[n]? = some (.dct kvs)) : W.Z a = none ∧ ∃ vs, H a = some (.dK vs) ∧ KvR K W.Z vs kvs := R.cell n a _ h e
theorem cell_lst {K : PySem.W.Frag} {W : Wd} {H : Hp} {M : Sto} (R : RelM K W H M) {n : Nat} {a : Addr} {xs : List PyData} (h : W.μ[n]? = some a) (e : M[n]? = some (.lst xs)) : W.Z a = none ∧ ∃ vs, H a = some (.lst vs) ∧ DqAll K W.Z vs xs := R.cell n a _ h e
theorem set_dct {K : PySem.W.Frag} {W : Wd} {H : Hp} {M : Sto} (R : RelM K W H M) {n : Nat} {a : Addr} {kvs : List (Key × PyData)} {vs : List (Key × V)} (h : W.μ[n]? = some a) (z : W.Z a = none) (d : KvR K W.Z vs kvs) : RelM K W (upd H a (.dK vs)) (M.set n (.dct kvs)) :=
  R.setM h z ⟨z, vs, upd_same, d⟩
theorem set_lst {K : PySem.W.Frag} {W : Wd} {H : Hp} {M : Sto} (R : RelM K W H M) {n : Nat} {a : Addr} {xs : List PyData} {vs : List V} (h : W.μ[n]? = some a) (z : W.Z a = none) (d : DqAll K W.Z vs xs) : RelM K W (upd H a (.lst vs)) (M.set n (.lst xs)) :=
  R.setM h z ⟨z, vs, upd_same, d⟩
theorem new_dct {K : PySem.W.Frag} {W : Wd} {H : Hp} {M : Sto} (R : RelM K W H M) {p : Addr} (hp : H p = none) : ∃ W', W.le W' ∧ RelM K W' (upd H p (.dK [])) (M ++ [.dct []]) ∧ W'.μ[M.length]? = some p := by
  obtain ⟨R3, l3, e3⟩ := R.newM hp (o := .dK []) (c := .dct []) ⟨R.Znone hp, [], upd_same, .nil⟩
  exact ⟨_, l3, R3, e3⟩
theorem se_disp {keys : List (Option Expr)} {values : List Expr} {ks : List Str} (h : SP X W0 pos keys values ks g) (hall : keys.all (·.isSome) = true) (hl : keys.length = values.length) (h0 : keys ≠ []) (h15 : keys.length ≤ 15) : SE X W0 (.Dict keys values pos) (gDisp ks g) := by
  obtain ⟨trs, h1, h2⟩ := h
  refine PE.mono (pe_disp h1 hall hl h0 h15) fun σ H Q hq p hp => ?_
  obtain ⟨ρ, M, W, R, S, P⟩ := hq
  obtain ⟨W', l', R', e'⟩ := new_dct R hp
  refine h2 σ _ (fun vs H2 => vs.length = ks.length → H2 p = some (.dK []) ∧ ks.length ≤ 15 ∧ Q (.ref p) (upd H2 p (.dK (mergeK [] ((ks.map Sum.inr).zip vs))))) _ (fun vs H2 hlen q => ?_) ⟨ρ, M ++ [.dct []], W', R', S.mono l', post_bind (Post.mono l' P) fun vs H1 W1 M1 xs e l1 R1 r1 P1 hlen => ?_⟩
  · obtain ⟨q1, q2, q3⟩ := q hlen
    exact ⟨q1, (ks.map Sum.inr).zip vs, (zip_keys ks vs).symm, by rw [List.length_zip, List.length_map, hlen, Nat.min_self]; exact q2, q3⟩
  · obtain ⟨ds, M2, W2, e2, l2, R2, r2, P2⟩ := keep_bind R1 r1 P1
    have e4 : W2.μ[M.length]? = some p := l2.at (l1.at e')
    cases e3 : M2[M.length]? with
    | none => simp only [e3] at P2; exact P2.elim
    | some cl =>
      simp only [e3] at P2
      cases cl with
      | lst _ => exact P2.elim
      | frz _ => exact P2.elim
      | ins _ _ => exact P2.elim
      | dct kvs =>
        cases kvs with
        | cons _ _ => exact P2.elim
        | nil =>
          obtain ⟨hz, P3⟩ := if_post P2
          obtain ⟨z, us, hu, du⟩ := cell_dct R2 e4 e3
          cases du
          refine ⟨hu, hz, ?_⟩
          exact P3 _ _ W2 (Wd.le.refl _) (set_dct R2 e4 z (kv_merge (kv_zip ks r2) .nil)) ⟨p, rfl, e4⟩

/-! ### subscripts -/
def keyD : PyData → Option Key
  | .str k => some (.inr k)
  | .int i => some (.inl i)
  | _ => none
def ixD : PyData → PyData → Option PyData
  | .list xs, .int i => atI xs i
  | .tuple xs, .int i => atI xs i
  | .str z, .int i => if z.length ≤ sizeLine then (atI z.cps.toList i).map (fun c => .str ⟨#[c]⟩) else none
  | _, _ => none
def dctAt (M : Sto) : Vl → Option (List (Key × PyData))
  | .ref n => match M[n]? with
    | some (.dct kvs) => some kvs
    | _ => none
  | _ => none
def ixV (x y : Vl) (M : Sto) : Out Vl := match dctAt M x with
  | some kvs => (match peek M y with
    | some k => (match keyD k with
      | some k => give M (getP kvs k)
      | none => .bad)
    | none => .bad)
  | none => lift2 ixD x y M
theorem dctAt_ok {K : PySem.W.Frag} {W : Wd} {H : Hp} {M : Sto} (R : RelM K W H M) {v : V} {x : Vl} {kvs : List (Key × PyData)} (r : VlR K W v x) (e : dctAt M x = some kvs) : ∃ n a vs, x = .ref n ∧ v = .ref a ∧ W.μ[n]? = some a ∧ W.Z a = none ∧ H a = some (.dK vs) ∧ KvR K W.Z vs kvs := by
  cases x with
  | d y => cases e
  | adr _ _ => cases e
  | ref n =>
    obtain ⟨a, rfl, hm⟩ := r
    simp only [dctAt] at e
    cases e2 : M[n]? with
    | none => rw [e2] at e; cases e
    | some cl =>
      rw [e2] at e
      cases cl with
      | dct l =>
        cases e
        obtain ⟨z, vs, h1, h2⟩ := cell_dct R hm e2
        exact ⟨n, a, vs, rfl, rfl, hm, z, h1, h2⟩
      | _ => cases e
theorem keyD_ok {K : PySem.W.Frag} {W : Wd} {H : Hp} {v : V} {k : PyData} {q : Key} (h : PkR K W H v k) (e : keyD k = some q) : v = kV q := by
  cases k with
  | str z => cases e; obtain rfl := h.str; rfl
  | int z => cases e; obtain rfl := h.int; rfl
  | _ => cases e
theorem atI_all {K : PySem.W.Frag} {H : Hp} {vs : List V} {ds : List PyData} {i : Int} {d : PyData} (h : DqAll K H vs ds) (e : atI ds i = some d) : ∃ v, atI vs i = some v ∧ Dq K H v d := by
  unfold atI at *
  rw [h.length]
  cases e1 : ixN ds.length i with
  | none => rw [e1] at e; cases e
  | some j =>
    rw [e1] at e
    exact h.get e
theorem ix_dct (hu : X.A.units + 1 < cLine) : IxR X (fun x y H Q => ∃ a v, x = .ref a ∧ DGet H a y (some v) ∧ Q v H) := by
  intro value slice pins s σ H x y v u Q I rx ry h hs
  obtain ⟨a, w, rfl, g, q⟩ := h
  obtain rfl : v = Value.ref a := rx
  exact tail_any (dict_typeIs I g) PySem.F.slot_dict_getitem.lookup (d_getItem hu I g ry fun w' s3 I3 rw' => ⟨w, H, I3, rw', q⟩) hs
theorem ix_V (hu : X.A.units + 1 < cLine) : IxR X (aO X.K W0 ixV) := by
  intro value slice pins s σ H x y v u Q I rx ry h hs
  obtain ⟨W, M, σ', v1, v2, R, r1, r2, P⟩ := h
  unfold ixV at P
  cases e : dctAt M v1 with
  | some kvs =>
    simp only [e] at P
    obtain ⟨n, a, vs, rfl, rfl, hm, z, h1, h2⟩ := dctAt_ok R r1 e
    cases e2 : peek M v2 with
    | none => rw [e2] at P; exact P.elim
    | some k =>
      rw [e2] at P
      cases e3 : keyD k with
      | none => simp only [e3] at P; exact P.elim
      | some q =>
        simp only [e3] at P
        obtain rfl := keyD_ok (peek_pk R r2 e2) e3
        cases e4 : getP kvs q with
        | none => rw [e4] at P; exact P.elim
        | some d =>
          rw [e4] at P
          obtain ⟨w, hw, dw⟩ := (kv_get q h2).1 d e4
          have g := DGet.k (k := q) h1
          rw [hw] at g
          exact ix_dct hu value slice pins s σ H _ _ v u Q I rx ry ⟨a, w, rfl, g, P w H W (Wd.le.refl _) R dw⟩ hs
  | none =>
    simp only [e] at P
    obtain ⟨a, b, c, pa, pb, e, q⟩ := lift2_post R r1 r2 P
    cases b with
    | int i =>
      obtain rfl := pb.int
      cases a with
      | list xs =>
        obtain ⟨p, vs, rfl, hp, hd⟩ := pa.list R
        obtain ⟨w, hw, dw⟩ := atI_all hd e
        exact ix_list value slice pins s σ H _ _ v u Q I rx ry ⟨p, vs, i, w, rfl, rfl, hp, hw, q w H W (Wd.le.refl _) R dw⟩ hs
      | tuple xs =>
        obtain ⟨p, vs, rfl, _, hp, hd⟩ := pa.tuple R
        obtain ⟨w, hw, dw⟩ := atI_all hd e
        exact ix_tup value slice pins s σ H _ _ v u Q I rx ry ⟨p, vs, i, w, rfl, rfl, hp, hw, q w H W (Wd.le.refl _) R dw⟩ hs
      | str z =>
        obtain rfl := pa.str
        simp only [ixD] at e
        split at e
        · rename_i hz
          cases e1 : atI z.cps.toList i with
          | none => rw [e1] at e; cases e
          | some ch =>
            rw [e1] at e
            cases e
            exact ix_str value slice pins s σ H _ _ v u Q I rx ry ⟨z, i, ch, rfl, rfl, hz, e1, q _ H W (Wd.le.refl _) R (.str _)⟩ hs
        · cases e
      | _ => cases e
    | _ => cases a <;> cases e
def plainIx : Expr → Bool
  | .Slice _ _ _ _ => false
  | _ => true
theorem plainIx_ok {b : Expr} (h : plainIx b = true) : PlainIx b := by
  cases b <;> first | (intro o i; rfl) | cases h
theorem se_ix (hu : X.A.units + 1 < cLine) (ha : SE X W0 a ga) (hb : SE X W0 b gb) (hs : plainIx b = true) : SE X W0 (.Subscript a b pos) (gBin ixV ga gb) := by
  refine PE.mono (pe_ix (ix_V (W0 := W0) hu) ha hb (plainIx_ok hs)) fun σ H Q h => ?_
  obtain ⟨ρ, M, W, R, S, P⟩ := h
  refine ⟨ρ, M, W, R, S, post_bind P fun v H1 W1 M1 x e l1 R1 r1 P1 => ?_⟩
  refine ⟨ρ, M1, W1, R1, S.mono l1, post_bind P1 fun u H2 W2 M2 y e2 l2 R2 r2 P2 => ?_⟩
  exact ⟨W2, M2, σ, x, y, R2, r1.mono l2, r2, P2⟩

/-! #### slices -/
abbrev Ev0I := Rho → Sto → Out (Option Int)
def gNoPart : Ev0I := fun _ M => .ok none M
def asInt : Vl → Sto → Out (Option Int)
  | .d (.int i), M => .ok (some i) M
  | _, _ => .bad
def gPart (g : Ev0 Vl) : Ev0I := fun ρ M => (g ρ M).bind fun x M1 => asInt x M1
def cutD (xs : List PyData) (lo hi : Option Int) : List PyData := (xs.drop (HT.sIx xs.length 0 lo)).take (HT.sIx xs.length xs.length hi - HT.sIx xs.length 0 lo)
def slD (lo hi : Option Int) : PyData → Option PyData
  | .list xs => some (.list (cutD xs lo hi))
  | .tuple xs => some (.tuple (cutD xs lo hi))
  | _ => none
def gSl (g : Ev0 Vl) (l h : Ev0I) : Ev0 Vl := fun ρ M => (g ρ M).bind fun x M1 => (l ρ M1).bind fun i M2 => (h ρ M2).bind fun j M3 => lift1 (slD i j) x M3
abbrev IR : Wd → Option Int → Option Int → Prop := fun _ a b => a = b
def aI (K : PySem.W.Frag) (W0 : WX) (g : Ev0I) : TO := fun σ H Q => ∃ ρ M W, RelM K W H M ∧ SltR K W σ ρ ∧ Post IR K W0 W σ (g ρ M) Q
theorem PO.mono {e : Option Expr} {t t' : TO} (h : PO X e t) (m : ∀ σ H Q, t' σ H Q → t σ H Q) : PO X e t' := ⟨fun pins s σ H Q I q => h.run pins s σ H Q I (m _ _ _ q)⟩
abbrev SI (X : Cx) (W0 : WX) (e : Option Expr) (g : Ev0I) : Prop := PO X e (aI X.K W0 g)
theorem si_none : SI X W0 none gNoPart := by
  refine PO.mono po_none fun σ H Q h => ?_
  obtain ⟨ρ, M, W, R, S, P⟩ := h
  exact P _ _ W (Wd.le.refl _) R rfl
theorem si_some (ha : SE X W0 a ga) : SI X W0 (some a) (gPart ga) := by
  refine PO.mono (po_some ha) fun σ H Q h => ?_
  obtain ⟨ρ, M, W, R, S, P⟩ := h
  refine ⟨ρ, M, W, R, S, post_bind P fun v H1 W1 M1 x e l1 R1 r1 P1 => ?_⟩
  cases x with
  | d y =>
    cases y with
    | int i => cases r1; exact ⟨i, rfl, P1 _ _ W1 (Wd.le.refl _) R1 rfl⟩
    | _ => exact P1.elim
  | ref n => exact P1.elim
  | adr _ _ => exact P1.elim
theorem cut_all {K : PySem.W.Frag} {H : Hp} {vs : List V} {ds : List PyData} (lo hi : Option Int) (h : DqAll K H vs ds) : DqAll K H (cutV vs lo hi) (cutD ds lo hi) := by
  unfold cutV cutD
  rw [h.length]
  exact (h.drop _).take _
theorem cut_whole {xs : List PyData} {lo hi : Option Int} (h : HT.sIx xs.length 0 lo = 0 ∧ HT.sIx xs.length xs.length hi = xs.length) : cutD xs lo hi = xs := by
  unfold cutD
  rw [h.1, h.2]
  simp
def aSl (K : PySem.W.Frag) (W0 : WX) : V → Option Int → Option Int → Hp → VK → Prop := fun x lo hi H Q => ∃ (W : Wd) (M : Sto) (σ : L2.St) (v1 : Vl), RelM K W H M ∧ VlR K W x v1 ∧ Post (VlR K) K W0 W σ (lift1 (slD lo hi) v1 M) Q
theorem sl_tupP : SlR X (fun x lo hi H Q => ∃ a xs, x = .ref a ∧ SqT X.K H a xs ∧ (HT.sIx xs.length 0 lo = 0 ∧ HT.sIx xs.length xs.length hi = xs.length → Q (.ref a) H) ∧ ∀ p H', H p = none → NewT H p (cutV xs lo hi) H' → Q (.ref p) H') := by
  intro pins s σ H x v vl vu lo hi sl Q I rx hs pl pu h
  obtain ⟨a, xs, rfl, hx, q1, q2⟩ := h
  by_cases hw : HT.sIx xs.length 0 lo = 0 ∧ HT.sIx xs.length xs.length hi = xs.length
  · exact sl_tupA pins s σ H _ v vl vu lo hi sl Q I rx hs pl pu ⟨a, xs, rfl, hx, q1, fun z => absurd hw z⟩
  · cases rx
    obtain ⟨us, r, ht, hz⟩ := I.tuple hx
    have hl : us.toArray.size = xs.length := by rw [List.size_toArray, r.length]
    refine ⟨_, _, PyProof.Rows.slot_tuple_getitem.lookup, ht.typeIs, HT.getItem_tuple_cut ht hs pl pu (by rw [hl]; exact hw) ?_ (by rw [hl]; exact hz)⟩
    rw [hl]
    obtain ⟨H', n', I'⟩ := inv_pushT I ((r.drop (HT.sIx xs.length 0 lo)).take (HT.sIx xs.length xs.length hi - HT.sIx xs.length 0 lo)) (Nat.le_trans (cutV_length xs lo hi) hz)
    exact ⟨.ref _, H', I', rfl, q2 _ _ (I.hok.fresh (Nat.le_refl _)) n'⟩
theorem sl_V : SlR X (aSl X.K W0) := by
  intro pins s σ H x v vl vu lo hi sl Q I rx hs pl pu h
  obtain ⟨W, M, σ', v1, R, r1, P⟩ := h
  obtain ⟨a, c, pa, e, q⟩ := lift1_post R r1 P
  cases a with
  | list xs =>
    cases e
    obtain ⟨p, vs, rfl, hp, hd⟩ := pa.list R
    refine sl_list pins s σ H _ v vl vu lo hi sl Q I rx hs pl pu ⟨p, vs, rfl, hp, fun p hp => ?_⟩
    obtain ⟨R3, l3, d⟩ := R.mkL hp (cut_all lo hi hd)
    exact q _ _ _ l3 R3 d
  | tuple xs =>
    cases e
    obtain ⟨p, vs, rfl, hp0, hp, hd⟩ := pa.tuple R
    refine sl_tupP pins s σ H _ v vl vu lo hi sl Q I rx hs pl pu ⟨p, vs, rfl, hp, fun hw => ?_, fun p H' hp hn => ?_⟩
    · rw [hd.length] at hw
      rw [cut_whole hw] at q
      exact q _ _ W (Wd.le.refl _) R (.tup hp0 hd)
    · obtain ⟨W3, l3, R3, d⟩ := R.mkT hp hn (cut_all lo hi hd)
      exact q _ _ _ l3 R3 d
  | _ => cases e
theorem se_slice {lo hi : Option Expr} {gl gh : Ev0I} {p2 : Pos} (ha : SE X W0 a ga) (hl : SI X W0 lo gl) (hh : SI X W0 hi gh) : SE X W0 (.Subscript a (.Slice lo hi none p2) pos) (gSl ga gl gh) := by
  refine PE.mono (pe_slice (sl_V (W0 := W0)) ha hl hh) fun σ H Q h => ?_
  obtain ⟨ρ, M, W, R, S, P⟩ := h
  refine ⟨ρ, M, W, R, S, post_bind P fun v H1 W1 M1 x e l1 R1 r1 P1 => ?_⟩
  refine ⟨ρ, M1, W1, R1, S.mono l1, post_bind P1 fun u H2 W2 M2 y e2 l2 R2 r2 P2 => ?_⟩
  have r2 : u = y := r2
  subst r2
  refine ⟨ρ, M2, W2, R2, (S.mono l1).mono l2, post_bind P2 fun w H3 W3 M3 z e3 l3 R3 r3 P3 => ?_⟩
  have r3 : w = z := r3
  subst r3
  exact ⟨W3, M3, σ, x, R3, (r1.mono l2).mono l3, P3⟩
end
end Ev

namespace Ev
open PySem PySem.Spec PyProof.Rows L2

/-! ### calls of built-in functions -/
abbrev Op1 := List Vl → Sto → Out Vl
def gCall (op : Op1) (g : Ev0 (List Vl)) : Ev0 Vl := fun ρ M => (g ρ M).bind fun xs M1 => op xs M1
def liftC1 (f : PyData → Option PyData) : Op1 := fun xs M => match xs with
  | [x] => lift1 f x M
  | _ => .bad
section
variable {X : Cx} {W0 : WX} {a b c : Expr} {ga gb gc : Ev0 Vl} {ca cb : Ev0 Bool} {pos p : Pos} {es : List Expr} {g : Ev0 (List Vl)} {x : Str} {op : Op1}
theorem vlsR_one {K : PySem.W.Frag} {W : Wd} {xs : List V} {v : Vl} (h : VlsR K W xs [v]) : ∃ x, xs = [x] ∧ VlR K W x v := by
  cases h with
  | cons h t => cases t; exact ⟨_, rfl, h⟩
theorem vlsR_nil {K : PySem.W.Frag} {W : Wd} {xs : List V} (h : VlsR K W xs []) : xs = [] := by cases h; rfl
theorem vlsR_two {K : PySem.W.Frag} {W : Wd} {xs : List V} {v w : Vl} (h : VlsR K W xs [v, w]) : ∃ x y, xs = [x, y] ∧ VlR K W x v ∧ VlR K W y w := by
  cases h with
  | cons h t =>
    obtain ⟨y, rfl, h2⟩ := vlsR_one t
    exact ⟨_, _, rfl, h, h2⟩
theorem c1_post {K : PySem.W.Frag} {W : Wd} {H : Hp} {M : Sto} {σ : L2.St} {f : PyData → Option PyData} {xs : List V} {vs : List Vl} {Q : VK} (R : RelM K W H M) (r : VlsR K W xs vs) (P : Post (VlR K) K W0 W σ (liftC1 f vs M) Q) :
    ∃ x a c, xs = [x] ∧ PkR K W H x a ∧ f a = some c ∧ ∀ v H' W', W.le W' → RelM K W' H' M → Dq K W'.Z v c → Q v H' := by
  match vs, r, P with
  | [], _, P => exact P.elim
  | [v], r, P =>
    obtain ⟨x, rfl, rx⟩ := vlsR_one r
    obtain ⟨a, c, h1, h2, h3⟩ := lift1_post R rx P
    exact ⟨x, a, c, rfl, h1, h2, h3⟩
  | _ :: _ :: _, _, P => exact P.elim
theorem call_mono {t : TA} {r : List V → Hp → VK → Prop} (m : ∀ σ H Q, aA X.K W0 g σ H Q → t σ H Q) (hr : r = aC X.K W0 op) : ∀ σ H Q, aE X.K W0 (gCall op g) σ H Q → tCB r t σ H Q := by
  subst hr
  intro σ H Q h
  obtain ⟨ρ, M, W, R, S, P⟩ := h
  refine m σ H _ ⟨ρ, M, W, R, S, post_bind P fun vs H1 W1 M1 xs e l1 R1 r1 P1 => ?_⟩
  exact ⟨W1, M1, σ, xs, R1, r1, P1⟩
theorem se_callB {id : String} (hc : CallR X (.builtin id) (aC X.K W0 op)) (hg : Gl X x) (hm : X.mg x = none) (hv : bootBuiltins x = some (.builtin id)) (ha : SA X W0 (a :: es) g) (hs : (a :: es).all notStar = true) (hn : x ≠ "__name__") (hdb : (x == ("__debug__" : Str)) = false) : SE X W0 (.Call (.Name x p) (a :: es) [] pos) (gCall op g) := by
  have h2 : notStar a = true ∧ es.all notStar = true := by simpa [List.all_cons] using hs
  exact PE.mono (pe_callB hc hg hm hv ha hn hdb (star_one h2.1 _ _) (star_none _ _ _ h2.2)) (call_mono (fun _ _ _ h => h) rfl)
theorem se_callTy {T : String} (hc : CallR X (.type T) (aC X.K W0 op)) (hg : Gl X x) (hm : X.mg x = none) (hv : bootBuiltins x = some (.type T)) (ha : SA X W0 (a :: es) g) (hs : (a :: es).all notStar = true) (hn : x ≠ "__name__") (hdb : (x == ("__debug__" : Str)) = false) : SE X W0 (.Call (.Name x p) (a :: es) [] pos) (gCall op g) := by
  have h2 : notStar a = true ∧ es.all notStar = true := by simpa [List.all_cons] using hs
  exact PE.mono (pe_callTy hc hg hm hv ha hn hdb (star_one h2.1 _ _) (star_none _ _ _ h2.2)) (call_mono (fun _ _ _ h => h) rfl)

/-! #### len, abs, int, list, tuple -/
def lenD : PyData → Option PyData
  | .list xs => some (.int xs.length)
  | .tuple xs => some (.int xs.length)
  | .str z => if z.length ≤ sizeLine then some (.int z.length) else none
  | _ => none
def lenV : Op1 := fun xs M => match xs with
  | [x] => (match dctAt M x with
    | some kvs => .ok (.d (.int kvs.length)) M
    | none => lift1 lenD x M)
  | _ => .bad
def absD : PyData → Option PyData
  | .int i => some (.int (if i < 0 then -i else i))
  | _ => none
def intD : PyData → Option PyData
  | .int i => some (.int i)
  | .bool b => some (.int (if b then 1 else 0))
  | _ => none
def listD : PyData → Option PyData
  | .list xs => some (.list xs)
  | .tuple xs => some (.list xs)
  | _ => none
def tupleD : PyData → Option PyData
  | .list xs => some (.tuple xs)
  | .tuple xs => some (.tuple xs)
  | _ => none
/-- list(x), to change -/
def listM : Op1 := fun xs M => match xs with
  | [x] => (match peek M x with
    | some d => (match itemsOf d with
      | some ys => .ok (.ref M.length) (M ++ [.lst ys])
      | none => .bad)
    | none => .bad)
  | _ => .bad
theorem call_lenV : CallR X (.builtin "len") (aC X.K W0 lenV) := by
  intro pins s σ H xs us Q I r h
  obtain ⟨W, M, σ', vs, R, rv, P⟩ := h
  match vs, rv, P with
  | [], _, P => exact P.elim
  | _ :: _ :: _, _, P => exact P.elim
  | [v], rv, P =>
    obtain ⟨x, rfl, rx⟩ := vlsR_one rv
    unfold lenV at P
    cases e : dctAt M v with
    | some kvs =>
      simp only [e] at P
      obtain ⟨n, a, vs, rfl, rfl, hm, z, h1, h2⟩ := dctAt_ok R rx e
      exact call_lenD pins s σ H _ us Q I r ⟨a, vs, rfl, h1, by rw [kv_len h2]; exact P _ _ W (Wd.le.refl _) R (.int _)⟩
    | none =>
      simp only [e] at P
      obtain ⟨a, c, pa, e, q⟩ := lift1_post R rx P
      cases a with
      | list xs =>
        cases e
        obtain ⟨p, vs, rfl, hp, hd⟩ := pa.list R
        exact call_len pins s σ H _ us Q I r ⟨_, xs.length, rfl, .inl ⟨vs, hp, hd.length.symm⟩, q _ _ W (Wd.le.refl _) R (.int _)⟩
      | tuple xs =>
        cases e
        obtain ⟨p, vs, rfl, _, hp, hd⟩ := pa.tuple R
        exact call_len pins s σ H _ us Q I r ⟨_, xs.length, rfl, .inr ⟨vs, hp, hd.length.symm⟩, q _ _ W (Wd.le.refl _) R (.int _)⟩
      | str z =>
        obtain rfl := pa.str
        simp only [lenD] at e
        split at e
        · rename_i hz
          cases e
          exact call_len pins s σ H _ us Q I r ⟨_, z.length, rfl, ⟨hz, rfl⟩, q _ _ W (Wd.le.refl _) R (.int _)⟩
        · cases e
      | _ => cases e
theorem call_absV : CallR X (.builtin "abs") (aC X.K W0 (liftC1 absD)) := by
  intro pins s σ H xs us Q I r h
  obtain ⟨W, M, σ', vs, R, rv, P⟩ := h
  obtain ⟨x, a, c, rfl, pa, e, q⟩ := c1_post R rv P
  cases a with
  | int i =>
    cases e
    obtain rfl := pa.int
    exact call_abs pins s σ H _ us Q I r ⟨i, rfl, q _ _ W (Wd.le.refl _) R (.int _)⟩
  | _ => cases e
theorem call_intV : CallR X (.type "int") (aC X.K W0 (liftC1 intD)) := by
  intro pins s σ H xs us Q I r h
  obtain ⟨W, M, σ', vs, R, rv, P⟩ := h
  obtain ⟨x, a, c, rfl, pa, e, q⟩ := c1_post R rv P
  cases a with
  | int i =>
    cases e
    obtain rfl := pa.int
    exact call_int1 pins s σ H _ us Q I r (.inl ⟨i, rfl, q _ _ W (Wd.le.refl _) R (.int _)⟩)
  | bool k =>
    cases e
    obtain rfl := pa.bool
    exact call_int1 pins s σ H _ us Q I r (.inr ⟨k, rfl, q _ _ W (Wd.le.refl _) R (.int _)⟩)
  | _ => cases e
theorem call_listV : CallR X (.type "list") (aC X.K W0 (liftC1 listD)) := by
  intro pins s σ H xs us Q I r h
  obtain ⟨W, M, σ', vs, R, rv, P⟩ := h
  obtain ⟨x, a, c, rfl, pa, e, q⟩ := c1_post R rv P
  cases a with
  | list xs =>
    cases e
    obtain ⟨p, vs, rfl, hp, hd⟩ := pa.list R
    refine call_list_of pins s σ H _ us Q I r ⟨p, vs, rfl, .inl hp, fun l hl => ?_⟩
    obtain ⟨R3, l3, d⟩ := R.mkL hl hd
    exact q _ _ _ l3 R3 d
  | tuple xs =>
    cases e
    obtain ⟨p, vs, rfl, _, hp, hd⟩ := pa.tuple R
    refine call_list_of pins s σ H _ us Q I r ⟨p, vs, rfl, .inr hp, fun l hl => ?_⟩
    obtain ⟨R3, l3, d⟩ := R.mkL hl hd
    exact q _ _ _ l3 R3 d
  | _ => cases e
theorem call_listMV : CallR X (.type "list") (aC X.K W0 listM) := by
  intro pins s σ H xs us Q I r h
  obtain ⟨W, M, σ', vs, R, rv, P⟩ := h
  match vs, rv, P with
  | [], _, P => exact P.elim
  | _ :: _ :: _, _, P => exact P.elim
  | [v], rv, P =>
    obtain ⟨x, rfl, rx⟩ := vlsR_one rv
    unfold listM at P
    cases e1 : peek M v with
    | none => simp only [e1] at P; exact P.elim
    | some d =>
      simp only [e1] at P
      have pa := peek_pk R rx e1
      cases d with
      | list xs =>
        obtain ⟨p, vs, rfl, hp, hd⟩ := pa.list R
        refine call_list_of pins s σ H _ us Q I r ⟨p, vs, rfl, .inl hp, fun l hl => ?_⟩
        obtain ⟨W3, l3, R3, d⟩ := new_lst R hl hd
        exact P _ _ _ l3 R3 d
      | tuple xs =>
        obtain ⟨p, vs, rfl, _, hp, hd⟩ := pa.tuple R
        refine call_list_of pins s σ H _ us Q I r ⟨p, vs, rfl, .inr hp, fun l hl => ?_⟩
        obtain ⟨W3, l3, R3, d⟩ := new_lst R hl hd
        exact P _ _ _ l3 R3 d
      | _ => exact P.elim
theorem call_tupleL : CallR X (.type "tuple") (fun xs H Q => ∃ p ys, xs = [.ref p] ∧ SqL X.K H p ys ∧ ∀ l H', H l = none → NewT H l ys H' → Q (.ref l) H') := by
  intro pins s σ H xs us Q I r h
  obtain ⟨p, ys, rfl, hq, q⟩ := h
  obtain ⟨u, rfl, rx⟩ := vals1 r
  cases rx
  obtain ⟨ws, r', pl, hz⟩ := I.list hq
  have hl := r'.length
  refine call_tuple_list pl.isList (fun h' kp => ?_) (by simp only [List.size_toArray]; omega)
  have I1 : Inv X pins σ H { s with heap := h' } := I.kept (t' := s.toks) kp
  obtain ⟨H', n', I2⟩ := inv_pushT I1 r' hz
  exact ⟨.ref _, H', I2, rfl, q _ _ (I1.hok.fresh (Nat.le_refl _)) n'⟩
theorem call_tupleV : CallR X (.type "tuple") (aC X.K W0 (liftC1 tupleD)) := by
  intro pins s σ H xs us Q I r h
  obtain ⟨W, M, σ', vs, R, rv, P⟩ := h
  obtain ⟨x, a, c, rfl, pa, e, q⟩ := c1_post R rv P
  cases a with
  | list xs =>
    cases e
    obtain ⟨p, vs, rfl, hp, hd⟩ := pa.list R
    refine call_tupleL pins s σ H _ us Q I r ⟨p, vs, rfl, hp, fun l H' hl hn => ?_⟩
    obtain ⟨W3, l3, R3, d⟩ := R.mkT hl hn hd
    exact q _ _ _ l3 R3 d
  | tuple xs =>
    cases e
    obtain ⟨p, vs, rfl, hp0, hp, hd⟩ := pa.tuple R
    exact call_tuple_of pins s σ H _ us Q I r ⟨p, vs, rfl, .inr ⟨hp, q _ _ W (Wd.le.refl _) R (.tup hp0 hd)⟩⟩
  | _ => cases e

/-! #### sum, all, any -/
def numD : PyData → Option Int
  | .int i => some i
  | .bool b => some (if b = true then 1 else 0)
  | _ => none
def numsD : List PyData → Option (List Int)
  | [] => some []
  | x :: xs => match numD x, numsD xs with
    | some i, some is => some (i :: is)
    | _, _ => none
def sumD (d : PyData) : Option PyData := match itemsOf d with
  | some xs => (match numsD xs with
    | some ns => some (.int ns.sum)
    | none => none)
  | none => none
theorem preSum_take (ns : List Int) : ∀ k, preSum (fun i => ns.getD i 0) k = (ns.take k).sum
  | 0 => rfl
  | k + 1 => by
    show preSum (fun i => ns.getD i 0) k + ns.getD k 0 = _
    rw [preSum_take ns k, List.take_succ, List.sum_append, List.getD_eq_getElem?_getD]
    cases ns[k]? with
    | none => simp
    | some a => simp
theorem nums_len : ∀ {xs : List PyData} {ns : List Int}, numsD xs = some ns → ns.length = xs.length
  | [], _, e => by cases e; rfl
  | x :: xs, ns, e => by
    simp only [numsD] at e
    cases e1 : numD x with
    | none => rw [e1] at e; cases e
    | some i =>
      rw [e1] at e
      cases e2 : numsD xs with
      | none => rw [e2] at e; cases e
      | some is =>
        rw [e2] at e
        cases e
        rw [List.length_cons, List.length_cons, nums_len e2]
theorem nums_at {K : PySem.W.Frag} {Z : Hp} : ∀ {vs : List V} {its : List Value} {xs : List PyData} {ns : List Int}, Vals vs its → DqAll K Z vs xs → numsD xs = some ns → ∀ i u, its[i]? = some u → NumOf (ns.getD i 0) u
  | _, _, _, _, .nil, .nil, e, i, u, h => by simp at h
  | _, _, _, ns, .cons (l₁ := vs) (l₂ := its) r rs, .cons (d := d) (ds := xs) q qs, e, i, u, h => by
    simp only [numsD] at e
    cases e1 : numD d with
    | none => rw [e1] at e; cases e
    | some j =>
      rw [e1] at e
      cases e2 : numsD xs with
      | none => rw [e2] at e; cases e
      | some is =>
        rw [e2] at e
        cases e
        cases i with
        | zero =>
          simp at h
          subst h
          cases q with
          | int k =>
            cases e1
            obtain ⟨t, rfl⟩ := r
            exact .inl ⟨t, rfl⟩
          | bl k =>
            cases e1
            cases r
            exact .inr ⟨k, rfl, rfl⟩
          | _ => cases e1
        | succ i => exact nums_at rs qs e2 i u (by simpa using h)
theorem sum_of {A : Around} {prog : Program} {w : World} {E : Value → Shared → Prop} {s : Shared} {l : Addr} {its : List Value} {ns : List Int} {Q : Value → Shared → Prop} (hh : A.handled = none) (hl : s.heap.IsList l its.toArray ∨ s.heap.IsTuple l its.toArray) (hn : ns.length = its.length)
    (hv : ∀ i u, its[i]? = some u → NumOf (ns.getD i 0) u) (h : ∀ h' tk t, (∀ b o, s.heap.get? b = some o → h'.get? b = some o) → Q (.int ns.sum t) { s with heap := h', toks := tk }) : wpAny (model prog w) A (call (.builtin "sum") [.ref l]) Q E s := by
  refine call_sum_walkAnyB ?_
  have e0 : preSum (fun i => ns.getD i 0) its.toArray.size = ns.sum := by
    rw [preSum_take, List.size_toArray, ← hn, List.take_length]
  rcases hl with hl | hl
  · refine PySem.W.iter_listW (A := A.in1) hh hl fun s₂ e W st hfp hw hk => ?_
    refine ⟨_, _, _, _, _, _, _, fun i => ns.getD i 0, rfl, W, st, hfp, fun i u hu => hv i u (by simpa using hu), fun s' t' m => ?_⟩
    obtain ⟨h', tk, rfl, hk'⟩ := PySem.W.moved_old e rfl m
    rw [e0]
    exact h h' tk t' hk'
  · refine PySem.W.iter_tupleW (A := A.in1) hh hl fun s₂ e W st hfp hw hk => ?_
    refine ⟨_, _, _, _, _, _, _, fun i => ns.getD i 0, rfl, W, st, hfp, fun i u hu => hv i u (by simpa using hu), fun s' t' m => ?_⟩
    obtain ⟨h', tk, rfl, hk'⟩ := PySem.W.moved_old e rfl m
    rw [e0]
    exact h h' tk t' hk'
theorem call_sumV (hc : X.calm = true) : CallR X (.builtin "sum") (aC X.K W0 (liftC1 sumD)) := by
  intro pins s σ H xs us Q I r h
  obtain ⟨W, M, σ', vs, R, rv, P⟩ := h
  obtain ⟨x, a, c, rfl, pa, e, q⟩ := c1_post R rv P
  obtain ⟨u, rfl, rx⟩ := vals1 r
  have key : ∀ (p : Addr) (vs : List V) (its : List Value) (ds : List PyData), x = .ref p → DqAll X.K W.Z vs ds → Vals vs its → (s.heap.IsList p its.toArray ∨ s.heap.IsTuple p its.toArray) → itemsOf a = some ds → wpAny (model X.prog X.w) X.A (call (.builtin "sum") [u]) (EP X pins σ Q) X.xe s := by
    intro p vs its ds ex hd hv hl hi
    subst ex
    cases rx
    simp only [sumD, hi] at e
    cases e2 : numsD ds with
    | none => rw [e2] at e; cases e
    | some ns =>
      rw [e2] at e
      cases e
      refine sum_of (I.ok.hd hc) hl (by rw [nums_len e2, ← hd.length, hv.length]) (nums_at hv hd e2) fun h' tk t hk => ?_
      exact ⟨.int ns.sum, H, I.kept hk, ⟨t, rfl⟩, q _ _ W (Wd.le.refl _) R (.int _)⟩
  cases a with
  | list xs =>
    obtain ⟨p, vs, rfl, hp, hd⟩ := pa.list R
    obtain ⟨its, hv, hl, _⟩ := I.list hp
    exact key p vs its xs rfl hd hv (.inl hl.isList) rfl
  | tuple xs =>
    obtain ⟨p, vs, rfl, _, hp, hd⟩ := pa.tuple R
    obtain ⟨its, hv, hl, _⟩ := I.tuple hp
    exact key p vs its xs rfl hd hv (.inr hl) rfl
  | _ => cases e
def fitB : PyData → Bool
  | .str x => Nat.blt x.length 9223372036854775808
  | .list xs => Nat.blt xs.length 9223372036854775808
  | .tuple xs => Nat.blt xs.length 9223372036854775808
  | _ => true
theorem lt63 {n : Nat} (h : Nat.blt n 9223372036854775808 = true) : (n : Int) < 2 ^ 63 := by
  have h2 : n < 9223372036854775808 := Nat.le_of_ble_eq_true h
  omega
theorem fitB_ok : ∀ {d : PyData}, fitB d = true → d.fits63
  | .str _, h => lt63 h
  | .list _, h => lt63 h
  | .tuple _, h => lt63 h
  | .none, _ => trivial
  | .bool _, _ => trivial
  | .int _, _ => trivial
  | .dict _, _ => trivial
def allD (d : PyData) : Option PyData := match itemsOf d with
  | some xs => if xs.all fitB = true then some (.bool (xs.all fun x => x.truthy)) else none
  | none => none
def anyD (d : PyData) : Option PyData := match itemsOf d with
  | some xs => if xs.all fitB = true then some (.bool (xs.any fun x => x.truthy)) else none
  | none => none
theorem call_allV (hc : X.calm = true) : CallR X (.builtin "all") (aC X.K W0 (liftC1 allD)) := by
  intro pins s σ H xs us Q I r h
  obtain ⟨W, M, σ', vs, R, rv, P⟩ := h
  obtain ⟨x, a, c, rfl, pa, e, q⟩ := c1_post R rv P
  obtain ⟨u, rfl, rx⟩ := vals1 r
  obtain ⟨⟨as, ra⟩, ha⟩ := inv_dp I (pa.dp R) rx
  cases a with
  | list xs =>
    simp only [allD, itemsOf] at e
    split at e
    · rename_i hf
      cases e
      cases ra with
      | list h1 h2 h3 h4 =>
        exact PySem.W.all_list_data (I.ok.hd hc) ⟨_, h1, h2, _, h3⟩ h4 (by simpa [PyData.plain] using ha) (fun y hy => fitB_ok (List.all_eq_true.mp hf y hy)) fun h' tk hk => ⟨.bl _, H, I.kept hk, rfl, q _ _ W (Wd.le.refl _) R (.bl _)⟩
    · cases e
  | tuple xs =>
    simp only [allD, itemsOf] at e
    split at e
    · rename_i hf
      cases e
      cases ra with
      | tuple h1 h2 h3 h4 =>
        exact PySem.W.all_tuple_data (I.ok.hd hc) ⟨_, h1, h2, _, h3⟩ h4 (by simpa [PyData.plain] using ha) (fun y hy => fitB_ok (List.all_eq_true.mp hf y hy)) fun h' tk hk => ⟨.bl _, H, I.kept hk, rfl, q _ _ W (Wd.le.refl _) R (.bl _)⟩
    · cases e
  | _ => cases e
theorem call_anyV (hc : X.calm = true) : CallR X (.builtin "any") (aC X.K W0 (liftC1 anyD)) := by
  intro pins s σ H xs us Q I r h
  obtain ⟨W, M, σ', vs, R, rv, P⟩ := h
  obtain ⟨x, a, c, rfl, pa, e, q⟩ := c1_post R rv P
  obtain ⟨u, rfl, rx⟩ := vals1 r
  obtain ⟨⟨as, ra⟩, ha⟩ := inv_dp I (pa.dp R) rx
  cases a with
  | list xs =>
    simp only [anyD, itemsOf] at e
    split at e
    · rename_i hf
      cases e
      cases ra with
      | list h1 h2 h3 h4 =>
        exact PySem.W.any_list_data (I.ok.hd hc) ⟨_, h1, h2, _, h3⟩ h4 (by simpa [PyData.plain] using ha) (fun y hy => fitB_ok (List.all_eq_true.mp hf y hy)) fun h' tk hk => ⟨.bl _, H, I.kept hk, rfl, q _ _ W (Wd.le.refl _) R (.bl _)⟩
    · cases e
  | tuple xs =>
    simp only [anyD, itemsOf] at e
    split at e
    · rename_i hf
      cases e
      cases ra with
      | tuple h1 h2 h3 h4 =>
        exact PySem.W.any_tuple_data (I.ok.hd hc) ⟨_, h1, h2, _, h3⟩ h4 (by simpa [PyData.plain] using ha) (fun y hy => fitB_ok (List.all_eq_true.mp hf y hy)) fun h' tk hk => ⟨.bl _, H, I.kept hk, rfl, q _ _ W (Wd.le.refl _) R (.bl _)⟩
    · cases e
  | _ => cases e

/-! #### isinstance(e, T) -/
inductive Ty where
  | int | bool | str | list | tuple | dict
def Ty.nm : Ty → String
  | .int => "int"
  | .bool => "bool"
  | .str => "str"
  | .list => "list"
  | .tuple => "tuple"
  | .dict => "dict"
def isaD (T : Ty) (d : PyData) : Option PyData := some (.bool (match T with
  | .int => d.isInt
  | .bool => d.isBool
  | .str => d.isStr
  | .list => d.isList
  | .tuple => d.isTuple
  | .dict => d.isDict))
theorem call_isaV (T : Ty) : CallR X (.builtin "isinstance") (fun xs H Q => ∃ x, xs = [x, .ty T.nm] ∧ aC X.K W0 (liftC1 (isaD T)) [x] H Q) := by
  intro pins s σ H xs us Q I r h
  obtain ⟨x, rfl, W, M, σ', vs, R, rv, P⟩ := h
  obtain ⟨x', a, c, ex, pa, e, q⟩ := c1_post R rv P
  cases ex
  obtain ⟨u, u2, rfl, rx, r2⟩ := vals2 r
  obtain ⟨⟨as, ra⟩, ha⟩ := inv_dp I (pa.dp R) rx
  obtain rfl : u2 = Value.type T.nm := r2
  cases T <;> cases e
  · exact PySem.W.isinstance_int_data ra fun tk _ => ⟨.bl _, H, I.tok _, rfl, q _ _ W (Wd.le.refl _) R (.bl _)⟩
  · exact PySem.W.isinstance_bool_data ra fun tk _ => ⟨.bl _, H, I.tok _, rfl, q _ _ W (Wd.le.refl _) R (.bl _)⟩
  · exact PySem.W.isinstance_str_data ra fun tk _ => ⟨.bl _, H, I.tok _, rfl, q _ _ W (Wd.le.refl _) R (.bl _)⟩
  · exact PySem.W.isinstance_list_data ra fun tk _ => ⟨.bl _, H, I.tok _, rfl, q _ _ W (Wd.le.refl _) R (.bl _)⟩
  · exact PySem.W.isinstance_tuple_data ra fun tk _ => ⟨.bl _, H, I.tok _, rfl, q _ _ W (Wd.le.refl _) R (.bl _)⟩
  · exact PySem.W.isinstance_dict_data ra fun tk _ => ⟨.bl _, H, I.tok _, rfl, q _ _ W (Wd.le.refl _) R (.bl _)⟩
theorem se_isa {T : Ty} {nT : Str} {pT pf : Pos} (hg : Gl X "isinstance") (hm : X.mg "isinstance" = none) (hv : bootBuiltins nT = some (.type T.nm)) (hgT : Gl X nT) (hmT : X.mg nT = none) (hn : nT ≠ "__name__") (hdb : (nT == ("__debug__" : Str)) = false) (ha : SE X W0 a ga) (hs : notStar a = true) :
    SE X W0 (.Call (.Name "isinstance" pf) [a, .Name nT pT] [] pos) (gUn (lift1 (isaD T)) ga) := by
  have hT : PE X (.Name nT pT) (tC (.ty T.nm)) := pe_bltn hgT hmT hv rfl hn hdb
  refine PE.mono (pe_callB (call_isaV (W0 := W0) T) hg hm (by decide +kernel) (pa_cons ha (pa_cons hT pa_nil) (star_one hs _ _)) (by decide) (by decide) (star_one hs _ _)) fun σ H Q h => ?_
  obtain ⟨ρ, M, W, R, S, P⟩ := h
  refine ⟨ρ, M, W, R, S, post_bind P fun v H1 W1 M1 x e l1 R1 r1 P1 => ?_⟩
  exact ⟨v, rfl, W1, M1, σ, [x], R1, .cons r1 .nil, P1⟩

/-! ### methods -/
abbrev OpM := Vl → List Vl → Sto → Out Vl
def aM (K : PySem.W.Frag) (W0 : WX) (op : OpM) : V → List V → Hp → VK → Prop := fun x xs H Q => ∃ (W : Wd) (M : Sto) (σ : L2.St) (v : Vl) (vs : List Vl), RelM K W H M ∧ VlR K W x v ∧ VlsR K W xs vs ∧ Post (VlR K) K W0 W σ (op v vs M) Q
/-- the receiver's type -/
inductive MT where
  | list | dict | str
def MT.nm : MT → String
  | .list => "list"
  | .dict => "dict"
  | .str => "str"
def tyM (T : MT) (M : Sto) (x : Vl) : Bool := match T with
  | .list => (match peek M x with
    | some (.list _) => true
    | _ => false)
  | .dict => (dctAt M x).isSome
  | .str => (match x with
    | .d (.str _) => true
    | _ => false)
def gMeth (T : MT) (op : OpM) (g : Ev0 Vl) (h : Ev0 (List Vl)) : Ev0 Vl := fun ρ M => (g ρ M).bind fun x M1 => if tyM T M1 x = true then (h ρ M1).bind fun xs M2 => op x xs M2 else .bad
theorem tyM_ok {K : PySem.W.Frag} {W : Wd} {H : Hp} {M : Sto} {T : MT} {v : V} {x : Vl} (R : RelM K W H M) (r : VlR K W v x) (h : tyM T M x = true) : tyV K T.nm v H := by
  cases T with
  | list =>
    simp only [tyM] at h
    cases e : peek M x with
    | none => rw [e] at h; cases h
    | some d =>
      rw [e] at h
      cases d with
      | list xs =>
        obtain ⟨p, vs, rfl, hp, hd⟩ := (peek_pk R r e).list R
        exact .inl ⟨rfl, vs, hp⟩
      | _ => cases h
  | dict =>
    simp only [tyM] at h
    cases e : dctAt M x with
    | none => rw [e] at h; cases h
    | some kvs =>
      obtain ⟨n, a, vs, rfl, rfl, hm, z, h1, h2⟩ := dctAt_ok R r e
      exact .inr (.inr (.inl ⟨rfl, .inl ⟨vs, h1⟩⟩))
  | str =>
    simp only [tyM] at h
    cases x with
    | d y =>
      cases y with
      | str z => cases r; exact rfl
      | _ => cases h
    | ref n => cases h
    | adr _ _ => cases h
theorem se_meth {T : MT} {op : OpM} {id : String} {name : Str} {apos cpos : Pos} (pa : PlainAttrs T.nm) (slot : Slot T.nm name id) (hty : typeOf (.builtin id) = pure (.type "method_descriptor")) (hm : MtR X id (aM X.K W0 op)) (ho : SE X W0 a ga) (ha : SA X W0 (b :: es) g)
    (hbase : ∀ env, attributeBase a name env (eval a env) = eval a env) (hfew : (b :: es).length < 29) (hs : (b :: es).all notStar = true) (hline : (apos.endLine == cpos.line) = true) : SE X W0 (.Call (.Attribute a name apos) (b :: es) [] cpos) (gMeth T op ga g) := by
  have h2 : notStar b = true ∧ es.all notStar = true := by simpa [List.all_cons] using hs
  have h3 : ∀ (l : List (Bool × Sem Value)), l.any (·.1) = false → l.all (fun x => !x.1) = true := fun l h => by
    rw [List.all_eq_not_any_not]
    simp only [Bool.not_not]
    rw [h]
    rfl
  refine PE.mono (pe_bm pa slot hty hm ho ha (hbase _) ?_ hline (star_one h2.1 _ _) (star_none _ _ _ h2.2)) fun σ H Q h => ?_
  · rw [h3 _ (star_none cpos X.env (b :: es) hs)]
    have e : (b :: es).length + ([] : List Keyword).length + (if ([] : List Keyword).isEmpty then 0 else 1) < 30 := by
      show (b :: es).length + 0 + 0 < 30
      omega
    rw [decide_eq_true e]
    rfl
  · obtain ⟨ρ, M, W, R, S, P⟩ := h
    refine ⟨ρ, M, W, R, S, post_bind P fun v H1 W1 M1 x e l1 R1 r1 P1 => ?_⟩
    obtain ⟨ht, P2⟩ := if_post P1
    refine ⟨tyM_ok R1 r1 ht, ρ, M1, W1, R1, S.mono l1, post_bind P2 fun vs H2 W2 M2 xs e2 l2 R2 r2 P3 => ?_⟩
    exact ⟨W2, M2, σ, x, xs, R2, r1.mono l2, r2, P3⟩

/-! #### list.append, list.extend, list.count -/
def lstAt (M : Sto) : Vl → Option (Nat × List PyData)
  | .ref n => match M[n]? with
    | some (.lst xs) => some (n, xs)
    | _ => none
  | _ => none
def appendV : OpM := fun x vs M => match vs with
  | [v] => (match toD M v with
    | some (d, M1) => (match lstAt M1 x with
      | some (n, xs) => if xs.length < sizeLine then .ok (.d .none) (M1.set n (.lst (xs ++ [d]))) else .bad
      | none => .bad)
    | none => .bad)
  | _ => .bad
def countV : OpM := fun x vs M => match vs with
  | [v] => (match peek M x, peek M v with
    | some (.list xs), some d => if min (PyData.depthAll xs) d.depth ≤ 64 then .ok (.d (.int ((xs.countP fun y => PyData.eqv y d : Nat) : Int))) M else .bad
    | _, _ => .bad)
  | _ => .bad
theorem lstAt_ok {K : PySem.W.Frag} {W : Wd} {H : Hp} {M : Sto} (R : RelM K W H M) {v : V} {x : Vl} {n : Nat} {xs : List PyData} (r : VlR K W v x) (e : lstAt M x = some (n, xs)) : ∃ a vs, x = .ref n ∧ v = .ref a ∧ W.μ[n]? = some a ∧ W.Z a = none ∧ H a = some (.lst vs) ∧ DqAll K W.Z vs xs := by
  cases x with
  | d y => cases e
  | adr _ _ => cases e
  | ref m =>
    obtain ⟨a, rfl, hm⟩ := r
    simp only [lstAt] at e
    cases e2 : M[m]? with
    | none => rw [e2] at e; cases e
    | some cl =>
      rw [e2] at e
      cases cl with
      | lst l =>
        cases e
        obtain ⟨z, vs, h1, h2⟩ := cell_lst R hm e2
        exact ⟨a, vs, rfl, rfl, hm, z, h1, h2⟩
      | _ => cases e
theorem mt_appendV : MtR X "list.append" (aM X.K W0 appendV) := by
  intro pins s σ H x xs v us Q I rx rs h
  obtain ⟨W, M, σ', y, vs, R, r1, r2, P⟩ := h
  match vs, r2, P with
  | [], _, P => exact P.elim
  | _ :: _ :: _, _, P => exact P.elim
  | [w], r2, P1 =>
    obtain ⟨z, rfl, rz⟩ := vlsR_one r2
    simp only [appendV] at P1
    cases e : toD M w with
    | none => rw [e] at P1; exact P1.elim
    | some q =>
      obtain ⟨d, M1⟩ := q
      rw [e] at P1
      dsimp only at P1
      obtain ⟨W1, l1, R1, dz⟩ := toD_dp R rz e
      cases e2 : lstAt M1 y with
      | none => rw [e2] at P1; exact P1.elim
      | some q2 =>
        obtain ⟨n, ys⟩ := q2
        rw [e2] at P1
        obtain ⟨a, ws, rfl, rfl, hm, hz, hH, hd⟩ := lstAt_ok R1 (r1.mono l1) e2
        obtain ⟨hlt, P2⟩ := if_post P1
        exact mt_append pins s σ H _ _ v us Q I rx rs ⟨a, ws, z, rfl, rfl, hH, by rw [hd.length]; exact hlt, P2 _ _ W1 l1 (set_lst R1 hm hz (hd.append (.cons dz .nil))) .non⟩
theorem mt_countV (hu : X.A.units + 65 < cLine) : MtR X "list.count" (aM X.K W0 countV) := by
  intro pins s σ H x xs v us Q I rx rs h
  obtain ⟨W, M, σ', y, vs, R, r1, r2, P⟩ := h
  match vs, r2, P with
  | [], _, P => exact P.elim
  | _ :: _ :: _, _, P => exact P.elim
  | [w], r2, P =>
    obtain ⟨z, rfl, rz⟩ := vlsR_one r2
    obtain ⟨u, rfl, ru⟩ := rs.one
    simp only [countV] at P
    cases e : peek M y with
    | none => rw [e] at P; exact P.elim
    | some d =>
      cases e2 : peek M w with
      | none => rw [e, e2] at P; cases d <;> exact P.elim
      | some d2 =>
        rw [e, e2] at P
        cases d with
        | list ys =>
          simp only at P
          obtain ⟨hd, P2⟩ := if_post P
          obtain ⟨⟨as, ra⟩, ha⟩ := inv_dp I (peek_dp R r1 e) rx
          obtain ⟨⟨bs, rb⟩, hb⟩ := inv_dp I (peek_dp R rz e2) ru
          cases ra with
          | list h1 h2 h3 h4 =>
            exact SeqAt.count_list_data ⟨_, h1, h2, _, h3⟩ h4 rb (by simpa [PyData.plain] using ha) hb (by omega) ⟨.int _, H, I.tok _, ⟨_, rfl⟩, P2 _ _ W (Wd.le.refl _) R (.int _)⟩
        | _ => exact P.elim
end
end Ev

namespace PySem
namespace EvX
open PySem.W PySem.Calls PyProof.Rows PySem.HandSPX

/-! ### an own exception whose __init__ says super().__init__(f1, f2) and stores both -/
section
variable {prog : Program} {w : World} {M : Model} {A : Around} {E : Value → Shared → Prop} {h : Heap} {g : Array GenState} {d : Drawn} {t : Nat} {os : OsState}
variable {nm q : Str} {C N : Addr} {bs bm : List Value} {hdct : Bool} {sn : List Str} {sub : List Value} {ab : Bool} {col : Option Bool} {dd : Option Addr} {k0 k1 k2 k3 k5 : Option Value}
/-- the bound wrapper is called: the args are laid anew -/
theorem call_mw {u e t0 : Addr} {rest : List Value} {Q : Value → Shared → Prop} (hbm : refsVE bm = true)
    (hC : h.get? C = some (excClassObj nm q C N bs bm hdct sn sub ab col dd k0 k1 k2 k3 k5 "ValueError.__new__")) (he : h.get? e = some (excO C t0)) (hu : h.get? u = some (kxs_mw "ValueError.__init__" e)) (hrest : rest.length ≤ sizeLine)
    (hq : ∀ h' t1, (∀ b o, b ≠ e → h.get? b = some o → h'.get? b = some o) → h'.get? e = some (excO C t1) → Q .none ⟨h', g, d, t, os⟩) :
    wpAny (model prog w) A (call (.ref u) rest) Q E ⟨h, g, d, t, os⟩ := by
  refine wpAny_call (codeAny_of_tree ?_)
  show wpAny _ A.in1 (callAny (.ref u) ⟨rest, []⟩) _ _ _
  simp only [callAny]
  refine wpAny_bind (wpAny_load hu ?_)
  simp only [kxs_mw, show (Value.type "method-wrapper" == Value.type "method" || Value.type "method-wrapper" == Value.type "builtin_function_or_method" || Value.type "method-wrapper" == Value.type "method-wrapper") = true by decide, if_true]
  refine W.KFB.if_so (by decide) ?_
  refine wpAny_bind (ESX.check_bound F.excBase_ValueError hC he rfl ?_)
  refine wpAny_bind (wpAny_pure (wpAny_pure ?_))
  refine ⟨Code.quiet_builtin _ (by decide +kernel), codeAny_builtin F.excBase_ValueError.initEntry ?_⟩
  rw [Around.under_plainId F.excBase_ValueError.init.plain _]
  wp_walk
  refine hq _ h.objs.size (fun b o hb ho => ?_) ?_
  · rw [Heap.get?_update_other _ _ (Ne.symm hb)]
    exact Heap.get?_push_of_some _ ho
  · rw [Heap.get?_update_self _ (Heap.get?_push_of_some _ he) rfl]
    rfl
end

/-- the tree of super().m(e, ..) -/
theorem sup_tree {p0 p1 apos pos : Pos} {m : Str} {args : List Expr} {env : Env} (hform : methodCallForm (args.length + 0) (backTo pos (starEach args env)) [] = true) (hline : (apos.endLine == pos.line) = true) :
    eval (.Call (.Attribute (.Call (.Name "super" p0) [] [] p1) m apos) args [] pos) env = (do
      let ov ← attributeBase (.Call (.Name "super" p0) [] [] p1) m env (eval (.Call (.Name "super" p0) [] [] p1) env)
      standAt apos.atName
      let (f, first) ← holding [ov] (getMethod ov m (do return (← importBound (.Call (.Name "super" p0) [] [] p1) env).getD true))
      callWith pos f first (backTo pos (starEach args env)) []) := by
  rw [arm_eval_Call]
  have e : ∀ ov, methodCall (.Call (.Name "super" p0) [] [] p1) m apos pos env ov (args.length + 0) (backTo pos (starEach args env)) [] = (do
      let (f, first) ← holding [ov] (getMethod ov m (do return (← importBound (.Call (.Name "super" p0) [] [] p1) env).getD true))
      callWith pos f first (backTo pos (starEach args env)) []) := fun ov => by
    unfold methodCall
    rw [hform]
    have e1 : methodCallPos true (.Call (.Name "super" p0) [] [] p1) env apos pos = pure pos := by
      unfold methodCallPos
      rw [if_pos (by rw [hline]; rfl)]
    rw [e1]
    simp only [calleeOf, if_true]
    rfl
  have e2 : backToKw pos (keywordEach [] env) = [] := rfl
  simp only [e2, List.length_nil, e]
/-- super().__init__(f1, f2); self.f1 = f1; self.f2 = f2 -/
def supBody (f1 f2 : Str) (p : Nat → Pos) : List Stmt := [
  .Expr (.Call (.Attribute (.Call (.Name "super" (p 0)) [] [] (p 1)) "__init__" (p 2)) [.Name f1 (p 3), .Name f2 (p 4)] [] (p 5)) (p 6),
  .Assign [.Attribute (.Name "self" (p 7)) f1 (p 8)] (.Name f1 (p 9)) (p 10),
  .Assign [.Attribute (.Name "self" (p 11)) f2 (p 12)] (.Name f2 (p 13)) (p 14)]
def supNames (f1 f2 : Str) : List (Str × NameKind) := [("super", .globalImplicit), (f1, .local), (f2, .local), ("self", .local), ("__class__", .free)]
/-- what the written part says of the class at C and of its __init__ -/
structure SupC (prog : Program) (K : Frag) (C fI : Addr) (f1 f2 : Str) : Prop where
  ex : ∃ (oc : Value) (od : Option Addr) (osl : Array (Option Value)) (qual : Str) (params : Arguments) (scope : Scope) (dV kV doc pm : Value) (an : Option Addr) (cda : Addr) (ct : Value) (cc : Addr) (p : Nat → Pos),
    ((p 2).endLine == (p 5).line) = true ∧ K.lookup fI = some ⟨oc, od, .func (ksFn "__init__" qual params (supBody f1 f2 p) scope dV kV doc pm an (.ref cda) ct cc), osl⟩ ∧ codeIn K (.ref cda) qual = true ∧
    (∃ ccl cdd vs ccs file tf, K.lookup cda = some ⟨ccl, cdd, .fields vs, ccs⟩ ∧ vs[2]? = some (.str file tf) ∧ ((prog.main.file : Str) == file) = true) ∧
    (∃ cl cld csl, K.lookup cc = some ⟨cl, cld, .cell (some (.ref C)), csl⟩) ∧
    (∃ ar, (params.posonlyargs ++ params.args).head? = some ar ∧ ar.arg = "self") ∧
    (∀ s : Shared, ∀ a u1 u2 : Value, K.In s.heap → BindsTo s (ksFn "__init__" qual params (supBody f1 f2 p) scope dV kV doc pm an (.ref cda) ct cc) ⟨[a, u1, u2], []⟩ [("self", a), (f1, u1), (f2, u2)]) ∧
    scope.kind = .function ∧ scope.isCoroutine = false ∧ scope.isGenerator = false ∧ (∀ x ∈ scope.names, x.2 ≠ .cell) ∧
    scope.names.lookup ("super" : Str) = some .globalImplicit ∧ scope.names.lookup ("__class__" : Str) = some .free ∧ scope.names.lookup ("self" : Str) = some .local ∧ scope.names.lookup f1 = some .local ∧ scope.names.lookup f2 = some .local
  cls : ∃ nm q N bs bm sn sub ab col dd k0 k1 k2 k3 k5, K.lookup C = some (excClassObj nm q C N bs bm true sn sub ab col dd k0 k1 k2 k3 k5 "ValueError.__new__") ∧ refsVE bm = true ∧ alongIn K "__init__" bm = some (some (.builtin "ValueError.__init__"))
  mroC : mroIn K C (.ref C) = some true
  subV : subIn K (.ref C) (.type "ValueError") = some true
  opq : nsIn K cStatics "thirdparty.any" = some none
  sa : findIn K (.ref C) "__setattr__" = some (some (.builtin "object.__setattr__"))
  no1 : findIn K (.ref C) f1 = some none
  no2 : findIn K (.ref C) f2 = some none
  ne : f1 ≠ f2 ∧ f1 ≠ "self" ∧ f2 ≠ "self" ∧ f1 ≠ "__debug__" ∧ f2 ≠ "__debug__"
  top : (prog.main.scope.names.lookup ("super" : Str)).isSome = false
section
variable {prog : Program} {w : World} {A : Around} {R : Result → Shared → Prop} {K : Frag} {mg mb : Str → Option Value} {fI C a t0 : Addr} {u1 u2 : Value} {f1 f2 : Str} {s : Shared}
theorem ne_dbg {f : Str} (h : f ≠ "__debug__") : (f == ("__debug__" : Str)) = false := by simpa using h
theorem init2 (T : SupC prog K C fI f1 f2) (X : K.In s.heap) (G : s.heap.Ns mainGlobals mg) (B : s.heap.Ns builtinsNs mb) (hB : ∀ x : Str, x ≠ "__name__" → mb x = bootBuiltins x) (lim : s.heap.NoLimit) (hsup : mg "super" = none)
    (hroom : A.depth < recursionLimit) (hKa : K.lookup a = none) (he : s.heap.get? a = some (excO C t0))
    (hq : ∀ h' tk' dx t1, (∀ b o, b ≠ a → s.heap.get? b = some o → h'.get? b = some o) → s.heap.objs.size ≤ dx → h'.get? a = some { cls := .ref C, dict := some dx, data := .fields #[.ref t1, .none, .none, .none, .bool false, .none] } →
      h'.Ns1 dx (fun y => if y = f2 then some u2 else if y = f1 then some u1 else none) → R (.ok (.ret .none)) { s with heap := h', toks := tk' }) :
    codeAny (model prog w) A (.call (.ref fI) ⟨[.ref a, u1, u2], []⟩) R s := by
  obtain ⟨oc, od, osl, qual, params, scope, dV, kV, doc, pm, an, cda, ct, cc, p, hline, lk, hcd, ⟨ccl, cdd, vs, ccs, file, tf, hcode, hvs, hfile⟩, ⟨cl, cld, csl, hcell⟩, ⟨ar, hp, har⟩, hb, hkind, hco, hgen, hnc, hks, hkc, hself, hk1, hk2⟩ := T.ex
  obtain ⟨nm, q, N, bs, bm, sn, sub, ab, col, dd, k0, k1, k2, k3, k5, hC, hbm, hal⟩ := T.cls
  obtain ⟨n12, n1s, n2s, d1, d2⟩ := T.ne
  have hcl : clsIn K C = some { name := nm, bases := bs, mro := .ref C :: bm, ns := N, qualname := q, hasDict := true, slotNames := sn, subclasses := sub, abstract := ab, collection := col, hasDel := false } := by unfold clsIn; rw [hC] <;> rfl
  refine ks_codeAny_call_defAt (fd := ksFn "__init__" qual params (supBody f1 f2 p) scope dV kV doc pm an (.ref cda) ct cc) (body := supBody f1 f2 p) (binds := [("self", .ref a), (f1, u1), (f2, u2)]) hroom (X _ _ lk) rfl lim (codeRec_of X hcd) rfl
    (hb s _ _ _ X) hnc (fun x hx => ?_) (fun h₁ hns k => ?_) hco hgen hkind
  · rcases List.mem_cons.mp hx with rfl | hx
    · exact hself
    · rcases List.mem_cons.mp hx with rfl | hx
      · exact hk1
      · rcases List.mem_cons.mp hx with rfl | hx
        · exact hk2
        · cases hx
  -- the frame's names
  obtain ⟨hp0, g, d, t, os⟩ := s
  have m0 : ∀ y, ([("self", Value.ref a), (f1, u1), (f2, u2)] : List (Str × Value)).reverse.lookup y = if y = f2 then some u2 else if y = f1 then some u1 else if y = "self" then some (.ref a) else none := by
    intro y
    simp only [List.reverse_cons, List.reverse_nil, List.nil_append, List.cons_append, List.lookup]
    by_cases e2 : y = f2
    · subst e2; simp
    · have b2 : (y == f2) = false := by simpa using e2
      rw [b2, if_neg e2]
      by_cases e1 : y = f1
      · subst e1; simp
      · have b1 : (y == f1) = false := by simpa using e1
        rw [b1, if_neg e1]
        by_cases e0 : y = "self"
        · subst e0; simp
        · have b0 : (y == ("self" : Str)) = false := by simpa using e0
          rw [b0, if_neg e0]
  have hns : h₁.Ns hp0.objs.size fun y => if y = f2 then some u2 else if y = f1 then some u1 else if y = "self" then some (.ref a) else none := by
    have e : (fun x => ([("self", Value.ref a), (f1, u1), (f2, u2)] : List (Str × Value)).reverse.lookup x) = fun y => if y = f2 then some u2 else if y = f1 then some u1 else if y = "self" then some (.ref a) else none := funext m0
    rw [← e]
    exact hns
  have vSelf : (fun y : Str => if y = f2 then some u2 else if y = f1 then some u1 else if y = "self" then some (.ref a) else none) "self" = some (.ref a) := by
    show (if ("self" : Str) = f2 then some u2 else if ("self" : Str) = f1 then some u1 else if ("self" : Str) = "self" then some (Value.ref a) else none) = _
    rw [if_neg (Ne.symm n2s), if_neg (Ne.symm n1s), if_pos rfl]
  have v1 : (fun y : Str => if y = f2 then some u2 else if y = f1 then some u1 else if y = "self" then some (.ref a) else none) f1 = some u1 := by
    show (if f1 = f2 then some u2 else if f1 = f1 then some u1 else _) = _
    rw [if_neg n12, if_pos rfl]
  have v2 : (fun y : Str => if y = f2 then some u2 else if y = f1 then some u1 else if y = "self" then some (.ref a) else none) f2 = some u2 := by
    show (if f2 = f2 then some u2 else _) = _
    rw [if_pos rfl]
  have X1 : K.In h₁ := X.keeps k
  have he1 := k _ _ he
  have lt0 : ∀ {b o}, hp0.get? b = some o → b ≠ hp0.objs.size := fun {b o} e => Nat.ne_of_lt (Heap.lt_size e)
  have hCh1 := X1 _ _ hC
  have hsub1 := looks_mroIn (M := model prog w) X1 T.mroC
  have hvsC : ∃ oD, h₁.get? C = some oD ∧ oD.data = .cls { name := nm, bases := bs, mro := .ref C :: bm, ns := N, qualname := q, hasDict := true, slotNames := sn, subclasses := sub, abstract := ab, collection := col, hasDel := false } := ⟨_, hCh1, rfl⟩
  obtain ⟨oD, hD1, hD2⟩ := hvsC
  have Lk : ∀ {h : Heap}, (∀ b o, h₁.get? b = some o → h.get? b = some o) → h.Ns hp0.objs.size fun y => if y = f2 then some u2 else if y = f1 then some u1 else if y = "self" then some (.ref a) else none := fun {h} kk => hns.keeps kk
  have hint : interactive (ksEnv qual scope hp0.objs.size fI (.ref cda) cc) = false := by unfold interactive; rw [show (ksEnv qual scope hp0.objs.size fI (.ref cda) cc).scope.kind = .function from hkind] <;> rfl
  refine ks_wpAt_execs_cons (ks_wpAt_Expr_any (ks_wpAt_MethodCall (ks_wpAt_super_base (env := ksEnv qual scope hp0.objs.size fI (.ref cda) cc) hks hkc (by decide) rfl (X1 _ _ lk) rfl hp rfl (X1 _ _ hcode) rfl hvs hfile T.top ?_) (sup_tree rfl hline)) hint)
  refine ks_loadName_global hkind hks (loadGlobal_builtin (env := ksEnv qual scope hp0.objs.size fI (.ref cda) cc) (G.keeps k) hsup (B.keeps k) ((hB _ (by decide +kernel)).trans (by rfl)) ⟨rfl, ?_⟩)
  refine wpAny_loadName_free hkind hkc rfl ⟨_, X1 _ _ hcell, rfl⟩ ?_
  rw [har]
  refine wpAny_loadName_local hkind hself hns vSelf ?_
  refine ks_wpAny_isType_cls hD1 hD2 ⟨rfl, ?_⟩
  refine ks_wpAny_call_super hD1 hD2 he1 rfl (fun c z => by cases z) hsub1 (fun h2 e2 k2 => ?_)
  have X2 : K.In h2 := X1.keeps k2
  have I2 : InstAt h2 a (excO C t0) C none := ⟨k2 _ _ he1, rfl, rfl, trivial⟩
  refine kxs_getMethod kxs_ValueError e2 (looks_opaque X2 T.opq) (l₀ := .ref C :: bm) (l := bm) (fun A Q E s k q => wpAny_bind ((looks_clsIn X2 hcl) A _ E s k (wpAny_pure q))) (ESX.drop_own C bm) X2 hal (I2.type.andThen (looks_subIn X2 T.subV)) (ks_ne X2 I2 hcl) (by decide) ?_
  have k3 : ∀ b o, h2.get? b = some o → (h2.push (kxs_mw "ValueError.__init__" a)).get? b = some o := fun b o e => Heap.get?_push_of_some _ e
  have hu3 : (h2.push (kxs_mw "ValueError.__init__" a)).get? h2.objs.size = some (kxs_mw "ValueError.__init__" a) := Heap.get?_push_at rfl rfl
  have n3 := Lk (fun b o e => k3 b o (k2 b o e))
  show wpAny _ _ (callWith (p 5) (.ref h2.objs.size) [] (backTo (p 5) (starEach [.Name f1 (p 3), .Name f2 (p 4)] (ksEnv qual scope hp0.objs.size fI (.ref cda) cc))) []) _ _ _
  refine kxs_callWith (i := "ValueError.__init__") (x := a) rfl (evalArgs_plain ?_)
  refine Calls.spliced_cons (ESX.ldL (m := fun y => if y = f2 then some u2 else if y = f1 then some u1 else if y = "self" then some (.ref a) else none) n3 v1 ?_ hkind hk1 (ne_dbg d1))
  refine (show wpAny _ _ (spliced ((false, eval (.Name f2 (p 4)) (ksEnv qual scope hp0.objs.size fI (.ref cda) cc)) :: [])) _ _ _ from ?_)
  refine Calls.spliced_cons (ESX.ldL (m := fun y => if y = f2 then some u2 else if y = f1 then some u1 else if y = "self" then some (.ref a) else none) n3 v2 ?_ hkind hk2 (ne_dbg d2))
  refine Calls.spliced_nil ⟨hu3, ?_⟩
  refine (show wpAny _ _ (call (.ref h2.objs.size) [u1, u2]) _ _ _ from ?_)
  have kA : ∀ b o, hp0.get? b = some o → (h2.push (kxs_mw "ValueError.__init__" a)).get? b = some o := fun b o e => k3 b o (k2 b o (k b o e))
  have hC3 := kA _ _ (X _ _ hC)
  refine call_mw hbm hC3 (kA _ _ he) hu3 (by rw [sizeLine_eq]; show 2 ≤ _; omega) (fun h4 t1 k4 he4 => ?_)
  have laL : ∀ {o}, (h2.push (kxs_mw "ValueError.__init__" a)).get? hp0.objs.size = some o → hp0.objs.size ≠ a := fun {o} _ z => Nat.lt_irrefl _ (z ▸ Heap.lt_size he)
  have hLa : hp0.objs.size ≠ a := fun z => Nat.lt_irrefl _ (z ▸ Heap.lt_size he)
  have n4 : h4.Ns hp0.objs.size fun y => if y = f2 then some u2 else if y = f1 then some u1 else if y = "self" then some (.ref a) else none := by
    obtain ⟨o, es, ep, e1, r⟩ := n3
    exact ⟨o, es, ep, k4 _ _ hLa e1, r⟩
  have kB : ∀ b o, b ≠ a → hp0.get? b = some o → h4.get? b = some o := fun b o hb e => k4 b o hb (kA b o e)
  have notK : ∀ b o, K.lookup b = some o → b ≠ a := fun b o e z => by
    rw [z, hKa] at e
    cases e
  have X4 : K.In h4 := fun b o e => kB b o (notK b o e) (X b o e)
  have lenf : ∀ (env : Env) (f f' : Str) (p1 p2 p3 p4 : Pos), swapsWith (.Name f p1) (some (.Attribute (.Name "self" p2) f' p3)) p4.line env = pure false := fun _ _ _ _ _ _ _ => rfl
  refine ks_wpAt_execs_cons (ks_wpAt_Assign_Attr (wpAt_of_wpAny (ESX.ldL (m := fun y => if y = f2 then some u2 else if y = f1 then some u1 else if y = "self" then some (.ref a) else none) n4 v1 ?_ hkind hk1 (ne_dbg d1))) (lenf _ _ _ _ _ _ _))
  refine ESX.ldL (m := fun y => if y = f2 then some u2 else if y = f1 then some u1 else if y = "self" then some (.ref a) else none) n4 vSelf ?_ hkind hself (by decide)
  refine set_plain X4 (ox := { cls := .ref C, dict := none, data := .fields #[.ref t1, .none, .none, .none, .bool false, .none] }) (od := none) ⟨he4, rfl, rfl, trivial⟩ T.sa ?_
  refine exc_osa X4 he4 hcl (show refsVE (.ref C :: bm) = true from hbm) rfl T.no1 (fun h5 tk5 dx k5 dn dne hx5 hn5 => ?_)
  have n5 : h5.Ns hp0.objs.size fun y => if y = f2 then some u2 else if y = f1 then some u1 else if y = "self" then some (.ref a) else none := by
    obtain ⟨o, es, ep, e1, r⟩ := n4
    exact ⟨o, es, ep, k5 _ _ hLa e1, r⟩
  have kC : ∀ b o, b ≠ a → hp0.get? b = some o → h5.get? b = some o := fun b o hb e => k5 b o hb (kB b o hb e)
  have X5 : K.In h5 := fun b o e => kC b o (notK b o e) (X b o e)
  refine ks_wpAt_execs_cons (ks_wpAt_Assign_Attr (wpAt_of_wpAny (ESX.ldL (m := fun y => if y = f2 then some u2 else if y = f1 then some u1 else if y = "self" then some (.ref a) else none) n5 v2 ?_ hkind hk2 (ne_dbg d2))) (lenf _ _ _ _ _ _ _))
  refine ESX.ldL (m := fun y => if y = f2 then some u2 else if y = f1 then some u1 else if y = "self" then some (.ref a) else none) n5 vSelf ?_ hkind hself (by decide)
  have hw5 : Within (fun y : Str => if y = f1 then some u1 else none) [f1] := Within.cons f1 u1 Within.nil
  obtain ⟨oD5, _, _, hoD5, _, _⟩ := hn5.count hw5
  refine set_plain X5 (ox := { cls := .ref C, dict := some dx, data := .fields #[.ref t1, .none, .none, .none, .bool false, .none] }) (od := some oD5) ⟨hx5, rfl, rfl, hoD5⟩ T.sa ?_
  refine OEX.osa_old X5 hx5 hn5 hw5 (by simp) hcl (show refsVE (.ref C :: bm) = true from hbm) rfl T.no2 (fun h6 tk6 k6 hn6 => ?_)
  have hLd : hp0.objs.size < dx := by
    obtain ⟨o, es, ep, e1, r⟩ := n4
    exact Nat.lt_of_lt_of_le (Heap.lt_size e1) dn
  refine wpAt_of_wpAny (wpAny_execs_nil ?_)
  exact hq h6 tk6 dx t1 (fun b o hb e => k6 b o (Nat.ne_of_lt (Nat.lt_trans (Heap.lt_size e) hLd)) (kC b o hb e)) (Nat.le_of_lt hLd) (k6 _ _ (Ne.symm dne) hx5) hn6
end
end EvX
end PySem

namespace Ev
open PySem PySem.Spec PyProof.Rows L2

/-! ### C(e1, e2), C an own exception that stores both -/
/-- what the written part says of such a class -/
structure RaiC (prog : Program) (K : PySem.W.Frag) (C fI : Addr) (f1 f2 : Str) : Prop where
  sup : EvX.SupC prog K C fI f1 f2
  oex : OexC K C
  iC : PySem.W.findIn K (.ref C) "__init__" = some (some (.ref fI))
  tI : PySem.W.typeIn K (.ref fI) = some (.type "function")
/-- its reading -/
def tMkS (C : Addr) (f1 f2 : Str) (ta : TA) : L2.St → Hp → XK → Prop := fun σ H Q => ta σ H fun vs H1 => ∃ v1 v2, vs = [v1, v2] ∧ ∀ d, H1 d = none → Q (.ref C) (some d) (upd H1 d (.xd [(f2, v2), (f1, v1)]))
section
variable {X : Cx} {e : Expr} {es : List Expr} {ta : TA} {p pos : Pos}
theorem pmk_sup {x f1 f2 : Str} {C fI : Addr} (T : RaiC X.prog X.K C fI f1 f2) (hr : Room 3 X.A) (hsup : X.mg "super" = none) (hg : Gl X x) (hm : X.mg x = some (.ref C)) (ha : PA X (e :: es) ta)
    (hdb : (x == ("__debug__" : Str)) = false) (he : starEach (e :: es) X.env = (false, eval e X.env) :: starEach es X.env) (hpl : (backTo pos (starEach es X.env)).any (·.1) = false) :
    PMk X (.Call (.Name x p) (e :: es) [] pos) (tMkS C f1 f2 ta) := by
  intro pins s σ H Q I h
  obtain ⟨nm, q, N, bs, bm, sn, sub, ab, col, dd, k0, k1, k2, k3, k5, hC, hbm⟩ := T.oex.cls
  refine wpAny_Call_Name_kw (ld_glob I hg hm ?_ hdb)
  refine PySem.W.callWith_K (h₀ := X.base) I.ok.mod.kin T.oex.kC (thn (ha.run pos pins s σ H _ I h) fun us s1 ⟨vs, H1, I1, r1, v1, v2, ev, q1⟩ => ⟨I1.kIn, ?_⟩) he hpl
  subst ev
  obtain ⟨u1, u2, rfl, ru1, ru2⟩ := vals2 r1
  show wpAny _ _ (call (.ref C) [u1, u2]) _ _ _
  obtain ⟨hp, g, dr, tk, os⟩ := s1
  have hsz : hp.objs.size ≤ hp.objs.size + 1 := Nat.le_succ _
  have hn : H1 (hp.objs.size + 1) = none := I1.hok.fresh hsz
  have kk : ∀ b o, hp.get? b = some o → ((hp.push (PySem.W.kdv_tup [u1, u2])).push (PySem.HandSPX.excO C hp.objs.size)).get? b = some o := fun b o e => Heap.get?_push_of_some _ (Heap.get?_push_of_some _ e)
  have hget : ((hp.push (PySem.W.kdv_tup [u1, u2])).push (PySem.HandSPX.excO C hp.objs.size)).get? (hp.objs.size + 1) = some (PySem.HandSPX.excO C hp.objs.size) := by heap_get
  have I2 : Inv X pins σ (upd H1 (hp.objs.size + 1) (exo (hp.objs.size + 1) C none)) ⟨(hp.push (PySem.W.kdv_tup [u1, u2])).push (PySem.HandSPX.excO C hp.objs.size), g, dr, tk, os⟩ :=
    I1.laid (t' := tk) (a := hp.objs.size + 1) (o := exo (hp.objs.size + 1) C none) (h' := (hp.push (PySem.W.kdv_tup [u1, u2])).push (PySem.HandSPX.excO C hp.objs.size)) kk hsz (exo_ok hget)
  have hKa : X.K.lookup (hp.objs.size + 1) = none := by
    cases z : X.K.lookup (hp.objs.size + 1) with
    | none => rfl
    | some o =>
      have e1 := I1.kIn _ _ z
      exact absurd (Heap.lt_size e1) (by show ¬ (hp.objs.size + 1 < hp.objs.size); omega)
  obtain ⟨mb, hB1, hB2⟩ := I2.ok.mod.blt
  have hus : [u1, u2].length ≤ sizeLine := by rw [sizeLine_eq]; show 2 ≤ _; omega
  refine wpAny_call (PySem.HandSPX.call_own F.excBase_ValueError (fun Y => PySem.HandSPX.refsVE_contains Y bm hbm) (I1.kIn _ _ hC) (PySem.W.looks_findIn I1.kIn T.iC) (fun self => PySem.W.bind_fn I1.kIn self T.tI) hus
    (EvX.init2 (R := PySem.W.InitBack (hp.objs.size + 1) _) T.sup I2.kIn (I2.ok.mod.glob.keeps I2.bk) (hB1.keeps I2.bk) hB2 (I2.nolimit) hsup (hr.make C [u1, u2] []).depth hKa hget fun h' tk' dx t1 k dn hx hns => ?_))
  have hnd : H1 dx = none := I1.hok.fresh (Nat.le_trans (show hp.objs.size ≤ ((hp.push (PySem.W.kdv_tup [u1, u2])).push (PySem.HandSPX.excO C hp.objs.size)).objs.size by rw [Heap.size_push, Heap.size_push]; omega) dn)
  have hda : dx ≠ hp.objs.size + 1 := fun z => by
    obtain ⟨o, es, ep, e1, e2, _⟩ := hns
    rw [z, hx] at e1
    have z2 := Option.some.inj e1
    subst z2
    cases e2
  have hnd2 : upd H1 (hp.objs.size + 1) (exo (hp.objs.size + 1) C none) dx = none := by rw [upd_ne hda]; exact hnd
  have ea0 : upd H1 (hp.objs.size + 1) (exo (hp.objs.size + 1) C none) (hp.objs.size + 1) = some (exo (hp.objs.size + 1) C none) := upd_same
  have nd : ∀ {b : Addr} {o : Obj}, ((hp.push (PySem.W.kdv_tup [u1, u2])).push (PySem.HandSPX.excO C hp.objs.size)).get? b = some o → b ≠ dx := fun {b o} q => Nat.ne_of_lt (Nat.lt_of_lt_of_le (Heap.lt_size q) dn)
  have na : ∀ {b : Addr}, upd H1 (hp.objs.size + 1) (exo (hp.objs.size + 1) C none) b = none → b ≠ hp.objs.size + 1 := fun {b} n z => by
    rw [z, ea0] at n
    cases n
  have U : Un (frs X.stack) [] (upd H1 (hp.objs.size + 1) (exo (hp.objs.size + 1) C none)) (upd (upd (upd H1 (hp.objs.size + 1) (exo (hp.objs.size + 1) C none)) dx (exd dx [(f2, v2), (f1, v1)])) (hp.objs.size + 1) (exo (hp.objs.size + 1) C (some dx))) ((hp.push (PySem.W.kdv_tup [u1, u2])).push (PySem.HandSPX.excO C hp.objs.size)) h' := {
    keep := fun b o q n _ _ => k b o (na n) q
    slot := fun b o q n _ _ => ⟨o.slots, k b o (na n) q⟩
    free := fun b o q n _ => by rw [upd_ne (na n), upd_ne (nd q)]; exact n
    there := fun b o q _ => by
      by_cases hb : b = hp.objs.size + 1
      · exact ⟨_, by rw [hb]; exact hx⟩
      · exact ⟨o, k b o hb q⟩
    tups := fun b xs q => by rw [upd_ne (at_ne ea0 q exo_tup), upd_ne (ne_of_none q hnd2)]; exact q
    frzs := fun b o v q => by rw [upd_ne (at_ne ea0 q exo_frz), upd_ne (ne_of_none q hnd2)]; exact q
    tbls := fun b ps q => ⟨#[], by rw [upd_ne (at_ne ea0 q exo_tbl), upd_ne (ne_of_none q hnd2), q]; simp⟩ }
  have rel : ∀ f, RelO (([(f2, v2), (f1, v1)] : List (Str × V)).lookup f) (if f = f2 then some u2 else if f = f1 then some u1 else none) := by
    intro f
    exact relO_put (fs := [(f1, v1)]) ru2 (fun g => relO_put (fs := []) (mA := fun _ => none) ru1 (fun _ => True.intro) g) f
  have hok : HOk X.prog X.w (upd (upd (upd H1 (hp.objs.size + 1) (exo (hp.objs.size + 1) C none)) dx (exd dx [(f2, v2), (f1, v1)])) (hp.objs.size + 1) (exo (hp.objs.size + 1) C (some dx))) h' := fun b o q => by
    by_cases hb : b = hp.objs.size + 1
    · subst hb
      rw [upd_same] at q
      cases q
      exact exo_ok hx
    · rw [upd_ne hb] at q
      by_cases hd : b = dx
      · subst hd
        rw [upd_same] at q
        cases q
        exact exd_ok hns rel
      · rw [upd_ne hd] at q
        exact (I2.hok b o q).stay (fun c v hc z => k c v (by
            rcases hc with hc | hc
            · rw [hc]
              exact hb
            · exact at_ne ea0 hc exo_own) z)
          (fun c hc => by rw [upd_ne (at_ne ea0 hc exo_own), upd_ne (ne_of_none hc hnd2)]; exact hc) (fun c xs hc => by rw [upd_ne (at_ne ea0 hc exo_tup), upd_ne (ne_of_none hc hnd2)]; exact hc)
  have eqH : upd (del (upd (upd (upd H1 (hp.objs.size + 1) (exo (hp.objs.size + 1) C none)) dx (exd dx [(f2, v2), (f1, v1)])) (hp.objs.size + 1) (exo (hp.objs.size + 1) C (some dx))) (hp.objs.size + 1)) dx (.xd [(f2, v2), (f1, v1)]) = upd H1 dx (.xd [(f2, v2), (f1, v1)]) := by
    funext b
    by_cases hd : b = dx
    · rw [hd, upd_same, upd_same]
    · rw [upd_ne hd, upd_ne hd]
      by_cases hb : b = hp.objs.size + 1
      · rw [hb, del_same, hn]
      · rw [del_ne hb, upd_ne hb, upd_ne hd, upd_ne hb]
  have fin := mk_end (Q := Q) (d2 := dr) (t2 := tk') (raises_own T.oex.exC T.oex.tyC) I1 hsz kk U hok rfl I1.bare upd_same (by rw [upd_ne hda]; exact upd_same) hnd (by rw [eqH]; exact q1 dx hnd)
  exact ⟨rfl, fin⟩
end
end Ev

namespace Ev
open PySem PySem.Spec PyProof.Rows L2

/-! ### an exception in hand: isinstance, its fields -/
/-- the classes of exceptions: what is asked of the class at D for its instances to be asked and read -/
structure ExcK (K : PySem.W.Frag) (D : Addr) : Prop where
  is : ExcC K D
  cl : (PySem.W.clsIn K D).isSome = true
  xf : XfC K D
section
variable {X : Cx} {W0 : WX} {a d D : Addr} {oe : Obj} {pn : List (Addr × Obj)} {pos pf : Pos}
/-- isinstance(e, c), isinstance(e, (c, ..)) -/
def rIsX (K : PySem.W.Frag) (a d D : Addr) : List V → Hp → VK → Prop := fun xs H Q => (∃ vs, H d = some (.xd vs)) ∧ ((∃ (c : V) (u : Value) (b : Bool), xs = [.ref a, c] ∧ ClsV c u ∧ PySem.W.kitOne K (.ref D) u = some b ∧ Q (.bl b) H) ∨
  ∃ (tp : Addr) (cs : List V) (us : List Value) (b : Bool), xs = [.ref a, .ref tp] ∧ H tp = some (.tup cs) ∧ Paired ClsV cs us ∧ PySem.W.kitAny K (.ref D) us = some b ∧ Q (.bl b) H)
theorem call_isX (C : ExcK X.K D) (hz : Zc (.ref D) (some d) oe) (hf : ∃ vs, oe.data = .fields vs) : CallR (X.suite a ((a, oe) :: pn)) (.builtin "isinstance") (rIsX X.K a d D) := by
  intro pins s σ H xs us Q I r h
  obtain ⟨⟨fs, hd⟩, h⟩ := h
  obtain ⟨hget, _⟩ := I.pin (a, oe) (List.mem_append.mpr (.inl List.mem_cons_self))
  obtain ⟨vs, hv⟩ := hf
  have hx : ObjOk X.prog X.w H s.heap d (.xd fs) := I.hok d _ hd
  obtain ⟨mA, ⟨od, es, ep, ho, hrest⟩, _⟩ := hx
  have J : PySem.W.InstAt s.heap a oe D (some od) := ⟨hget, hz.1, by unfold PySem.W.notCls; rw [hv] <;> rfl, by rw [hz.2]; exact ho⟩
  have Z := PySem.W.kitx_exc (x := a) (ox := oe) (od := some od) C.cl C.is.hg C.is.hk C.is.hs C.is.ha C.is.hn C.is.ht C.is.hm
  rcases h with ⟨c, u, b, rfl, hc, e, q⟩ | ⟨tp, cs, ws, b, rfl, hT, k, e, q⟩
  · obtain ⟨u1, u2, rfl, r1, r2⟩ := vals2 r
    have e2 := hc.eq r2
    subst e2
    cases (show u1 = Value.ref a from r1)
    exact PySem.W.kia_one Z I.kIn J e (fun z => nomatch z) fun tk => ⟨.bl b, H, I.tok tk, rfl, q⟩
  · obtain ⟨u1, u2, rfl, r1, r2⟩ := vals2 r
    cases (show u1 = Value.ref a from r1)
    cases (show u2 = Value.ref tp from r2)
    obtain ⟨_, its, rv, o, h1, h2, n, h3⟩ := (show ObjOk X.prog X.w H s.heap tp (.tup cs) from I.hok tp _ hT)
    have e3 := ClsV.all k rv
    subst e3
    obtain ⟨oc, od2, dt, sl⟩ := o
    simp only at h2 h3
    subst h2 h3
    exact PySem.W.kia_tup Z I.kIn J h1 e (fun z => nomatch z) fun tk => ⟨.bl b, H, I.tok tk, rfl, q⟩
/-- the exception's dict -/
def XdP (K : PySem.W.Frag) (d : Addr) (fs : List (Str × PyData)) : Wd → Prop := fun W => ∃ vs, W.Z d = some (.xd vs) ∧ Paired (fun (p : Str × V) (q : Str × PyData) => p.1 = q.1 ∧ Dq K W.Z p.2 q.2) vs fs
open Classical in
/-- the exception's name, read -/
noncomputable def gExn (K : PySem.W.Frag) (i : Nat) (a d : Addr) (fs : List (Str × PyData)) (v : Option PyData) : Ev0 Vl := fun ρ M => if ρ[i]? = some (some (.adr a (XdP K d fs))) then (match v with
  | some x => .ok (.d x) M
  | none => .bad) else .bad
theorem gExn_post {K : PySem.W.Frag} {W : Wd} {σ : L2.St} {i : Nat} {fs : List (Str × PyData)} {v : Option PyData} {ρ : Rho} {M : Sto} {Q : VK} (P : Post (VlR K) K W0 W σ (gExn K i a d fs v ρ M) Q) :
    ∃ x, v = some x ∧ ρ[i]? = some (some (.adr a (XdP K d fs))) ∧ Post (VlR K) K W0 W σ (.ok (.d x) M) Q := by
  unfold gExn at P
  by_cases h : ρ[i]? = some (some (.adr a (XdP K d fs)))
  · rw [if_pos h] at P
    cases v with
    | none => exact P.elim
    | some x => exact ⟨x, rfl, h, P⟩
  · rw [if_neg h] at P
    exact P.elim
theorem se_isX {i : Nat} {n cn : Str} {pe pc : Pos} {fs : List (Str × PyData)} {c : V} {u : Value} {b : Bool} (C : ExcK X.K D) (hz : Zc (.ref D) (some d) oe) (hf : ∃ vs, oe.data = .fields vs) (hi : X.N[i]? = some n) (hv : Vis X.env.scope n) (hd1 : (n == ("__debug__" : Str)) = false) (hd2 : (n == ("__classdict__" : Str)) = false)
    (hg : Gl X "isinstance") (hm : X.mg "isinstance" = none) (hT : PE (X.suite a ((a, oe) :: pn)) (.Name cn pc) (tC c)) (hc : ClsV c u) (e : PySem.W.kitOne X.K (.ref D) u = some b) :
    SE (X.suite a ((a, oe) :: pn)) W0 (.Call (.Name "isinstance" pf) [.Name n pe, .Name cn pc] [] pos) (gExn X.K i a d fs (some (.bool b))) := by
  refine PE.mono (pe_callB (call_isX C hz hf) hg hm (by decide +kernel) (pa_cons (pe_var (i := i) hi hv hd1 hd2) (pa_cons hT pa_nil (by rfl)) (by rfl)) (by decide) (by decide) (by rfl) (by rfl)) fun σ H Q h => ?_
  obtain ⟨ρ, M, W, R, S, P⟩ := h
  obtain ⟨x, ex, hr, P⟩ := gExn_post P
  cases ex
  obtain ⟨v, hs, rv, W1, l1, vs, hZ, _⟩ := S.2 i _ hr
  subst rv
  exact ⟨.ref a, hs, ⟨vs, R.sub _ _ (l1.1 _ _ hZ)⟩, .inl ⟨c, u, b, rfl, hc, e, P _ H W (Wd.le.refl W) R (.bl b)⟩⟩
theorem lookup_pair {K : PySem.W.Frag} {Z : Hp} {f : Str} {x : PyData} : ∀ {vs : List (Str × V)} {fs : List (Str × PyData)}, Paired (fun (p : Str × V) (q : Str × PyData) => p.1 = q.1 ∧ Dq K Z p.2 q.2) vs fs → fs.lookup f = some x → ∃ v, vs.lookup f = some v ∧ Dq K Z v x
  | _, _, .nil, h => by cases h
  | (g, v) :: vs, (g', y) :: fs, .cons ⟨h1, h2⟩ t, h => by
    have h1 : g = g' := h1
    subst h1
    rw [List.lookup_cons] at h ⊢
    cases e : f == g with
    | true =>
      rw [e] at h
      cases h
      exact ⟨v, rfl, h2⟩
    | false =>
      rw [e] at h
      exact lookup_pair t h
theorem se_xf {i : Nat} {n f : Str} {pe : Pos} {fs : List (Str × PyData)} (C : ExcK X.K D) (hno : PySem.W.findIn X.K (.ref D) f = some none) (hz : Zc (.ref D) (some d) oe) (hf : ∃ vs, oe.data = .fields vs) (hi : X.N[i]? = some n) (hv : Vis X.env.scope n) (hd1 : (n == ("__debug__" : Str)) = false) (hd2 : (n == ("__classdict__" : Str)) = false) :
    SE (X.suite a ((a, oe) :: pn)) W0 (.Attribute (.Name n pe) f pos) (gExn X.K i a d fs (fs.lookup f)) := by
  refine PE.mono (pe_xf C.xf hno hz hf (pe_var (X := X.suite a ((a, oe) :: pn)) (i := i) hi hv hd1 hd2) (by rfl)) fun σ H Q h => ?_
  obtain ⟨ρ, M, W, R, S, P⟩ := h
  obtain ⟨x, ex, hr, P⟩ := gExn_post P
  obtain ⟨v, hs, rv, W1, l1, vs, hZ, hp⟩ := S.2 i _ hr
  subst rv
  obtain ⟨w, hw, dw⟩ := lookup_pair hp ex
  exact ⟨.ref a, hs, rfl, rfl, d, vs, w, rfl, R.sub _ _ (l1.1 _ _ hZ), hw, P _ H W (Wd.le.refl W) R (Dq.mono l1.1 dw)⟩
end
end Ev

namespace Ev
open PySem PySem.Spec PyProof.Rows L2

/-! ### list.extend -/
theorem extendWL (l : Addr) (items : Array Value) (n : Nat) (b : Addr) (items2 : Array Value) (n2 : Nat) (dd : Option Addr) (sl : Array (Option Value)) (hc0 : ¬(!items.isEmpty && Builtin.List.listTooLong (items.size + items2.size)) = true) (hc1 : items.size ≤ sizeLine) (hs2 : items.size + items2.size ≤ sizeLine + 1) :
    Meets (Builtin.«list.extend» ⟨[.ref l, .ref b], []⟩) (fun _ R s => s.heap.get? l = some { cls := .type "list", dict := none, data := .seq items n, slots := #[] } ∧ s.heap.get? b = some { cls := .type "list", dict := dd, data := .seq items2 n2, slots := sl } ∧ R (.ok (.ret Value.none)) { s with heap := s.heap.update l (Obj.mapSeq fun x => x ++ items2), toks := s.toks }) :=
  .of_wp fun prog w A R s h => by
    obtain ⟨hp, g, d, tk, os⟩ := s
    obtain ⟨hl, hb, h⟩ := h
    have f1 := AutoSeq1.idx_int
    have f2 := AutoSeq1.sub_tuple_tuple
    have f3 := AutoSeq1.sub_list_list
    have f4 := AutoSeq1.sub_tuple_list
    have f5 := AutoSeq1.sub_list_tuple
    have hz' : (items ++ items2).size ≤ sizeLine + 1 := by rw [Array.size_append]; exact hs2
    wp_walk using (wpAny_updateSeq hl rfl (hz := hc1) (_hz' := hz')), wpAny_loadPart' hl, wpAny_loadPart' hb
    exact ⟨_, rfl, h⟩
theorem extendWT (l : Addr) (items : Array Value) (n : Nat) (b : Addr) (items2 : Array Value) (n2 : Nat) (dd : Option Addr) (sl : Array (Option Value)) (hc0 : ¬(!items.isEmpty && Builtin.List.listTooLong (items.size + items2.size)) = true) (hc1 : items.size ≤ sizeLine) (hs2 : items.size + items2.size ≤ sizeLine + 1) :
    Meets (Builtin.«list.extend» ⟨[.ref l, .ref b], []⟩) (fun _ R s => s.heap.get? l = some { cls := .type "list", dict := none, data := .seq items n, slots := #[] } ∧ s.heap.get? b = some { cls := .type "tuple", dict := dd, data := .seq items2 n2, slots := sl } ∧ R (.ok (.ret Value.none)) { s with heap := s.heap.update l (Obj.mapSeq fun x => x ++ items2), toks := s.toks }) :=
  .of_wp fun prog w A R s h => by
    obtain ⟨hp, g, d, tk, os⟩ := s
    obtain ⟨hl, hb, h⟩ := h
    have f1 := AutoSeq1.idx_int
    have f2 := AutoSeq1.sub_tuple_tuple
    have f3 := AutoSeq1.sub_list_list
    have f4 := AutoSeq1.sub_tuple_list
    have f5 := AutoSeq1.sub_list_tuple
    have hz' : (items ++ items2).size ≤ sizeLine + 1 := by rw [Array.size_append]; exact hs2
    wp_walk using (wpAny_updateSeq hl rfl (hz := hc1) (_hz' := hz')), wpAny_loadPart' hl, wpAny_loadPart' hb
    exact ⟨_, rfl, h⟩
def extendV : OpM := fun x vs M => match vs with
  | [v] => (match peek M v with
    | some d => (match itemsOf d with
      | some ds => (match lstAt M x with
        | some (n, xs) => if xs.length + ds.length ≤ sizeLine then .ok (.d .none) (M.set n (.lst (xs ++ ds))) else .bad
        | none => .bad)
      | none => .bad)
    | none => .bad)
  | _ => .bad
section
variable {X : Cx} {W0 : WX}
theorem mt_extendV : MtR X "list.extend" (aM X.K W0 extendV) := by
  intro pins s σ H x xs v us Q I rx rs h
  obtain ⟨W, M, σ', y, vs, R, r1, r2, P⟩ := h
  match vs, r2, P with
  | [], _, P1 => exact P1.elim
  | _ :: _ :: _, _, P1 => exact P1.elim
  | [w], r2, P1 =>
    obtain ⟨z, rfl, rz⟩ := vlsR_one r2
    obtain ⟨u, rfl, ru⟩ := rs.one
    simp only [extendV] at P1
    cases e : peek M w with
    | none => rw [e] at P1; exact P1.elim
    | some d =>
      rw [e] at P1
      dsimp only at P1
      have pk := peek_pk R rz e
      cases e1 : itemsOf d with
      | none => rw [e1] at P1; exact P1.elim
      | some ds =>
        rw [e1] at P1
        dsimp only at P1
        cases e2 : lstAt M y with
        | none => rw [e2] at P1; exact P1.elim
        | some q2 =>
          obtain ⟨n, ys⟩ := q2
          rw [e2] at P1
          obtain ⟨a, ws, ey, ex, hm, hz, hH, hd⟩ := lstAt_ok R r1 e2
          obtain ⟨hlt, P2⟩ := if_post P1
          subst ex
          cases rx
          obtain ⟨z1, its, n1, r, hl, e0⟩ := I.lstM hH
          cases d with
          | list zs =>
            cases e1
            obtain ⟨b, us2, rfl, hB, hd2⟩ := pk.list R
            cases ru
            obtain ⟨its2, rr2, hpl, z2⟩ := I.list hB
            obtain ⟨⟨cls, dd, data, sl⟩, n2, eo, hc, hd0, hdt⟩ := id hpl
            simp only at hc hdt
            subst hc hdt
            have hl2 := rr2.length
            have hsz : its.toArray.size + its2.toArray.size ≤ sizeLine := by rw [List.size_toArray, List.size_toArray, ← hl, ← hl2, hd.length, hd2.length]; exact hlt
            have hlong : ¬ (!its.toArray.isEmpty && Builtin.List.listTooLong (its.toArray.size + its2.toArray.size)) = true := by
              rw [notLongL hsz, Bool.and_false]
              exact Bool.false_ne_true
            refine call_meets F.slot_list_extend ⟨_, e0, rfl⟩ F.entry_list_extend (F.args_list_extend_2 _ _) (extendWL a its.toArray n1 b its2.toArray n2 dd sl hlong (by omega) (by omega)) ⟨e0, eo, ?_⟩
            exact ⟨.non, _, I.lset (its' := its ++ its2) hH e0 (by simp) (r.append rr2) (by rw [List.length_append, hd.length, hd2.length]; exact hlt), rfl, P2 _ _ W (Wd.le.refl _) (set_lst R hm hz (hd.append hd2)) .non⟩
          | tuple zs =>
            cases e1
            obtain ⟨b, us2, rfl, _, hB, hd2⟩ := pk.tuple R
            cases ru
            obtain ⟨its2, rr2, hpl, z2⟩ := I.tuple hB
            obtain ⟨⟨cls, dd, data, sl⟩, eo, hc, n2, hdt⟩ := id hpl
            simp only at hc hdt
            subst hc hdt
            have hl2 := rr2.length
            have hsz : its.toArray.size + its2.toArray.size ≤ sizeLine := by rw [List.size_toArray, List.size_toArray, ← hl, ← hl2, hd.length, hd2.length]; exact hlt
            have hlong : ¬ (!its.toArray.isEmpty && Builtin.List.listTooLong (its.toArray.size + its2.toArray.size)) = true := by
              rw [notLongL hsz, Bool.and_false]
              exact Bool.false_ne_true
            refine call_meets F.slot_list_extend ⟨_, e0, rfl⟩ F.entry_list_extend (F.args_list_extend_2 _ _) (extendWT a its.toArray n1 b its2.toArray n2 dd sl hlong (by omega) (by omega)) ⟨e0, eo, ?_⟩
            exact ⟨.non, _, I.lset (its' := its ++ its2) hH e0 (by simp) (r.append rr2) (by rw [List.length_append, hd.length, hd2.length]; exact hlt), rfl, P2 _ _ W (Wd.le.refl _) (set_lst R hm hz (hd.append hd2)) .non⟩
          | _ => cases e1
end
end Ev

namespace Ev
open PySem PySem.Spec PyProof.Rows L2

/-! ### promises of defs that are kept where no repr is under way -/
structure FnG (P : Program) (w : World) (K : PySem.W.Frag) (mg : Str → Option Value) (base : Heap)
    (CX : CXT) (k : Nat) (f : Addr) (fd : FuncData) (ps : List Str) (sp : Sp) : Prop where
  len : ∀ vs H Q E, sp vs H Q E → vs.length = ps.length
  run : ∀ (A : Around) (out : List Env) (s : Shared) (H : Hp) (as : Args) (us : List Value) (vs : List V) (Q : VK) (E : XK),
    Room k A → A.guards = some [] → Env0 P w K mg base A out s H → BindsTo s fd as (ps.zip us) → Vals vs us →
    sp vs H Q E → codeAny (model P w) A (.call (.ref f) as) (CR CX out P w H s Q E) s
section
variable {P : Program} {w : World} {K : PySem.W.Frag} {mg : Str → Option Value} {base : Heap} {CX : CXT} {k : Nat} {f : Addr} {fd : FuncData}
variable {N ps : List Str} {sp : Sp} {x qual : Str} {params : Arguments} {body : List Stmt} {scope : Scope} {dvs : List V} {kws : List (Str × V)}
theorem fnG_of (F : FunD K x qual params body scope dvs kws f fd) (S : FnScope N ps scope) (len : ∀ vs H Q E, sp vs H Q E → vs.length = ps.length)
    (hbody : ∀ (cdv : Value) (A : Around) (out : List Env) (s : Shared) (H : Hp) (vs : List V) (Q : VK) (E : XK), fd.code = cdv → Room k (A.deeper (envOfC qual scope s.heap.objs.size f cdv)) → A.guards = some [] → sp vs H Q E →
      ∃ t, PSs (cxOf CX P w K mg base N qual scope f cdv A out s H E) body t ∧ t { nx := fun _ H' => Q .non H', rt := Q } (L2.start N vs) H) : FnG P w K mg base CX (k + 1) f fd ps sp := by
  obtain ⟨oc, od, dV, kV, doc, pm, an, cdv, ct, osl, rfl, lk, hcd, _, _⟩ := F.ex
  refine ⟨len, fun A out s H as us vs Q E hr hg e0 hb r hsp => ?_⟩
  have keeps : ∀ b o, base.get? b = some o → s.heap.get? b = some o := fun b o e => (e0.bs b o e).1
  have KX : K.In s.heap := e0.mod.kin.keeps keeps
  have lim : s.heap.NoLimit := e0.mod.nolimit.keeps keeps
  refine codeAny_call_function hr.depth (KX _ _ lk) rfl S.co S.gen rfl (PySem.W.codeRec_of KX hcd) (hb _ _ _ _ ?_)
  refine wpAny_newFunctionEnv_cells S.kind (fun y hy => ?_) fun env he s1 nw => ?_
  · obtain ⟨y1, y2⟩ := y
    have hy1 := (List.of_mem_zip hy).1
    exact (S.par y1 hy1).elim .inl fun q => .inr ⟨q, PySem.W.cellsFrom_some _ _ _ (.inl q)⟩
  · subst he
    refine ⟨lim.keeps nw.toInCall.keep, codeAny_func ?_⟩
    obtain ⟨t, ht, hq⟩ := hbody cdv A out s H vs Q E rfl (hr.deeper _) hg hsp
    have I := inv_start (CX := CX) (E := E) S hr.hd e0 (len _ _ _ _ hsp) r nw
    refine wpAny_mono (ht.run [] s1 (L2.start N vs) H _ I hq) (fun fl s' hs => ?_) fun e s' hs => hs
    cases fl with
    | ret u =>
      obtain ⟨v, σ', H', J, rv, q⟩ := hs
      exact ⟨v, H', J.os, J.bare, J.base, J.hok, rv, q⟩
    | next =>
      obtain ⟨σ', H', J, q⟩ := hs
      exact ⟨V.non, H', J.os, J.bare, J.base, J.hok, rfl, q⟩
    | brk => obtain ⟨_, _, _, q⟩ := hs; exact q.elim
    | cont => obtain ⟨_, _, _, q⟩ := hs; exact q.elim
end
section
variable {X : Cx} {CX : CXT} {k : Nat} {f : Addr} {fd : FuncData} {ps : List Str} {sp : Sp} {E : L2.St → XK} {x : Str} {p pos : Pos} {e : Expr} {es : List Expr} {t : TA}
theorem run_G {pins : List (Addr × Obj)} {σ : L2.St} {H : Hp} {s : Shared} {Q : VK} {us : List Value} {vs : List V} (F : FnG X.prog X.w X.K X.mg X.base CX k f fd ps sp) (hr : Room k X.A) (hgd : X.A.guards = some []) (hb : Binds X.K fd ps []) (hx : PassesAt CX X σ (E σ))
    (I : Inv X pins σ H s) (r : Vals vs us) (h : sp vs H Q (E σ)) : wpAny (model X.prog X.w) X.A (call (.ref f) us) (EP X pins σ Q) X.xe s := by
  have hl : (us ++ []).length = ps.length := by rw [List.append_nil, ← r.length]; exact F.len _ _ _ _ h
  have hbt := hb s us I.kIn hl
  rw [List.append_nil] at hbt
  refine wpAny_call (codeAny_mono (F.run X.A X.stack s H ⟨us, []⟩ us vs Q (E σ) hr hgd I.env0 hbt r h) fun z s' hq => ?_)
  cases z with
  | error e => exact hx pins H s e s' I hq
  | ok fl => cases fl <;> first | exact I.after hq | exact hq.elim
/-- f(e, ..) -/
theorem pe_callG (F : FnG X.prog X.w X.K X.mg X.base CX k f fd ps sp) (hr : Room k X.A) (hgd : X.A.guards = some []) (hg : Gl X x) (hm : X.mg x = some (.ref f)) (hk : PySem.W.keepIn X.K (.ref f) = true) (hb : Binds X.K fd ps []) (hx : ∀ σ, PassesAt CX X σ (E σ))
    (ha : PA X (e :: es) t) (hdb : (x == ("__debug__" : Str)) = false) (he : starEach (e :: es) X.env = (false, eval e X.env) :: starEach es X.env) (hpl : (backTo pos (starEach es X.env)).any (·.1) = false) :
    PE X (.Call (.Name x p) (e :: es) [] pos) (fun σ H Q => t σ H fun vs H1 => sp vs H1 Q (E σ)) := by
  refine ⟨fun pins s σ H Q I h => wpAny_Call_Name_kw (ld_glob I hg hm ?_ hdb)⟩
  refine PySem.W.callWith_K (h₀ := X.base) I.ok.mod.kin hk (thn (ha.run pos pins s σ H _ I h) fun us s1 h1 => ?_) he hpl
  obtain ⟨vs, H1, I1, r, q⟩ := h1
  exact ⟨I1.kIn, run_G F hr hgd hb (hx σ) I1 r q⟩
/-- f() -/
theorem pe_callG0 (F : FnG X.prog X.w X.K X.mg X.base CX k f fd ps sp) (hr : Room k X.A) (hgd : X.A.guards = some []) (hg : Gl X x) (hm : X.mg x = some (.ref f)) (hk : PySem.W.keepIn X.K (.ref f) = true) (hb : Binds X.K fd ps []) (hx : ∀ σ, PassesAt CX X σ (E σ))
    (hdb : (x == ("__debug__" : Str)) = false) : PE X (.Call (.Name x p) [] [] pos) (fun σ H Q => sp [] H Q (E σ)) := by
  refine ⟨fun pins s σ H Q I h => wpAny_Call_Name_kw (ld_glob I hg hm ?_ hdb)⟩
  exact PySem.W.callWith_K0 I.kIn hk (run_G (us := []) F hr hgd hb (hx σ) I .nil h)
end
/-! #### keywords -/
/-- places picked out of a list -/
def pick {α : Type} : List Nat → List α → Option (List α)
  | [], _ => some []
  | i :: r, l => match l[i]?, pick r l with
    | some a, some as => some (a :: as)
    | _, _ => none
theorem pick_vals : ∀ (pm : List Nat) {vs as : List V} {us : List Value}, Vals vs us → pick pm vs = some as → ∃ bs, pick pm us = some bs ∧ Vals as bs
  | [], _, _, _, _, h => by cases h; exact ⟨[], rfl, .nil⟩
  | i :: pm, vs, as, us, r, h => by
    simp only [pick] at h ⊢
    cases e1 : vs[i]? with
    | none => rw [e1] at h; cases h
    | some v =>
      cases e2 : pick pm vs with
      | none => rw [e1, e2] at h; cases h
      | some l =>
        rw [e1, e2] at h
        cases h
        obtain ⟨u, hu, ru⟩ := r.get e1
        obtain ⟨bs, hb, rb⟩ := pick_vals pm r e2
        exact ⟨u :: bs, by rw [hu, hb], .cons ru rb⟩
/-- n values by position, the others by the names ks: they are the parameters', as pm says -/
def KwB (K : PySem.W.Frag) (fd : FuncData) (ps : List Str) (q : Nat × List Str × List Nat) : Prop :=
  ∀ (s : Shared) (us ws vals : List Value), K.In s.heap → us.length = q.1 → ws.length = q.2.1.length → pick q.2.2 (us ++ ws) = some vals → BindsTo s fd ⟨us, q.2.1.zip ws⟩ (ps.zip vals)
theorem kw_names (pos : Pos) (env : Env) : ∀ kws : List Keyword, (backToKw pos (keywordEach kws env)).map (·.1) = kws.map (·.arg)
  | [] => rfl
  | ⟨nm, e, kp⟩ :: kws => congrArg (nm :: ·) (kw_names pos env kws)
theorem all_some {α : Type} : ∀ (l : List (Option Str × α)) (ks : List Str), l.map (·.1) = ks.map some → l.all (·.1.isSome) = true ∧ l.any (·.1.isNone) = false ∧ l.filterMap (·.1) = ks
  | [], [], _ => ⟨rfl, rfl, rfl⟩
  | (o, t) :: l, k :: ks, h => by
    obtain ⟨h1, h2⟩ := List.cons.inj h
    obtain ⟨i1, i2, i3⟩ := all_some l ks h2
    have h1 : o = some k := h1
    subst h1
    exact ⟨by rw [List.all_cons, i1]; rfl, by rw [List.any_cons, i2]; rfl, by rw [List.filterMap_cons, i3]⟩
  | [], _ :: _, h => by cases h
  | _ :: _, [], h => by cases h
section
variable {X : Cx} {CX : CXT} {k : Nat} {f : Addr} {fd : FuncData} {ps : List Str} {sp : Sp} {E : L2.St → XK} {x : Str} {p pos : Pos} {es : List Expr} {kws : List Keyword} {t tk : TA} {q : Nat × List Str × List Nat}
theorem run_Gk {pins : List (Addr × Obj)} {σ : L2.St} {H : Hp} {s : Shared} {Q : VK} {us ws : List Value} {vs zs as : List V} (F : FnG X.prog X.w X.K X.mg X.base CX k f fd ps sp) (hr : Room k X.A) (hgd : X.A.guards = some []) (hb : KwB X.K fd ps q) (hx : PassesAt CX X σ (E σ))
    (I : Inv X pins σ H s) (r : Vals vs us) (rz : Vals zs ws) (l1 : vs.length = q.1) (l2 : zs.length = q.2.1.length) (hp : pick q.2.2 (vs ++ zs) = some as) (h : sp as H Q (E σ)) : wpAny (model X.prog X.w) X.A (call (.ref f) us (q.2.1.zip ws)) (EP X pins σ Q) X.xe s := by
  obtain ⟨bs, h1, h2⟩ := pick_vals q.2.2 (r.append rz) hp
  refine wpAny_call (codeAny_mono (F.run X.A X.stack s H ⟨us, q.2.1.zip ws⟩ bs as Q (E σ) hr hgd I.env0 (hb s us ws bs I.kIn (by rw [← r.length, l1]) (by rw [← rz.length, l2]) h1) h2 h) fun z s' hq => ?_)
  cases z with
  | error e => exact hx pins H s e s' I hq
  | ok fl => cases fl <;> first | exact I.after hq | exact hq.elim
/-- f(e, .., k = v, ..) -/
theorem pe_callGk (F : FnG X.prog X.w X.K X.mg X.base CX k f fd ps sp) (hr : Room k X.A) (hgd : X.A.guards = some []) (hg : Gl X x) (hm : X.mg x = some (.ref f)) (hk : PySem.W.keepIn X.K (.ref f) = true) (hb : KwB X.K fd ps q) (hx : ∀ σ, PassesAt CX X σ (E σ))
    (ha : PA X es t) (hkw : PK X kws tk) (hn : kws.map (·.arg) = q.2.1.map some) (hdb : (x == ("__debug__" : Str)) = false)
    (he : ∀ e r, es = e :: r → starEach (e :: r) X.env = (false, eval e X.env) :: starEach r X.env) (hpl : (backTo pos (starEach es X.env)).any (·.1) = false) (h0 : es = [] → ∀ σ H Q, t σ H Q → Q [] H) :
    PE X (.Call (.Name x p) es kws pos) (fun σ H Q => t σ H fun vs H1 => tk σ H1 fun zs H2 => vs.length = q.1 ∧ zs.length = q.2.1.length ∧ ∃ as, pick q.2.2 (vs ++ zs) = some as ∧ sp as H2 Q (E σ)) := by
  refine ⟨fun pins s σ H Q I h => wpAny_Call_Name_kw (ld_glob I hg hm ?_ hdb)⟩
  obtain ⟨a1, a2, a3⟩ := all_some _ _ ((kw_names pos X.env kws).trans hn)
  have fin : ∀ (us : List Value) (vs : List V) (s1 : Shared) (H1 : Hp), Inv X pins σ H1 s1 → Vals vs us → (tk σ H1 fun zs H2 => vs.length = q.1 ∧ zs.length = q.2.1.length ∧ ∃ as, pick q.2.2 (vs ++ zs) = some as ∧ sp as H2 Q (E σ)) →
      wpAny (model X.prog X.w) X.A (evalAll ((backToKw pos (keywordEach kws X.env)).map (·.2))) (fun ks s₂ => X.K.In s₂.heap ∧ wpAny (model X.prog X.w) X.A (call (.ref f) ([] ++ us) (((backToKw pos (keywordEach kws X.env)).filterMap (·.1)).zip ks)) (EP X pins σ Q) X.xe s₂) X.xe s1 := by
    intro us vs s1 H1 I1 r h1
    refine thn (hkw.run pos pins s1 σ H1 _ I1 h1) fun ws s2 h2 => ?_
    obtain ⟨zs, H2, I2, rz, l1, l2, as, hp, h3⟩ := h2
    rw [a3]
    exact ⟨I2.kIn, run_Gk F hr hgd hb (hx σ) I2 r rz l1 l2 hp h3⟩
  cases es with
  | nil =>
    refine PySem.W.callWith_KW0 (h₀ := X.base) I.ok.mod.kin hk a1 ?_ (by rw [hpl, a2]; rfl)
    exact fin [] [] s H I .nil (h0 rfl σ H _ h)
  | cons e es =>
    refine PySem.W.callWith_KW (h₀ := X.base) I.ok.mod.kin hk a1 (thn (ha.run pos pins s σ H _ I h) fun us s1 h1 => ?_) (by rw [hpl, a2]; rfl) (he e es rfl)
    obtain ⟨vs, H1, I1, r, h2⟩ := h1
    exact fin us vs s1 H1 I1 r h2
end
end Ev

namespace Ev
open PySem PySem.Spec PyProof.Rows L2

/-! ### the law's def, called on the script -/
section
variable {P : Program} {w : World} {K : PySem.W.Frag} {mg mb : Str → Option Value} {CX : CXT} {k : Nat} {fa a : Addr} {fd : FuncData} {x : Str} {sp : Sp} {s : Shared} {vs : List Value} {ns : List Int}
abbrev Answers (s : Shared) (r : Result) (s' : Shared) : Prop := r = .ok (.ret (.bool true)) ∧ OldK s.heap s'.heap ∧ s'.os = s.os ∧ AllBare s'.gens
/-- H tracks nothing but the script -/
structure OnlyA (P : Program) (w : World) (K : PySem.W.Frag) (s : Shared) (a : Addr) (H : Hp) : Prop where
  only : Only H
  hok : HOk P w H s.heap
  at_ : ∀ b, H b ≠ none → b = a
  noK : H a ≠ none → K.lookup a = none
theorem answer_of (KX : K.In s.heap) (hns : s.heap.Ns mainGlobals mg) (hb : s.heap.Ns builtinsNs mb) (hbb : ∀ x : Str, x ≠ "__name__" → mb x = bootBuiltins x) (hlim : s.heap.NoLimit) (hg : s.gens = #[])
    (ha : s.heap.get? a = some { cls := .type "list", data := .seq vs.toArray }) (hr : Room k callerA)
    (F : ∀ base : Heap, K.In base → base.Ns mainGlobals mg → FnG P w K mg base CX k fa fd [x] sp)
    (hbind : ∀ (s : Shared) (u : Value), BindsTo s fd ⟨[u], []⟩ [(x, u)])
    (hCX : ∀ H e s', CX [] H s (fun _ _ _ => False) e s' → False) {H : Hp} (O : OnlyA P w K s a H)
    (hsp : sp [.ref a] H (fun v _ => v = .bl true) fun _ _ _ => False) : codeAny (model P w) callerA (.call (.ref fa) ⟨[.ref a], []⟩) (Answers s) s := by
  -- what is a dict, or K's own, is not tracked
  have free : ∀ {b : Addr} {o : Obj}, s.heap.get? b = some o → (b = a → o.data ≠ .seq vs.toArray 0 ∨ K.lookup a ≠ none) → H b = none := by
    intro b o e h
    cases q : H b with
    | none => rfl
    | some u =>
      have eb := O.at_ b (by rw [q]; exact Option.some_ne_none u)
      rcases h eb with h1 | h1
      · subst eb
        rw [ha] at e
        cases e
        exact absurd rfl h1
      · subst eb
        exact absurd (O.noK (by rw [q]; exact Option.some_ne_none u)) h1
  have ns' : ∀ {b : Addr} {m : Str → Option Value}, s.heap.Ns b m → (hidT s.heap H).Ns b m := by
    rintro b m ⟨o, es, ep, e, d, r⟩
    exact ⟨o, es, ep, hidT_get e (free e fun _ => .inl (by rw [d]; exact fun z => by cases z)), d, r⟩
  have KI : K.In (hidT s.heap H) := fun b o e => hidT_get (KX b o e) (free (KX b o e) fun eb => .inr (by rw [← eb, e]; exact Option.some_ne_none o))
  obtain ⟨mc, l1, l2⟩ := hlim
  have M : Mod K mg (hidT s.heap H) := ⟨KI, ns' hns, ⟨mb, ns' hb, hbb⟩, mc, ns' l1, l2⟩
  have e0 : Env0 P w K mg (hidT s.heap H) callerA [] s H := ⟨rfl, M, fun b o e => of_hidT e, Nat.le_of_eq (hidT_size _ _), trivial, fun b hb => (by cases hb), O.hok, .of_eq hg⟩
  have run := (F _ KI (ns' hns)).run callerA [] s H ⟨[.ref a], []⟩ [.ref a] [.ref a] _ _ hr rfl e0 (hbind s (.ref a)) (.cons rfl .nil) hsp
  refine codeAny_mono run fun r s' h => ?_
  cases r with
  | error e => exact (hCX H e s' h).elim
  | ok fl =>
    cases fl with
    | next => exact h.elim
    | brk => exact h.elim
    | cont => exact h.elim
    | ret u =>
      obtain ⟨v, H', os, bare, un, hok', r', q⟩ := h
      obtain rfl : v = .bl true := q
      obtain rfl : u = Value.bool true := r'
      refine ⟨rfl, OldK.of_keep fun b o e => ?_, os, bare⟩
      rcases O.only b with z | ⟨ob, xs, z⟩
      · exact un.keep b o e z (fun y => by cases y) (fun y => by cases y)
      · have t1 := (O.hok b _ z).1
        have t2 := (hok' b _ (un.frzs b ob _ z)).1
        rw [e] at t1
        cases t1
        exact t2
theorem answer_G (KX : K.In s.heap) (hns : s.heap.Ns mainGlobals mg) (hb : s.heap.Ns builtinsNs mb) (hbb : ∀ x : Str, x ≠ "__name__" → mb x = bootBuiltins x) (hlim : s.heap.NoLimit) (hg : s.gens = #[])
    (ha : s.heap.get? a = some { cls := .type "list", data := .seq vs.toArray }) (hi : IntsAre vs ns) (hl : ns.length ≤ sizeLine) (hr : Room k callerA)
    (F : ∀ base : Heap, K.In base → base.Ns mainGlobals mg → FnG P w K mg base CX k fa fd [x] sp)
    (hbind : ∀ (s : Shared) (u : Value), BindsTo s fd ⟨[u], []⟩ [(x, u)])
    (hsp : ∀ H : Hp, Only H → SqL K H a (ns.map V.int) → sp [.ref a] H (fun v _ => v = .bl true) fun _ _ _ => False)
    (hCX : ∀ H e s', CX [] H s (fun _ _ _ => False) e s' → False) : codeAny (model P w) callerA (.call (.ref fa) ⟨[.ref a], []⟩) (Answers s) s := by
  have rv := vals_ints hi
  cases hk : K.lookup a with
  | some o =>
    have e := KX a o hk
    rw [ha] at e
    cases e
    have O : OnlyA P w K s a (fun _ => none) := ⟨fun _ => .inl rfl, fun b u z => by simp at z, fun b z => absurd rfl z, fun z => absurd rfl z⟩
    exact answer_of KX hns hb hbb hlim hg ha hr F hbind hCX O (hsp _ O.only (.inr ⟨_, vs.toArray, _, hk, rfl, rfl, rfl, by rw [List.size_toArray, hi.length]; exact hl, by simpa using rv⟩))
  | none =>
    let u : HO := .frz { cls := .type "list", data := .seq vs.toArray } (.lst (ns.map V.int))
    let H : Hp := fun b => if b = a then some u else none
    have Ha : H a = some u := if_pos rfl
    have O : OnlyA P w K s a H := by
      refine ⟨fun b => ?_, fun b o z => ?_, fun b z => ?_, fun _ => hk⟩
      · by_cases h : b = a
        · exact .inr ⟨_, _, if_pos h⟩
        · exact .inl (if_neg h)
      · by_cases h : b = a
        · subst h
          rw [Ha] at z
          cases z
          exact ⟨ha, by rw [List.length_map]; exact hl, vs, _, rv, ha⟩
        · rw [show H b = none from if_neg h] at z
          cases z
      · by_cases h : b = a
        · exact h
        · exact absurd (if_neg h) z
    exact answer_of KX hns hb hbb hlim hg ha hr F hbind hCX O (hsp _ O.only (.inl (.inr ⟨_, Ha⟩)))
end
/-- a law: what is to be shown of its def -/
theorem walk_G {l : PySem.W.OpenLaw} {n k : Nat} {q : Program} {loose : List Str} {XP : (Str → Option Value) → Heap → Prop} {YP : World → Heap → Prop} {d : DefRec} {CX : World → CXT} {x : Str}
    (hn : l.most = some n) (hn2 : n ≤ sizeLine) (hdf : d.params.defaults = []) (hr : Room k callerA)
    (F : ∀ (w : World) (mg : Str → Option Value) (fa : Addr) (h : Heap), YP w h → h.Ns mainGlobals mg → mg d.name = some (.ref fa) →
      ∃ (K : PySem.W.Frag) (fd : FuncData) (sp : Sp), K.In h ∧ (∀ (s : Shared) (u : Value), BindsTo s fd ⟨[u], []⟩ [(x, u)]) ∧
        (∀ (H : Hp) (a : Addr) (ns : List Int), ns.length ≤ n → Only H → SqL K H a (ns.map V.int) → sp [.ref a] H (fun v _ => v = .bl true) fun _ _ _ => False) ∧
        ∀ base : Heap, K.In base → base.Ns mainGlobals mg → FnG l.prog w K mg base (CX w) k fa fd [x] sp)
    (hCX : ∀ (w : World) (H : Hp) (s : Shared) (e : Value) (s' : Shared), CX w [] H s (fun _ _ _ => False) e s' → False) : PySem.W.WalkO q loose XP YP l.row.toRowW d [] (fun f vs => PySem.call f vs) := by
  refine Att.attach_call hn hdf fun w s₀ s₁ mg mb fa o pm cd doc a vs ns G Y ho hd hcd hmg hobj hints hlen hg => ?_
  obtain ⟨K, fd, sp, KX, hb, hsp, hF⟩ := F w mg fa _ Y G.T.g hmg
  exact answer_G KX G.T.g G.T.b G.T.builtins G.T.nolimit hg hobj hints (Nat.le_trans hlen hn2) hr hF hb (fun H hO hS => hsp H a ns hlen hO hS) fun H e s' => hCX w H s₁ e s'
end Ev

namespace Ev
open PySem PySem.Spec PyProof.Rows L2

/-! ### repr -/
def reprD (d : PyData) : Option PyData := if d.showable = true ∧ d.hasDict = false ∧ d.depth ≤ 60 ∧ d.shown.length ≤ sizeLine then some (.str d.shown) else none
section
variable {X : Cx} {W0 : WX}
theorem call_reprV (hg : X.A.guards = some []) (hu : X.A.units + 65 < cLine) : CallR X (.builtin "repr") (aC X.K W0 (liftC1 reprD)) := by
  intro pins s σ H xs us Q I r h
  obtain ⟨W, M, σ', vs, R, rv, P⟩ := h
  obtain ⟨x, a, c, rfl, pa, e, q⟩ := c1_post R rv P
  obtain ⟨u, rfl, rx⟩ := vals1 r
  obtain ⟨⟨as, ra⟩, ha⟩ := inv_dp I (pa.dp R) rx
  simp only [reprD] at e
  split at e
  case isFalse => cases e
  rename_i hc
  cases e
  obtain ⟨c1, c2, c3, c4⟩ := hc
  cases a with
  | list xs =>
      obtain ⟨p, _, rfl, _, _⟩ := pa.list R
      cases rx
      exact repr_of_reads' ra c1 (fun z => by rw [c2] at z; cases z) hg (by omega) (fun _ _ z => z) (fun h' u tk hk => ⟨.str _, H, I.kept hk, ⟨_, rfl⟩, q _ _ W (Wd.le.refl _) R (.str _)⟩) c4
  | tuple xs =>
      obtain ⟨p, _, rfl, _, _, _⟩ := pa.tuple R
      cases rx
      exact repr_of_reads' ra c1 (fun z => by rw [c2] at z; cases z) hg (by omega) (fun _ _ z => z) (fun h' u tk hk => ⟨.str _, H, I.kept hk, ⟨_, rfl⟩, q _ _ W (Wd.le.refl _) R (.str _)⟩) c4
  | dict xs => simp only [PyData.hasDict] at c2; cases c2
  | none =>
      obtain rfl := pa.none
      cases rx
      exact PySem.P.repr_of_none ⟨.str _, H, I.tok _, ⟨_, rfl⟩, q _ _ W (Wd.le.refl _) R (by simp only [PyData.shown]; exact .str _)⟩
  | bool b =>
      obtain rfl := pa.bool
      cases rx
      exact PySem.P.repr_of_bool ⟨.str _, H, I.tok _, ⟨_, rfl⟩, q _ _ W (Wd.le.refl _) R (by simp only [PyData.shown]; exact .str _)⟩
  | int i =>
      obtain rfl := pa.int
      obtain ⟨t, rfl⟩ := rx
      exact PySem.P.repr_of_int (by simpa [PyData.showable] using c1) ⟨.str _, H, I.tok _, ⟨_, rfl⟩, q _ _ W (Wd.le.refl _) R (by simp only [PyData.shown]; exact .str _)⟩
  | str x =>
      obtain rfl := pa.str
      obtain ⟨t, rfl⟩ := rx
      exact PySem.P.repr_of_str ⟨.str _, H, I.tok _, ⟨_, rfl⟩, q _ _ W (Wd.le.refl _) R (by simp only [PyData.shown]; exact .str _)⟩ (by simpa only [PyData.shown] using c4)
end
end Ev

namespace Ev
open PySem PySem.Spec PyProof.Rows L2 PySem.W

/-! ### tuples that can be told apart, place by place up to the first that differs -/
def weakAll : List PyData → List PyData → Bool
  | x :: xs, y :: ys => alike x y && (!PyData.eqv x y || weakAll xs ys)
  | _, _ => true
theorem weak_cons {x y : PyData} {xs ys : List PyData} (h : weakAll (x :: xs) (y :: ys) = true) : alike x y = true ∧ (PyData.eqv x y = true → weakAll xs ys = true) := by
  simp only [weakAll, Bool.and_eq_true, Bool.or_eq_true, Bool.not_eq_true'] at h
  refine ⟨h.1, fun e => ?_⟩
  rcases h.2 with q | q
  · rw [e] at q
    cases q
  · exact q
def AllWeak (ds : List PyData) : Prop := ∀ d, d ∈ ds → ∀ d', d' ∈ ds → ∃ x r y t, d = .tuple (x :: r) ∧ d' = .tuple (y :: t) ∧ weakAll (x :: r) (y :: t) = true
theorem dataKind_someW {h : Heap} {ds : List PyData} {v : Value} {d : PyData} {as : List Addr} (hd : d ∈ ds) (r : Reads h v d as) : (dataKind h ds).keyOf v = some (keyToks d) := by
  have q : ∃ d, d ∈ ds ∧ ∃ as, Reads h v d as := ⟨d, hd, as, r⟩
  have e : (dataKind h ds).keyOf v = some (keyToks q.choose) := by
    show (open Classical in if q : ∃ d, d ∈ ds ∧ ∃ as, Reads h v d as then some (keyToks q.choose) else none) = _
    rw [dif_pos q]
  obtain ⟨h1, as', h2⟩ := q.choose_spec
  rw [e, (PyProof.Rows.reads_det (fun _ _ e _ => e) h2 r).1]
theorem each_keysW {h : Heap} {ds : List PyData} {vs : List Value} (e : EachIs (fun v d => ∃ as, Reads h v d as) vs ds) : EachIs (fun v d => (dataKind h ds).keyOf v = some (keyToks d)) vs ds :=
  (each_mem e).mono fun _ _ ⟨⟨_, r⟩, hd⟩ => dataKind_someW hd r
section
variable {prog : Program} {w : World} {A : Around} {E : Value → Shared → Prop} {s : Shared}
theorem katLex_weak {b fin : Bool} {Q : Bool → Shared → Prop} : ∀ (xs ys : List PyData) (i : Nat) (vs ws : List Value) (as bs : List Addr), ReadsAll s.heap vs xs as → ReadsAll s.heap ws ys bs → weakAll xs ys = true →
    A.units + min (PyData.depthAll xs) (PyData.depthAll ys) < cLine → (b = true → i = 0 → ∀ x r t, xs = x :: r → x ≠ .tuple t) → fin = decide (xs.length < ys.length) → Q (PyProof.Rows.lexLt itemOrd (keyToksAll xs) (keyToksAll ys)) s → KatLex prog w A b fin Q (vs.zip ws) i s
  | [], [], i, _, _, _, _, ra, rb, _, _, _, hf, hq => katLex_alike [] [] i _ _ _ _ ra rb (by simp [alikeAll]) (by assumption) (by assumption) hf hq
  | [], y :: ys, i, _, _, _, _, ra, rb, _, hu, hb, hf, hq => katLex_alike [] (y :: ys) i _ _ _ _ ra rb (by simp [alikeAll]) hu hb hf hq
  | x :: xs, [], i, _, _, _, _, ra, rb, _, hu, hb, hf, hq => katLex_alike (x :: xs) [] i _ _ _ _ ra rb (by simp [alikeAll]) hu hb hf hq
  | x :: xs, y :: ys, i, _, _, _, _, ra, rb, h, hu, hb, hf, hq => by
    obtain ⟨h1, h2⟩ := weak_cons h
    have hf' : fin = decide (xs.length < ys.length) := by
      rw [hf]
      simp only [List.length_cons, Nat.add_lt_add_iff_right]
    cases ra with
    | cons r rs =>
      cases rb with
      | cons r' rs' =>
        rw [List.zip_cons_cons]
        refine kat_cons (eqAt_alike x y A s _ _ _ _ r r' h1 (SeqAt.room_head hu) prog w _ _ ?_)
        cases hx : PyData.eqv x y with
        | true =>
          rw [dataLt_all_yes h1 hx] at hq
          exact kat_yes (katLex_weak xs ys (i + 1) _ _ _ _ rs rs' (h2 hx) (SeqAt.room_tail hu) (fun _ hi => absurd hi (Nat.succ_ne_zero i)) hf' hq)
        | false =>
          rw [dataLt_all_no h1 hx] at hq
          refine kat_no (oneLt_alike (fun hbi t => ?_) r r' h1 (ne_none_of h1 hx) (SeqAt.room_head hu) hq)
          rw [Bool.and_eq_true] at hbi
          exact hb hbi.1 (by simpa using hbi.2) x xs t rfl
theorem SortsAt.dataW {vs : List Value} {ds : List PyData} (e : EachIs (fun v d => ∃ as, Reads s.heap v d as) vs ds) (hal : AllWeak ds) (hu : ∀ d, d ∈ ds → A.units + d.depth < cLine) : SortsAt prog w A s (dataKind s.heap ds) vs := by
  have room : ∀ {d d' : PyData}, d ∈ ds → A.units + min d.depth d'.depth < cLine := fun {d d'} hd => Nat.lt_of_le_of_lt (Nat.add_le_add_left (Nat.min_le_left _ _) _) (hu d hd)
  have ht : ∀ d, d ∈ ds → ∃ x r, d = .tuple (x :: r) := fun d hd => by
    obtain ⟨x, r, _, _, h, _⟩ := hal d hd d hd
    exact ⟨x, r, h⟩
  refine ⟨fun v hv => ?_, ?_⟩
  · obtain ⟨d, hd, as, r⟩ := e.left v hv
    exact ⟨_, dataKind_someW hd r⟩
  · cases ds with
    | nil =>
      cases e
      exact ⟨general', fun E x y a b Q ha _ _ => (by
        obtain ⟨d, _, hd, _⟩ := dataKind_inv ha
        exact absurd hd (by simp)), fun h2 => absurd h2 (by simp)⟩
    | cons d₀ ds₀ =>
      obtain ⟨x₀, r₀, e₀⟩ := ht d₀ (List.mem_cons_self ..)
      have hfirst : ∀ x r, PyData.tuple (x :: r) ∈ d₀ :: ds₀ → alike x x₀ = true := by
        intro x r hm
        obtain ⟨x1, r1, y1, t1, q1, q2, q⟩ := hal _ hm d₀ (List.mem_cons_self ..)
        rw [e₀] at q2
        cases q1
        cases q2
        exact (weak_cons q).1
      refine ⟨tuples' (dataType x₀ != Value.type "tuple"), ?_, fun h2 E Q hq => ?_⟩
      · intro E x y a b Q ha hb hq
        obtain ⟨d, as, hd, ra, rfl⟩ := dataKind_inv ha
        obtain ⟨d', as', hd', rb, rfl⟩ := dataKind_inv hb
        have hroom := room (d' := d') hd
        obtain ⟨x1, r1, x2, r2, q1, q2, hdd⟩ := hal d hd d' hd'
        subst q1 q2
        have hq' : Q (dataLt (.tuple (x1 :: r1)) (.tuple (x2 :: r2))) s := hq
        rw [dataLt_tuple] at hq'
        cases ra with
        | @tuple l o xs n _ _ h1 h2 h3 h4 =>
          cases rb with
          | @tuple l' o' xs' n' _ _ k1 k2 k3 k4 =>
            have n1 : xs.size = (x1 :: r1).length := by simpa using SeqAt.ReadsAll.length _ _ _ h4
            have n2 : xs'.size = (x2 :: r2).length := by simpa using SeqAt.ReadsAll.length _ _ _ k4
            refine kat_lt h1 h3 k1 k3 (katLex_weak (x1 :: r1) (x2 :: r2) 0 _ _ _ _ h4 k4 hdd (by have q := SeqAt.room_in hroom; omega) (fun hb _ x r t ex => ?_) (by rw [n1, n2]) hq')
            obtain ⟨rfl, rfl⟩ := List.cons.inj ex
            have q := dataType_alike (hfirst _ _ hd)
            rw [← q] at hb
            exact dataType_tuple hb t
      · obtain ⟨fs, t1, t2, t3⟩ := each_katTups e ht
        refine kat_kind (T := dataType x₀) t1 (by omega) (fun f hf => ?_) (beq_self_eq_true _) hq
        obtain ⟨x, r, as, m1, m2⟩ := t3 f hf
        rw [← dataType_alike (hfirst x r m1)]
        exact looks_reads m2
theorem sorted_dataW {β : Type} {vs : List Value} {bs : List β} {enc : β → PyData} {R : Value → β → Prop} {l : Addr} {Q : Value → Shared → Prop} (hl : s.heap.IsList l vs.toArray) (e : EachIs R vs bs) (er : EachIs (fun v b => ∃ as, Reads s.heap v (enc b) as) vs bs) (hal : AllWeak (bs.map enc)) (hL : bs.length ≤ sizeLine)
    (hu : ∀ b, b ∈ bs → A.units + 2 + (enc b).depth < cLine) (h : ∀ out, out.length = bs.length → EachIs R out (bs.mergeSort (dataLe false enc)) → Q (.ref (s.heap.objs.size + 1)) { s with heap := sortedAll s.heap vs (List.toArray out) }) :
    wpAny (model prog w) A (call (.builtin "sorted") [.ref l]) Q E s := by
  have er' : EachIs (fun v b => ∃ as, Reads (sortingHeap (copyHeap s.heap vs) (s.heap.objs.size + 1) vs) v (enc b) as) vs bs := er.mono fun _ _ ⟨as, r⟩ => ⟨as, PyProof.Rows.Reads.keeps (fun _ _ => sorting_copy_old) r⟩
  refine sorted_vals hl (SortsAt.dataW (s := { s with heap := sortingHeap (copyHeap s.heap vs) (s.heap.objs.size + 1) vs }) (each_map (R := fun v d => ∃ as, Reads (sortingHeap (copyHeap s.heap vs) (s.heap.objs.size + 1) vs) v d as) enc er') hal (bound_map hu)) (by rw [e.length]; exact hL) ?_
  refine h _ (by rw [sortVals_length false rfl]; exact e.length) ?_
  exact sortVals_each (κ := dataKind (sortingHeap (copyHeap s.heap vs) (s.heap.objs.size + 1) vs) (bs.map enc)) (fun b => keyToks (enc b)) e (each_of_map enc (each_keysW (each_map (R := fun v d => ∃ as, Reads (sortingHeap (copyHeap s.heap vs) (s.heap.objs.size + 1) vs) v d as) enc er')))
end
end Ev

namespace Ev
open PySem PySem.Spec PySem.Calls PyProof.Rows PySem.W
/-! ### sorted(a tuple) -/
section
variable {prog : Program} {w : World} {A : Around} {E : Value → Shared → Prop} {s : Shared}
theorem items_of_tuple {p : Addr} {us : List Value} {Q : List Value → Shared → Prop} (tp : s.heap.IsTuple p us.toArray) (len : us.length ≤ sizeLine)
    (h : Q us { s with heap := (s.heap.push (seqObj "list" #[] 0)).update s.heap.objs.size (Obj.mapSeq (· ++ us.toArray)) }) : wpAny (model prog w) A (collect (.ref p)) Q E s := by
  obtain ⟨o, at_, cls, n, dat⟩ := id tp
  have new : (s.heap.push (seqObj "list" #[] 0)).get? s.heap.objs.size = some (seqObj "list" #[] 0) := Heap.get?_push_size _ rfl
  have old : (s.heap.push (seqObj "list" #[] 0)).get? p = some o := Heap.get?_push_of_some _ at_
  unfold collect
  refine wpAny_bind (wpAny_runValue (codeAny_builtin entry_proto_collect' ?_))
  show wpAny _ _ (do again (.builtin "list.__iadd__" ⟨[← newList [], .ref p], []⟩)) _ _ s
  refine wpAny_bind (wpAny_newList (wpAny_pure ⟨Code.quiet_builtin _ (by decide +kernel), codeAny_builtin entry_list_iadd' ?_⟩))
  show wpAny _ _ (Builtin.List.listExtendWith (.ref s.heap.objs.size) (.ref p) (.ref s.heap.objs.size)) _ _ { s with heap := s.heap.push (seqObj "list" #[] 0) }
  unfold Builtin.List.listExtendWith
  refine wpAny_bind (wpAny_typeOf (T := "tuple") ⟨o, old, cls⟩ ?_)
  have same : (Value.type "tuple" == Value.type "tuple") = true := by rfl
  rw [if_pos (by rw [same]; simp)]
  refine wpAny_bind (listItems_at old dat ?_)
  refine wpAny_bind (listItems_at (xs := #[]) (n := 0) new rfl ?_)
  rw [if_neg (by simp)]
  have fits : ((#[] : Array Value) ++ us.toArray).size ≤ sizeLine + 1 := by
    simp only [Array.size_append, List.size_toArray, List.length_nil]
    omega
  refine wpAny_bind (listUpdate_at (xs := #[]) (n := 0) new rfl ?_ (Nat.zero_le _) fits)
  refine wpAny_pure ?_
  show wpAny (model prog w) A (do
      let o ← load s.heap.objs.size
      match o.data with
      | .seq xs _ => pure xs.toList
      | _ => unsupported "internal:collect") Q E _
  refine wpAny_bind (wpAny_load (get?_update_seq new _) ?_)
  show wpAny _ _ (pure ((#[] : Array Value) ++ us.toArray).toList) Q E _
  rw [show ((#[] : Array Value) ++ us.toArray).toList = us by simp]
  exact wpAny_pure h
theorem sorted_tuple {p : Addr} {us : List Value} {Q : Value → Shared → Prop} {κ : PyProof.Rows.KeyKind} (tp : s.heap.IsTuple p us.toArray) (S : SortsAt prog w A.in1.in1 { s with heap := sortingHeap (copyHeap s.heap us) (s.heap.objs.size + 1) us } κ us) (len : us.length ≤ sizeLine)
    (h : Q (.ref (s.heap.objs.size + 1)) { s with heap := sortedAll s.heap us (sortVals κ false us us).toArray }) : wpAny (model prog w) A (call (.builtin "sorted") [.ref p]) Q E s := by
  refine call_function_entry_kw kind_sorted plain_sorted entry_sorted (args_sorted1 _) ?_
  unfold Builtin.«sorted»
  refine wpAny_bind (m := checkCount "sorted" 1 1 _) (wpAny_pure ?_)
  refine wpAny_bind (items_of_tuple tp len ?_)
  refine wpAny_bind (wpAny_newList ?_ len)
  have place : ((s.heap.push (seqObj "list" #[] 0)).update s.heap.objs.size (Obj.mapSeq (· ++ us.toArray))).objs.size = s.heap.objs.size + 1 := by rw [Heap.size_update, size_push']
  show wpAny _ _ _ _ _ { s with heap := copyHeap s.heap us }
  rw [place]
  refine wpAny_bind (wpAny_holding (wpAny_call_entry_kw slot_list_sort ⟨_, copyHeap_at s.heap us, rfl⟩ entry_list_sort ?body (args_list_sort _)))
  case body =>
    show wpAny (model prog w) A.in1.in1 (Builtin.«list.sort» ⟨[.ref (s.heap.objs.size + 1)], []⟩) _ _ _
    exact list_sort_vals (s := { s with heap := copyHeap s.heap us }) (copyHeap_at s.heap us) S len ⟨_, rfl, wpAny_pure ⟨_, rfl, h⟩⟩
variable {β : Type} {vs : List Value} {bs : List β} {enc : β → PyData} {R : Value → β → Prop} {l : Addr} {Q : Value → Shared → Prop}
theorem sortedT_data (hl : s.heap.IsTuple l vs.toArray) (e : EachIs R vs bs) (er : EachIs (fun v b => ∃ as, Reads s.heap v (enc b) as) vs bs) (hal : AllAlike (bs.map enc)) (hk : Sortable (bs.map enc)) (hL : bs.length ≤ sizeLine)
    (hu : ∀ b, b ∈ bs → A.units + 2 + (enc b).depth < cLine) (h : ∀ out, out.length = bs.length → EachIs R out (bs.mergeSort (dataLe false enc)) → Q (.ref (s.heap.objs.size + 1)) { s with heap := sortedAll s.heap vs (List.toArray out) }) :
    wpAny (model prog w) A (call (.builtin "sorted") [.ref l]) Q E s := by
  have er' : EachIs (fun v b => ∃ as, Reads (sortingHeap (copyHeap s.heap vs) (s.heap.objs.size + 1) vs) v (enc b) as) vs bs := er.mono fun _ _ ⟨as, r⟩ => ⟨as, PyProof.Rows.Reads.keeps (fun _ _ => sorting_copy_old) r⟩
  exact sorted_tuple hl (SortsAt.data (s := { s with heap := sortingHeap (copyHeap s.heap vs) (s.heap.objs.size + 1) vs }) (each_map (R := fun v d => ∃ as, Reads (sortingHeap (copyHeap s.heap vs) (s.heap.objs.size + 1) vs) v d as) enc er') hal hk (bound_map hu)) (by rw [e.length]; exact hL)
    (h _ (by rw [sortVals_length false rfl]; exact e.length) (sortVals_data false e er' hal))
theorem sortedT_dataW (hl : s.heap.IsTuple l vs.toArray) (e : EachIs R vs bs) (er : EachIs (fun v b => ∃ as, Reads s.heap v (enc b) as) vs bs) (hal : AllWeak (bs.map enc)) (hL : bs.length ≤ sizeLine)
    (hu : ∀ b, b ∈ bs → A.units + 2 + (enc b).depth < cLine) (h : ∀ out, out.length = bs.length → EachIs R out (bs.mergeSort (dataLe false enc)) → Q (.ref (s.heap.objs.size + 1)) { s with heap := sortedAll s.heap vs (List.toArray out) }) :
    wpAny (model prog w) A (call (.builtin "sorted") [.ref l]) Q E s := by
  have er' : EachIs (fun v b => ∃ as, Reads (sortingHeap (copyHeap s.heap vs) (s.heap.objs.size + 1) vs) v (enc b) as) vs bs := er.mono fun _ _ ⟨as, r⟩ => ⟨as, PyProof.Rows.Reads.keeps (fun _ _ => sorting_copy_old) r⟩
  refine sorted_tuple hl (SortsAt.dataW (s := { s with heap := sortingHeap (copyHeap s.heap vs) (s.heap.objs.size + 1) vs }) (each_map (R := fun v d => ∃ as, Reads (sortingHeap (copyHeap s.heap vs) (s.heap.objs.size + 1) vs) v d as) enc er') hal (bound_map hu)) (by rw [e.length]; exact hL) ?_
  refine h _ (by rw [sortVals_length false rfl]; exact e.length) ?_
  exact sortVals_each (κ := dataKind (sortingHeap (copyHeap s.heap vs) (s.heap.objs.size + 1) vs) (bs.map enc)) (fun b => keyToks (enc b)) e (each_of_map enc (each_keysW (each_map (R := fun v d => ∃ as, Reads (sortingHeap (copyHeap s.heap vs) (s.heap.objs.size + 1) vs) v d as) enc er')))
end
end Ev

namespace Ev
open PySem PySem.Spec PyProof.Rows L2 PySem.W

/-! ### sorted(list) -/
def alikeB (ds : List PyData) : Bool := ds.all fun d => ds.all fun e => alike d e
def isTupC : PyData → Bool
  | .tuple (_ :: _) => true
  | _ => false
def noTup : PyData → Bool
  | .none => false
  | .tuple _ => false
  | _ => true
def wkB : PyData → PyData → Bool
  | .tuple (x :: r), .tuple (y :: t) => weakAll (x :: r) (y :: t)
  | _, _ => false
def weakB (ds : List PyData) : Bool := ds.all fun d => ds.all fun e => wkB d e
theorem weakB_ok {ds : List PyData} (h : weakB ds = true) : AllWeak ds := fun d hd e he => by
  have := List.all_eq_true.mp (List.all_eq_true.mp h d hd) e he
  unfold wkB at this
  split at this
  · exact ⟨_, _, _, _, rfl, rfl, this⟩
  · cases this
def sortB (xs : List PyData) : Bool := (alikeB xs && (xs.all isTupC || xs.all noTup)) || weakB xs
def sortD : PyData → Option PyData
  | .list xs => if sortB xs = true ∧ xs.length ≤ sizeLine ∧ (xs.all fun d => decide (d.depth ≤ 60)) = true then some (.list (xs.mergeSort (dataLe false id))) else none
  | .tuple xs => if sortB xs = true ∧ xs.length ≤ sizeLine ∧ (xs.all fun d => decide (d.depth ≤ 60)) = true then some (.list (xs.mergeSort (dataLe false id))) else none
  | _ => none
theorem alikeB_ok {ds : List PyData} (h : alikeB ds = true) : AllAlike ds := fun d hd e he => List.all_eq_true.mp (List.all_eq_true.mp h d hd) e he
theorem sortable_ok {ds : List PyData} (h : (ds.all isTupC || ds.all noTup) = true) : Sortable ds := by
  rcases Bool.or_eq_true_iff.mp h with h | h
  · refine .inl fun d hd => ?_
    have := List.all_eq_true.mp h d hd
    cases d with
    | tuple xs =>
      cases xs with
      | nil => cases this
      | cons x r => exact ⟨x, r, rfl⟩
    | _ => cases this
  · refine .inr fun d hd => ⟨fun e => ?_, fun xs e => ?_⟩
    · subst e
      cases List.all_eq_true.mp h _ hd
    · subst e
      cases List.all_eq_true.mp h _ hd
/-- the values behind: sorted as the data are -/
theorem each_of {K : PySem.W.Frag} {Z : Hp} : ∀ {vs : List V} {its : List Value} {ds : List PyData}, Vals vs its → DqAll K Z vs ds → EachIs (fun u d => ∃ v, RelV v u ∧ Dq K Z v d) its ds
  | _, _, _, .nil, .nil => .nil
  | _, _, _, .cons r rs, .cons q qs => .cons ⟨_, r, q⟩ (each_of rs qs)
theorem of_each {K : PySem.W.Frag} {Z : Hp} : ∀ {its : List Value} {ds : List PyData}, EachIs (fun u d => ∃ v, RelV v u ∧ Dq K Z v d) its ds → ∃ vs, Vals vs its ∧ DqAll K Z vs ds
  | _, _, .nil => ⟨[], .nil, .nil⟩
  | _, _, .cons h t => by
    obtain ⟨v, r, q⟩ := h
    obtain ⟨vs, rs, qs⟩ := of_each t
    exact ⟨v :: vs, .cons r rs, .cons q qs⟩
theorem each_imp {α β : Type} {R S : α → β → Prop} (h : ∀ a b, R a b → S a b) : ∀ {as : List α} {bs : List β}, EachIs R as bs → EachIs S as bs
  | _, _, .nil => .nil
  | _, _, .cons a t => .cons (h _ _ a) (each_imp h t)
section
variable {X : Cx} {W0 : WX}
theorem call_sortV (hu : X.A.units + 65 < cLine) : CallR X (.builtin "sorted") (aC X.K W0 (liftC1 sortD)) := by
  intro pins s σ H xs us Q I r h
  obtain ⟨W, M, σ', vs, R, rv, P⟩ := h
  obtain ⟨x, a, c, rfl, pa, e, q⟩ := c1_post R rv P
  obtain ⟨u, rfl, rx⟩ := vals1 r
  cases a with
  | list ds =>
    simp only [sortD] at e
    split at e
    · rename_i hc
      cases e
      obtain ⟨c1, c3, c4⟩ := hc
      obtain ⟨p, ws, rfl, hp, hd⟩ := pa.list R
      cases rx
      obtain ⟨its, hv, hl, _⟩ := I.list hp
      have ee := each_of hv hd
      have er : EachIs (fun u d => ∃ as, Reads s.heap u (id d) as) its ds := each_imp (fun u d ⟨v, r, q⟩ => (inv_dp I (Dq.mono R.sub q) r).1) ee
      have hm : ds.map id = ds := List.map_id ds
      have fin : ∀ out : List Value, out.length = ds.length → EachIs (fun u d => ∃ v, RelV v u ∧ Dq X.K W.Z v d) out (ds.mergeSort (dataLe false id)) → ∃ v H1, Inv X pins σ H1 { s with heap := sortedAll s.heap its out.toArray } ∧ L2.RelV v (.ref (s.heap.objs.size + 1)) ∧ Q v H1 := fun out hlen ho => ?fin
      case fin =>
        obtain ⟨os, os1, os2⟩ := of_each ho
        obtain ⟨ep, he'⟩ := sortedAll_at s.heap its out.toArray
        have hz : os.length ≤ sizeLine := by rw [os1.length, hlen]; exact c3
        have hn : H (s.heap.objs.size + 1) = none := I.hok.fresh (Nat.le_succ _)
        obtain ⟨R3, l3, d3⟩ := R.mkL hn os2
        exact ⟨.ref _, upd H (s.heap.objs.size + 1) (.lst os), I.laid (t' := s.toks) (fun _ _ => sortedAll_old) (Nat.le_succ _) ⟨hz, out, ep, os1, he'⟩, rfl, q _ _ _ l3 R3 d3⟩
      have hd0 : ∀ d ∈ ds, X.A.units + 2 + (id d).depth < cLine := fun d hd => by
        have := of_decide_eq_true (List.all_eq_true.mp c4 d hd)
        show X.A.units + 2 + d.depth < cLine
        omega
      rcases Bool.or_eq_true_iff.mp c1 with h1 | h1
      · obtain ⟨h1, h2⟩ := Bool.and_eq_true_iff.mp h1
        exact sorted_data (enc := id) (bs := ds) hl.isList ee er (by rw [hm]; exact alikeB_ok h1) (by rw [hm]; exact sortable_ok h2) c3 hd0 fin
      · exact sorted_dataW (enc := id) (bs := ds) hl.isList ee er (by rw [hm]; exact weakB_ok h1) c3 hd0 fin
    · cases e
  | tuple ds =>
    simp only [sortD] at e
    split at e
    · rename_i hc
      cases e
      obtain ⟨c1, c3, c4⟩ := hc
      obtain ⟨p, ws, rfl, _, hp, hd⟩ := pa.tuple R
      cases rx
      obtain ⟨its, hv, hl, _⟩ := I.tuple hp
      have ee := each_of hv hd
      have er : EachIs (fun u d => ∃ as, Reads s.heap u (id d) as) its ds := each_imp (fun u d ⟨v, r, q⟩ => (inv_dp I (Dq.mono R.sub q) r).1) ee
      have hm : ds.map id = ds := List.map_id ds
      have fin : ∀ out : List Value, out.length = ds.length → EachIs (fun u d => ∃ v, RelV v u ∧ Dq X.K W.Z v d) out (ds.mergeSort (dataLe false id)) → ∃ v H1, Inv X pins σ H1 { s with heap := sortedAll s.heap its out.toArray } ∧ L2.RelV v (.ref (s.heap.objs.size + 1)) ∧ Q v H1 := fun out hlen ho => ?fin
      case fin =>
        obtain ⟨os, os1, os2⟩ := of_each ho
        obtain ⟨ep, he'⟩ := sortedAll_at s.heap its out.toArray
        have hz : os.length ≤ sizeLine := by rw [os1.length, hlen]; exact c3
        have hn : H (s.heap.objs.size + 1) = none := I.hok.fresh (Nat.le_succ _)
        obtain ⟨R3, l3, d3⟩ := R.mkL hn os2
        exact ⟨.ref _, upd H (s.heap.objs.size + 1) (.lst os), I.laid (t' := s.toks) (fun _ _ => sortedAll_old) (Nat.le_succ _) ⟨hz, out, ep, os1, he'⟩, rfl, q _ _ _ l3 R3 d3⟩
      have hd0 : ∀ d ∈ ds, X.A.units + 2 + (id d).depth < cLine := fun d hd => by
        have := of_decide_eq_true (List.all_eq_true.mp c4 d hd)
        show X.A.units + 2 + d.depth < cLine
        omega
      rcases Bool.or_eq_true_iff.mp c1 with h1 | h1
      · obtain ⟨h1, h2⟩ := Bool.and_eq_true_iff.mp h1
        exact sortedT_data (enc := id) (bs := ds) hl ee er (by rw [hm]; exact alikeB_ok h1) (by rw [hm]; exact sortable_ok h2) c3 hd0 fin
      · exact sortedT_dataW (enc := id) (bs := ds) hl ee er (by rw [hm]; exact weakB_ok h1) c3 hd0 fin
    · cases e
  | _ => cases e
end
end Ev

namespace Ev
open PySem PySem.Spec PySem.SeqAt PySem.W

/-! ### <= of data: alike ones, and tuples that can be told apart early -/
section early
open AutoSeq1 (wpAny_loadPart')
open MeetsSeq MeetsSeq2 MeetsSeq3 SeqRoads2

/-- up to the first place that differs -/
def Upto (e : Nat → Bool) (j : Nat) : Prop := ∀ i, i < j → e i = true
theorem Upto.succ {e : Nat → Bool} {j : Nat} (u : Upto e j) (h : e j = true) : Upto e (j + 1) := fun i hi => by
  rcases Nat.lt_succ_iff_lt_or_eq.mp hi with z | z
  · exact u i z
  · rw [z]; exact h
abbrev TupAt (s : Shared) (a : Addr) (its : Array Value) (n : Nat) (d : Option Addr) (sl : Array (Option Value)) : Prop := s.heap.get? a = some { cls := .type "tuple", dict := d, data := .seq its n, slots := sl }
abbrev EqEach (A : Around) (s : Shared) (xs ys : Array Value) (e : Nat → Bool) : Prop := ∀ j (h1 : j < xs.size) (h2 : j < ys.size), Upto e j → EqAt A.in1 s xs[j] ys[j] (e j)
abbrev LeEach (A : Around) (s : Shared) (xs ys : Array Value) (e r : Nat → Bool) : Prop := ∀ j (h1 : j < xs.size) (h2 : j < ys.size), Upto e j → e j = false → RcOp .LtE A.in1 s xs[j] ys[j] (r j)
theorem early_le (p q : Addr) (xs ys : Array Value) (n m : Nat) (dp dq : Option Addr) (sp sq : Array (Option Value)) (e r : Nat → Bool) :
    Meets (Builtin.«tuple.__le__» ⟨[.ref p, .ref q], []⟩) (fun A R s => TupAt s p xs n dp sp ∧ TupAt s q ys m dq sq ∧ EqEach A s xs ys e ∧ LeEach A s xs ys e r ∧
      R (.ok (.ret (.bool (firstLt e r (decide (xs.size ≤ ys.size)) (List.range (min xs.size ys.size)))))) s) := .of_wp fun prog w A R s all => by
  obtain ⟨hp, gs, dr, tk, os⟩ := s
  obtain ⟨atp, atq, heq, hle, fin⟩ := all
  have same := AutoSeq1.sub_tuple_tuple
  have len : (xs.toList.zip ys.toList).length = min xs.size ys.size := by simp
  wp_walk using wpAny_loadPart' atp, wpAny_loadPart' atq, wpAny_forIn_list _ (fun rest b s' => b.1 = none ∧ s' = ⟨hp, gs, dr, tk, os⟩ ∧ ∃ i, Upto e i ∧ rest = (xs.toList.zip ys.toList).drop i ∧
    R (.ok (.ret (.bool (firstLt e r (decide (xs.size ≤ ys.size)) ((List.range (min xs.size ys.size)).drop i))))) ⟨hp, gs, dr, tk, os⟩) _
  case turn =>
    rintro ⟨u, v⟩ rest b s' ⟨hb, rfl, i, up, hz, hR⟩
    have inside : i < (xs.toList.zip ys.toList).length := Decidable.byContradiction fun c => by
      rw [List.drop_of_length_le (Nat.le_of_not_lt c)] at hz
      cases hz
    have im : i < min xs.size ys.size := len ▸ inside
    have i1 : i < xs.size := by omega
    have i2 : i < ys.size := by omega
    rw [List.drop_eq_getElem_cons inside] at hz
    injection hz with huv hrest
    have hu : u = xs[i] := by simpa using congrArg Prod.fst huv
    have hv : v = ys[i] := by simpa using congrArg Prod.snd huv
    subst hu hv
    rw [show (List.range (min xs.size ys.size)).drop i = i :: (List.range (min xs.size ys.size)).drop (i + 1) by simp [List.drop_eq_getElem_cons, im]] at hR
    refine wpAny_bind (heq i i1 i2 up prog w _ _ ?_)
    cases hy : e i with
    | true =>
      rw [firstLt_yes hy] at hR
      wp_walk
      exact ⟨rfl, rfl, i + 1, up.succ hy, hrest, hR⟩
    | false =>
      rw [firstLt_no hy] at hR
      refine (show wpAny (model prog w) A.in1 (do
        rule "tuple.compare.by-the-first-pair-that-differs"
        let z ← richCompare CmpOp.LtE xs[i] ys[i]
        let z ← ret z
        pure (ForInStep.done (some z, ()))) _ _ _ from ?_)
      refine wpAny_bind (wpAny_rule (wpAny_bind (hle i i1 i2 up hy prog w _ _ ?_)))
      wp_walk
      exact ⟨_, rfl, hR⟩
  case fin =>
    rintro ⟨b1, b2⟩ s' ⟨hb, rfl, i, _, hz, hR⟩
    simp only at hb
    subst hb
    have past : min xs.size ys.size ≤ i := Decidable.byContradiction fun c => by
      rw [List.drop_eq_getElem_cons (by rw [len]; omega)] at hz
      cases hz
    rw [List.drop_of_length_le (by simpa using past)] at hR
    wp_walk
    exact ⟨_, rfl, by simpa [Builtin.Tuple.tupleCompareSizes, firstLt] using hR⟩
  case h => exact ⟨rfl, rfl, 0, fun i hi => absurd hi (Nat.not_lt_zero i), rfl, by simpa using fin⟩
theorem rc_early {A : Around} {s : Shared} {p q : Addr} {xs ys : Array Value} {e r : Nat → Bool} (tp : s.heap.IsTuple p xs) (tq : s.heap.IsTuple q ys) (hu : A.units < cLine) (heq : EqEach A s xs ys e) (hle : LeEach A s xs ys e r) :
    RcOp .LtE A s (.ref p) (.ref q) (firstLt e r (decide (xs.size ≤ ys.size)) (List.range (min xs.size ys.size))) := fun prog w E Q h => by
  obtain ⟨⟨c1, d1, t1, l1⟩, o1, k1, n1, z1⟩ := id tp
  obtain ⟨⟨c2, d2, t2, l2⟩, o2, k2, n2, z2⟩ := id tq
  simp only at k1 z1 k2 z2
  subst k1 z1 k2 z2
  exact richCompare_meets_room (op := .LtE) ⟨_, o1, rfl⟩ ⟨_, o2, rfl⟩ F.slot_tuple_le F.entry_tuple_le (F.args_tuple_le_2 _ _) (early_le p q xs ys n1 n2 d1 d2 l1 l2 e r)
    ⟨o1, o2, heq, hle, show Value.bool (firstLt e r (decide (xs.size ≤ ys.size)) (List.range (min xs.size ys.size))) ≠ Value.notImplemented ∧ Q (.bool (firstLt e r (decide (xs.size ≤ ys.size)) (List.range (min xs.size ys.size)))) s from ⟨(fun x => nomatch x), h⟩⟩ hu
end early
theorem weak_comm : ∀ xs ys : List PyData, weakAll xs ys = weakAll ys xs
  | [], [] => rfl
  | [], _ :: _ => rfl
  | _ :: _, [] => rfl
  | x :: xs, y :: ys => by simp only [weakAll]; rw [alike_comm x y, eqv_comm x y, weak_comm xs ys]
theorem firstLt_weak : ∀ (xs ys : List PyData), weakAll xs ys = true →
    firstLt (pairEq xs ys) (fun j => dataLt (xs.getD j .none) (ys.getD j .none)) (decide (xs.length < ys.length)) (List.range (min xs.length ys.length)) = PyProof.Rows.lexLt PyProof.Rows.itemOrd (keyToksAll xs) (keyToksAll ys)
  | [], ys, _ => firstLt_toks [] ys (by simp [alikeAll])
  | x :: xs, [], _ => firstLt_toks (x :: xs) [] (by simp [alikeAll])
  | x :: xs, y :: ys, h => by
    obtain ⟨h1, h2⟩ := weak_cons h
    have em : min (x :: xs).length (y :: ys).length = min xs.length ys.length + 1 := by
      rw [List.length_cons, List.length_cons]
      omega
    have ed : decide ((x :: xs).length < (y :: ys).length) = decide (xs.length < ys.length) := by
      rw [List.length_cons, List.length_cons]
      exact decide_eq_decide.mpr (by omega)
    rw [em, ed, List.range_succ_eq_map]
    cases hx : PyData.eqv x y with
    | true =>
      rw [firstLt_yes (show pairEq (x :: xs) (y :: ys) 0 = true from hx), firstLt_map, dataLt_all_yes h1 hx, ← firstLt_weak xs ys (h2 hx)]
      rfl
    | false =>
      rw [firstLt_no (show pairEq (x :: xs) (y :: ys) 0 = false from hx), dataLt_all_no h1 hx]
      rfl
theorem firstLe_weak (xs ys : List PyData) (h : weakAll xs ys = true) :
    firstLt (pairEq xs ys) (fun j => !dataLt (ys.getD j .none) (xs.getD j .none)) (decide (xs.length ≤ ys.length)) (List.range (min xs.length ys.length)) = !PyProof.Rows.lexLt PyProof.Rows.itemOrd (keyToksAll ys) (keyToksAll xs) := by
  have e : decide (xs.length ≤ ys.length) = !decide (ys.length < xs.length) := by
    rw [← decide_not]
    exact decide_eq_decide.mpr Nat.not_lt.symm
  rw [e, firstLt_not, pairEq_swap xs ys, Nat.min_comm, firstLt_weak ys xs (by rw [weak_comm]; exact h)]
/-- the places of two weakly alike rows -/
theorem weak_at {xs ys : List PyData} (h : weakAll xs ys = true) : ∀ j, j < xs.length → j < ys.length → Upto (pairEq xs ys) j → alike (xs.getD j .none) (ys.getD j .none) = true := by
  induction xs generalizing ys with
  | nil => intro j h1; exact absurd h1 (Nat.not_lt_zero _)
  | cons x xs ih =>
    cases ys with
    | nil => intro j _ h2; exact absurd h2 (Nat.not_lt_zero _)
    | cons y ys =>
      obtain ⟨h1, h2⟩ := weak_cons h
      intro j j1 j2 up
      cases j with
      | zero => exact h1
      | succ j => exact ih (h2 (up 0 (Nat.succ_pos j))) j (Nat.lt_of_succ_lt_succ j1) (Nat.lt_of_succ_lt_succ j2) fun i hi => up (i + 1) (Nat.succ_lt_succ hi)
theorem reads_at {h : Heap} : ∀ {vs : List Value} {xs : List PyData} {as : List Addr}, ReadsAll h vs xs as → ∀ j (hj : j < vs.length), ∃ bs, Reads h vs[j] (xs.getD j .none) bs
  | _, _, _, .nil, j, hj => absurd hj (Nat.not_lt_zero _)
  | _, _, _, .cons r rs, 0, _ => ⟨_, r⟩
  | _, _, _, .cons r rs, j + 1, hj => reads_at rs j (Nat.lt_of_succ_lt_succ hj)
theorem depth_at : ∀ (xs : List PyData) (j : Nat), (xs.getD j .none).depth ≤ PyData.depthAll xs
  | [], j => by simp [PyData.depth]
  | x :: xs, 0 => by simp only [List.getD_cons_zero, PyData.depthAll]; omega
  | x :: xs, j + 1 => by
    have := depth_at xs j
    simp only [List.getD_cons_succ, PyData.depthAll]
    omega
theorem pairEq_at (xs ys : List PyData) (j : Nat) : pairEq xs ys j = PyData.eqv (xs.getD j .none) (ys.getD j .none) := rfl
theorem rcLe_weak {A : Around} {s : Shared} {a b : Value} {xs ys : List PyData} {as bs : List Addr} (ra : Reads s.heap a (.tuple xs) as) (rb : Reads s.heap b (.tuple ys) bs) (h : weakAll xs ys = true) (hu : A.units + 1 + min (PyData.depthAll xs) (PyData.depthAll ys) < cLine) : RcOp .LtE A s a b (!dataLt (.tuple ys) (.tuple xs)) := by
  cases ra with
  | @tuple l o vs n _ _ h1 h2 h3 h4 =>
    cases rb with
    | @tuple l' o' vs' n' _ _ k1 k2 k3 k4 =>
      have n1 : vs.size = xs.length := by simpa using ReadsAll.length _ _ _ h4
      have n2 : vs'.size = ys.length := by simpa using ReadsAll.length _ _ _ k4
      rw [dataLt_tuple, ← firstLe_weak xs ys h, ← n1, ← n2]
      have at_ : ∀ j (j1 : j < vs.size) (j2 : j < vs'.size), Upto (pairEq xs ys) j → (∃ bs, Reads s.heap vs[j] (xs.getD j .none) bs) ∧ (∃ bs, Reads s.heap vs'[j] (ys.getD j .none) bs) ∧ alike (xs.getD j .none) (ys.getD j .none) = true ∧ A.in1.units + min (xs.getD j .none).depth (ys.getD j .none).depth < cLine := fun j j1 j2 up => by
        obtain ⟨b1, r1⟩ := reads_at h4 j (by simpa using j1)
        obtain ⟨b2, r2⟩ := reads_at k4 j (by simpa using j2)
        refine ⟨⟨b1, by simpa using r1⟩, ⟨b2, by simpa using r2⟩, weak_at h j (by omega) (by omega) up, ?_⟩
        have d1 := depth_at xs j
        have d2 := depth_at ys j
        show A.units + 1 + _ < cLine
        omega
      refine rc_early ⟨_, h1, h2, _, h3⟩ ⟨_, k1, k2, _, k3⟩ (by omega) (fun j j1 j2 up => ?_) fun j j1 j2 up hj => ?_
      · obtain ⟨⟨_, r1⟩, ⟨_, r2⟩, al, hu'⟩ := at_ j j1 j2 up
        exact eqAt_alike _ _ _ _ _ _ _ _ r1 r2 al hu'
      · obtain ⟨⟨_, r1⟩, ⟨_, r2⟩, al, hu'⟩ := at_ j j1 j2 up
        exact rcLe_alike _ _ _ _ _ _ _ _ r1 r2 al (ne_none_of al hj) hu'
end Ev

namespace Ev
open PySem PySem.Spec PyProof.Rows L2

/-! ### dict(a list of pairs) -/
def pairsD : List PyData → Option (List (Key × PyData))
  | [] => some []
  | .tuple [k, v] :: ds => (match keyD k, pairsD ds with
    | some q, some r => some ((q, v) :: r)
    | _, _ => none)
  | _ => none
def dictV : Op1 := fun xs M => match xs with
  | [x] => (match peek M x with
    | some d => (match itemsOf d with
      | some ds => (match pairsD ds with
        | some kvs => .ok (.ref M.length) (M ++ [.dct (mergeP [] kvs)])
        | none => .bad)
      | none => .bad)
    | none => .bad)
  | _ => .bad
theorem new_dctK {K : PySem.W.Frag} {W : Wd} {H : Hp} {M : Sto} (R : RelM K W H M) {p : Addr} (hp : H p = none) {vs : List (Key × V)} {kvs : List (Key × PyData)} (d : KvR K W.Z vs kvs) : ∃ W', W.le W' ∧ RelM K W' (upd H p (.dK vs)) (M ++ [.dct kvs]) ∧ VlR K W' (.ref p) (.ref M.length) := by
  obtain ⟨R3, l3, e3⟩ := R.newM hp (o := .dK vs) (c := .dct kvs) ⟨R.Znone hp, vs, upd_same, d⟩
  exact ⟨_, l3, R3, p, rfl, e3⟩
theorem key_at {K : PySem.W.Frag} {Z : Hp} {v : V} {k : PyData} {q : Key} (h : Dq K Z v k) (e : keyD k = some q) : v = kV q := by
  cases h with
  | str x => cases e; rfl
  | int i => cases e; rfl
  | _ => cases e
theorem pairs_at {K : PySem.W.Frag} {Z : Hp} : ∀ {vs : List V} {ds : List PyData} {kvs : List (Key × PyData)}, DqAll K Z vs ds → pairsD ds = some kvs →
    ∃ (ps : List Addr) (ws : List (Key × V)), vs = ps.map V.ref ∧ Paired (fun p kv => SqT K Z p [kV kv.1, kv.2]) ps ws ∧ KvR K Z ws kvs
  | _, _, _, .nil, e => by
    cases e
    exact ⟨[], [], rfl, .nil, .nil⟩
  | _, _, kvs, .cons (d := d) (ds := ds) h t, e => by
    cases h with
    | tup hs hd =>
      rename_i a xs es
      cases hd with
      | nil => simp [pairsD] at e
      | cons h1 t1 =>
        cases t1 with
        | nil => simp [pairsD] at e
        | cons h2 t2 =>
          cases t2 with
          | cons _ _ => simp [pairsD] at e
          | nil =>
            rename_i v1 k1 v2 d2
            simp only [pairsD] at e
            cases e1 : keyD k1 with
            | none => rw [e1] at e; cases e
            | some q =>
              cases e2 : pairsD ds with
              | none => rw [e1, e2] at e; cases e
              | some r =>
                rw [e1, e2] at e
                cases e
                obtain ⟨ps, ws, rfl, p1, p2⟩ := pairs_at t e2
                have ek := key_at h1 e1
                subst ek
                exact ⟨a :: ps, (q, v2) :: ws, rfl, .cons hs.sq p1, .cons ⟨rfl, h2⟩ p2⟩
    | _ => simp [pairsD] at e
section
variable {X : Cx} {W0 : WX}
theorem tupP {pins : List (Addr × Obj)} {σ : L2.St} {H : Hp} {s : Shared} (I : Inv X pins σ H s) {a : Addr} {xs : List V} (h : TpP X.K H a xs) : ∃ us : List Value, Vals xs us ∧ PlainSeq "tuple" s.heap a us.toArray ∧ xs.length ≤ sizeLine := by
  rcases h with ⟨o, hd, e⟩ | ⟨o, its, n, hk, hc, hd, hs, hz, r⟩
  · obtain ⟨ho, hz, us, r, o', ho', hc, n, hdat⟩ := I.hok a _ e
    rw [ho] at ho'
    cases ho'
    exact ⟨us, r, ⟨o, n, ho, hc, hd, hdat⟩, hz⟩
  · refine ⟨its.toList, r, ⟨o, n, I.kIn a o hk, hc, hd, by simpa using hs⟩, ?_⟩
    have := r.length
    simp only [Array.length_toList] at this
    omega
theorem pairs_have {pins : List (Addr × Obj)} {σ : L2.St} {H : Hp} {s : Shared} (I : Inv X pins σ H s) : ∀ {ps : List Addr} {kvs : List (Key × V)}, Paired (fun p kv => SqT X.K H p [kV kv.1, kv.2]) ps kvs →
    ∃ prs : List (Key × Value × Value), KV kvs (prs.map fun p => (p.1, p.2.2)) ∧ prs.length = ps.length ∧ ∀ (j : Nat) (q : Key × Value × Value), prs[j]? = some q → ∃ b : Addr, ps[j]? = some b ∧ IsTup s.heap b #[q.2.1, q.2.2] ∧ keyIs q.1 q.2.1 = true
  | _, _, .nil => ⟨[], .nil, rfl, fun j q e => by simp at e⟩
  | _, _, .cons (a := p) (b := kv) h t => by
    obtain ⟨prs, r, hl, hp⟩ := pairs_have I t
    obtain ⟨its, rv, ht, _⟩ := I.tuple h
    obtain ⟨u, y, ei, ru, ry⟩ := vals2 rv
    subst ei
    refine ⟨(kv.1, u, y) :: prs, .cons ⟨rfl, ry⟩ r, congrArg Nat.succ hl, fun j q e => ?_⟩
    cases j with
    | zero =>
      cases e
      exact ⟨p, rfl, ht, kV_is (P := X.prog) (w := X.w) ru⟩
    | succ j =>
      obtain ⟨b, e1, e2, e3⟩ := hp j q (by simpa using e)
      exact ⟨b, by simpa using e1, e2, e3⟩
theorem call_dictT (hcalm : X.calm = true) : CallR X (.type "dict") (fun xs H Q => ∃ (a : Addr) (ps : List Addr) (kvs : List (Key × V)), xs = [.ref a] ∧ TpP X.K H a (ps.map V.ref) ∧ Paired (fun p kv => SqT X.K H p [kV kv.1, kv.2]) ps kvs ∧
    ∀ p, H p = none → Q (.ref p) (upd H p (.dK (mergeK [] kvs)))) := by
  intro pins s σ H xs us Q I r q
  obtain ⟨a, ps, kvs, rfl, hq, hp, q⟩ := q
  obtain ⟨u, rfl, rx⟩ := vals1 r
  cases rx
  obtain ⟨its, rv, pl, hz⟩ := tupP I hq
  obtain rfl := refs_at rv
  rw [List.length_map] at hz
  obtain ⟨prs, rel, hl, hpr⟩ := pairs_have I hp
  have hsz : (ps.map Value.ref).toArray.size = (prs.map fun p => (p.2.1, p.2.2)).length := by simp [hl]
  refine PySem.call_dict_pairs (knd := mixKind X.prog X.w) (kvs := prs.map fun p => (p.1, p.2.2)) (PairArg.tuple a (ps.map Value.ref).toArray (fun j => ps.getD j 0) (prs.map fun p => (p.2.1, p.2.2))) (I.ok.hd hcalm) ⟨pl, hsz, fun j k v e => ?_⟩ ⟨by simp, fun i key v e => ?_⟩ (by simp only [List.length_map]; omega) fun h' tk hd' k => ?_
  · rw [List.getElem?_map] at e
    cases e1 : prs[j]? with
    | none => rw [e1] at e; cases e
    | some q =>
      rw [e1] at e
      cases e
      obtain ⟨b, e2, e3, _⟩ := hpr j q e1
      refine ⟨by simp [e2], .inl ?_⟩
      show s.heap.IsTuple (ps.getD j 0) _
      rw [List.getD_eq_getElem?_getD, e2]
      exact e3
  · have e : (prs.map fun p => (p.2.1, p.2.2))[i]? = some (key, v) := e
    rw [List.getElem?_map] at e
    cases e1 : prs[i]? with
    | none => rw [e1] at e; cases e
    | some q =>
      rw [e1] at e
      cases e
      obtain ⟨b, _, _, e4⟩ := hpr i q e1
      exact ⟨q.1, by rw [List.getElem?_map, e1]; rfl, e4⟩
  · have hm : (s.heap.objs.size == sysModules) = false := beq_eq_false_iff_ne.mpr (Nat.ne_of_gt I.big)
    have hlen : (mergeK [] kvs).length ≤ sizeLine := by
      refine Nat.le_trans (length_mergeK kvs []) ?_
      rw [List.length_nil, Nat.zero_add, rel.length, List.length_map, hl]
      exact hz
    exact ⟨.ref s.heap.objs.size, upd H s.heap.objs.size (.dK (mergeK [] kvs)), I.laid (t' := tk) (fun b o e => k b o (fun z => nomatch z) e) (Nat.le_refl _) (show ObjOk X.prog X.w _ _ _ (.dK (mergeK [] kvs)) from ⟨hlen, hm, _, KV.merge rel .nil, hd'⟩), rfl, q _ (I.hok.fresh (Nat.le_refl _))⟩
theorem call_dictV (hc : X.calm = true) : CallR X (.type "dict") (aC X.K W0 dictV) := by
  intro pins s σ H xs us Q I r h
  obtain ⟨W, M, σ', vs, R, rv, P⟩ := h
  match vs, rv, P with
  | [], _, P1 => exact P1.elim
  | _ :: _ :: _, _, P1 => exact P1.elim
  | [v], rv, P1 =>
    obtain ⟨x, rfl, rx⟩ := vlsR_one rv
    simp only [dictV] at P1
    cases e : peek M v with
    | none => rw [e] at P1; exact P1.elim
    | some d =>
      have pk := peek_pk R rx e
      rw [e] at P1
      dsimp only at P1
      cases e0 : itemsOf d with
      | none => rw [e0] at P1; exact P1.elim
      | some ds =>
        rw [e0] at P1
        dsimp only at P1
        cases e1 : pairsD ds with
        | none => rw [e1] at P1; exact P1.elim
        | some kvs =>
          rw [e1] at P1
          cases d with
          | list ds' =>
            cases e0
            obtain ⟨a, ws, rfl, ha, hd⟩ := pk.list R
            obtain ⟨ps, us', rfl, p1, p2⟩ := pairs_at hd e1
            refine call_dictP hc pins s σ H _ us Q I r ⟨a, ps, us', rfl, ha, paired_mono p1 fun p kv h => Same.seqT R.sub h, fun p hp => ?_⟩
            obtain ⟨W3, l3, R3, r3⟩ := new_dctK R hp (kv_merge p2 .nil)
            exact P1 _ _ W3 l3 R3 r3
          | tuple ds' =>
            cases e0
            obtain ⟨a, ws, rfl, ha, _, hd⟩ := pk.tuple R
            obtain ⟨ps, us', rfl, p1, p2⟩ := pairs_at hd e1
            refine call_dictT hc pins s σ H _ us Q I r ⟨a, ps, us', rfl, ha.mono R.sub, paired_mono p1 fun p kv h => Same.seqT R.sub h, fun p hp => ?_⟩
            obtain ⟨W3, l3, R3, r3⟩ := new_dctK R hp (kv_merge p2 .nil)
            exact P1 _ _ W3 l3 R3 r3
          | _ => cases e0
end
/-! ### dict.get, list.insert, {} -/
def getV : OpM := fun x vs M => match dctAt M x with
  | some kvs => (match vs with
    | [k] => (match peek M k with
      | some k => (match keyD k with
        | some q => .ok (.d ((getP kvs q).getD .none)) M
        | none => .bad)
      | none => .bad)
    | [k, .d e] => (match peek M k with
      | some k => (match keyD k with
        | some q => .ok (.d ((getP kvs q).getD e)) M
        | none => .bad)
      | none => .bad)
    | _ => .bad)
  | none => .bad
def insertV : OpM := fun x vs M => match vs with
  | [.d (.int i), v] => (match toD M v with
    | some (d, M1) => (match lstAt M1 x with
      | some (n, xs) => if xs.length < sizeLine ∧ 0 ≤ i ∧ i < 2 ^ 63 then .ok (.d .none) (M1.set n (.lst (xs.take i.toNat ++ [d] ++ xs.drop i.toNat))) else .bad
      | none => .bad)
    | none => .bad)
  | _ => .bad
section
variable {X : Cx} {W0 : WX}
theorem mt_getV (hu : X.A.units + 1 < cLine) : MtR X "dict.get" (aM X.K W0 getV) := by
  intro pins s σ H x xs v us Q I rx rs h
  obtain ⟨W, M, σ', y, vs, R, r1, r2, P⟩ := h
  simp only [getV] at P
  cases e : dctAt M y with
  | none => rw [e] at P; exact P.elim
  | some kvs =>
    rw [e] at P
    obtain ⟨n, a, ks, ey, ex, hm, z, h1, h2⟩ := dctAt_ok R r1 e
    subst ex
    obtain rfl : v = Value.ref a := rx
    have val : ∀ (q : Key) (w : V) (e : PyData), Dq X.K W.Z w e → Dq X.K W.Z ((valV ks q).getD w) ((getP kvs q).getD e) := by
      intro q w e hw
      cases eg : getP kvs q with
      | none => rw [(kv_get q h2).2 eg]; exact hw
      | some d => obtain ⟨u, hu, hd⟩ := (kv_get q h2).1 d eg; rw [hu]; exact hd
    dsimp only at P
    split at P
    · rename_i k
      obtain ⟨u, eu, ru⟩ := vlsR_one r2
      subst eu
      obtain ⟨u', eu', ru'⟩ := rs.one
      subst eu'
      cases e2 : peek M k with
      | none => rw [e2] at P; exact P.elim
      | some k' =>
        rw [e2] at P
        dsimp only at P
        cases e3 : keyD k' with
        | none => rw [e3] at P; exact P.elim
        | some q =>
          rw [e3] at P
          have ek := keyD_ok (peek_pk R ru e2) e3
          subst ek
          exact d_get1 hu I (DGet.k (k := q) h1) ru' fun w' s' I' rw' => ⟨_, H, I', rw', P _ H W (Wd.le.refl _) R (val q .non .none .non)⟩
    · rename_i k e0
      obtain ⟨u, w, eu, ru, rw0⟩ := vlsR_two r2
      subst eu
      obtain ⟨u', w', eu', ru', rw'⟩ := rs.two
      subst eu'
      cases e2 : peek M k with
      | none => rw [e2] at P; exact P.elim
      | some k' =>
        rw [e2] at P
        dsimp only at P
        cases e3 : keyD k' with
        | none => rw [e3] at P; exact P.elim
        | some q =>
          rw [e3] at P
          have ek := keyD_ok (peek_pk R ru e2) e3
          subst ek
          exact d_get2 hu I (DGet.k (k := q) h1) ru' rw' fun w2 s' I' rw2 => ⟨_, H, I', rw2, P _ H W (Wd.le.refl _) R (val q w e0 rw0)⟩
    · exact P.elim
theorem mt_insertV : MtR X "list.insert" (aM X.K W0 insertV) := by
  intro pins s σ H x xs v us Q I rx rs h
  obtain ⟨W, M, σ', y, vs, R, r1, r2, P⟩ := h
  simp only [insertV] at P
  split at P
  · rename_i i w
    obtain ⟨u, z, ez, ru, rz⟩ := vlsR_two r2
    subst ez
    have ru : Dq X.K W.Z u (.int i) := ru
    cases ru
    cases e : toD M w with
    | none => rw [e] at P; exact P.elim
    | some p =>
      obtain ⟨d, M1⟩ := p
      rw [e] at P
      dsimp only at P
      obtain ⟨W1, l1, R1, dz⟩ := toD_dp R rz e
      cases e2 : lstAt M1 y with
      | none => rw [e2] at P; exact P.elim
      | some p2 =>
        obtain ⟨n, ys⟩ := p2
        rw [e2] at P
        obtain ⟨a, ws, ey, ex, hm, hz, hH, hd⟩ := lstAt_ok R1 (r1.mono l1) e2
        subst ex
        obtain ⟨hc, P2⟩ := if_post P
        exact L2.mt_insert pins s σ H _ _ v us Q I rx rs ⟨a, ws, i, z, rfl, rfl, hH, by rw [hd.length]; exact hc.1, hc.2.1, hc.2.2, P2 _ _ W1 l1 (set_lst R1 hm hz (((hd.take _).append (.cons dz .nil)).append (hd.drop _))) .non⟩
  · exact P.elim
theorem se_disp0 {pos : Pos} : SE X W0 (.Dict [] [] pos) gDisp0 := by
  refine PE.mono pe_dnewK fun σ H Q hq p hp => ?_
  obtain ⟨ρ, M, W, R, S, P⟩ := hq
  obtain ⟨W', l', R', e'⟩ := new_dct R hp
  exact P _ _ W' l' R' ⟨p, rfl, e'⟩
end
end Ev

namespace Ev
open PySem PySem.Spec PyProof.Rows L2 PySem.W

/-! ### sets of ints and texts -/
def keyVal : Value → Key
  | .int k _ => .inl k
  | .str x _ => .inr x
  | _ => .inl 0
abbrev eKey (e : Int × Value) : Key := keyVal e.2
theorem keyVal_of {k : Key} {v : Value} (h : keyIs k v = true) : keyVal v = k := by
  rcases keyIs_shape h with ⟨i, t, rfl, rfl⟩ | ⟨x, t, rfl, rfl⟩ <;> rfl
theorem key_scannable {k : Key} {v : Value} (h : keyIs k v = true) : v.scannable = true := by
  rcases keyIs_shape h with ⟨i, t, rfl, rfl⟩ | ⟨x, t, rfl, rfl⟩ <;> rfl
def GoodK (w : World) (e : Int × Value) : Prop := keyIs (eKey e) e.2 = true ∧ e.1 = keyH w (eKey e)
def SetM (w : World) (h : Heap) (a : Addr) (ks : List Key) : Prop :=
  ∃ o es ep t, h.get? a = some o ∧ o.ExactSet ∧ o.data = .set es ep t ∧ (∀ e ∈ es.toList, GoodK w e) ∧ (es.toList.map eKey).Perm ks ∧ ks.Nodup ∧ es.size < scanBound ∧ t.fits es.size = true ∧ Ris t.place.toList ∧ (w.params.followText "set-order" = true ∨ t.led = true)
def hasK (ks : List Key) (k : Key) : Bool := ks.any fun q => decide (q = k)
theorem hasK_iff {ks : List Key} {k : Key} : hasK ks k = true ↔ k ∈ ks := by
  unfold hasK
  rw [List.any_eq_true]
  exact ⟨fun ⟨q, hq, e⟩ => (of_decide_eq_true e) ▸ hq, fun h => ⟨k, h, decide_eq_true rfl⟩⟩
def addK (ks : List Key) (k : Key) : List Key := if hasK ks k then ks else ks ++ [k]
theorem addK_len (ks : List Key) (k : Key) : (addK ks k).length ≤ ks.length + 1 := by
  unfold addK; split
  · exact Nat.le_succ _
  · rw [List.length_append]; exact Nat.le_refl _
theorem addK_nodup {ks : List Key} (k : Key) (h : ks.Nodup) : (addK ks k).Nodup := by
  unfold addK; split
  · exact h
  · rename_i hk
    rw [List.nodup_append]
    refine ⟨h, by simp, fun a ha b hb e => hk (hasK_iff.mpr ?_)⟩
    have : b = k := by simpa using hb
    rw [← this, ← e]
    exact ha
theorem SetM.at {w : World} {h h' : Heap} {a : Addr} {ks : List Key} (R : SetM w h a ks) (k : ∀ o, h.get? a = some o → h'.get? a = some o) : SetM w h' a ks := by
  obtain ⟨o, es, ep, t, ho, r⟩ := R
  exact ⟨o, es, ep, t, k o ho, r⟩
section
variable {P : Program} {w : World} {A : Around} {E : Value → Shared → Prop} {s : Shared} {a : Addr} {ks : List Key}
theorem good_el {l : List (Int × Value)} (g : ∀ e ∈ l, GoodK w e) : ElemsOf (mixKind P w) l := fun e he => ⟨⟨_, (g e he).1, (g e he).2⟩, key_scannable (g e he).1⟩
theorem setM_tail {g : Bool → Sem Unit} (hg : ∀ (b : Bool) (s₁ : Shared) (Q' : Unit → Shared → Prop), Q' () s₁ → wpAny (model P w) A (g b) Q' E s₁)
    {o : Obj} {es : Array (Int × Value)} {ep : Nat} {t : SetTable} (ho : s.heap.get? a = some o) (hex : o.ExactSet) (hd : o.data = .set es ep t)
    {es1 : Array (Int × Value)} {t2 : SetTable} (g1 : ∀ e ∈ es1.toList, GoodK w e) (p1 : (es1.toList.map eKey).Perm ks) (nd : ks.Nodup)
    (hb1 : es1.size < scanBound) (hf2 : t2.fits es1.size = true) (hr : Ris t2.place.toList) (hl : w.params.followText "set-order" = true ∨ t2.led = true) {wasDummy : Bool} {R : Option Bool → Shared → Prop}
    (hR : ∀ h', Heap.SameBut a s.heap h' → SetM w h' a ks → R (some true) { s with heap := h' }) :
    wpAny (model P w) A (do
        storeSet a es1 t2
        if (!wasDummy && t2.tooFull) = true then do
            g (relayAll t2 es1 (SetTable.grown es1.size)).2.2
            storeSet a (relayAll t2 es1 (SetTable.grown es1.size)).1 (relayAll t2 es1 (SetTable.grown es1.size)).2.1
            pure (some true)
          else pure (some true)) R E s := by
  refine wpAny_bind (wpAny_storeSet_of ho hd ?_ (fits_of_scanBound hb1))
  have ho1 := store_at (es' := es1) (t' := t2) ho hd
  have sb1 := Heap.SameBut.update s.heap a (Obj.putSet es1 t2)
  split
  · have pm := relayAll_perm t2 es1 (SetTable.grown es1.size)
    have f3 := relayAll_fits t2 es1 (SetTable.grown es1.size)
    have r3 := relayAll_ris t2 es1 (SetTable.grown es1.size)
    have l3 := relayAll_led t2 es1 (SetTable.grown es1.size)
    generalize relayAll t2 es1 (SetTable.grown es1.size) = Z at pm f3 r3 l3 ⊢
    obtain ⟨es2, t3, gave⟩ := Z
    dsimp only at pm f3 r3 l3 ⊢
    have hsz : es2.size = es1.size := by rw [← Array.length_toList, pm.length_eq, Array.length_toList]
    have hb2 : es2.size < scanBound := by rw [hsz]; exact hb1
    refine wpAny_bind (hg _ _ _ (wpAny_bind (wpAny_storeSet_of ho1 rfl ?_ (fits_of_scanBound hb2))))
    have ho2 := store_at (es' := es2) (t' := t3) ho1 rfl
    exact wpAny_pure (hR _ (sb1.trans (Heap.SameBut.update _ a _)) ⟨_, es2, _, t3, ho2, hex, rfl, fun e he => g1 e (pm.mem_iff.mp he), (pm.map eKey).trans p1, nd, hb2, f3, r3, hl.imp id fun z => by rw [l3]; exact z⟩)
  · exact wpAny_pure (hR _ sb1 ⟨_, es1, _, t2, ho1, hex, rfl, g1, p1, nd, hb1, hf2, hr, hl⟩)
theorem setM_add {k : Key} {x : Value} {Q : Bool → Shared → Prop} (hk : keyIs k x = true) (R : SetM w s.heap a ks) (room : ks.length + 1 < scanBound)
    (hQ : ∀ b h', Heap.SameBut a s.heap h' → SetM w h' a (addK ks k) → Q b { s with heap := h' }) :
    wpAny (model P w) A (setAddHashed a x ((mixKind P w).hash k)) Q E s := by
  obtain ⟨o, es, ep, t, ho, hex, hd, g, pm0, nd, hb, hf, hr, hl⟩ := R
  have hkey : (mixKind P w).is k x = true := hk
  have hsc := key_scannable hk
  have hel : ElemsOf (mixKind P w) es.toList := good_el g
  have hn : es.size = ks.length := by rw [← Array.length_toList, ← List.length_map (f := eKey), pm0.length_eq]
  unfold setAddHashed setAddHashedIn
  refine wpAny_holding (wpAny_bind (wpAny_setState_of ho hd hf ?_))
  dsimp only
  rw [byScan_of hsc hb hel]
  simp only [↓reduceIte]
  unfold setAddByScan
  refine wpAny_bind ?_
  refine wpAny_bind (wpAny_rule (wpAny_bind (wpAny_setScan_of hkey ho hd hf hel ?_)))
  have mem : k ∈ ks ↔ ∃ e ∈ es.toList, (mixKind P w).is k e.2 = true := by
    rw [← pm0.mem_iff, List.mem_map]
    exact ⟨fun ⟨e, he, q⟩ => ⟨e, he, by rw [← q]; exact (g e he).1⟩, fun ⟨e, he, q⟩ => ⟨e, he, keyVal_of q⟩⟩
  cases hfi : List.findIdx? (fun e => (mixKind P w).is k e.2) es.toList with
  | some j =>
    dsimp only
    obtain ⟨hj, pj, _⟩ := List.findIdx?_eq_some_iff_getElem.mp hfi
    have hm : k ∈ ks := mem.mpr ⟨es.toList[j], List.getElem_mem hj, pj⟩
    have q := hQ false s.heap (Heap.SameBut.refl a s.heap)
    unfold addK at q
    rw [if_pos (hasK_iff.mpr hm)] at q
    exact wpAny_pure (wpAny_pure (q ⟨o, es, ep, t, ho, hex, hd, g, pm0, nd, hb, hf, hr, hl⟩))
  | none =>
    dsimp only
    have hm : k ∉ ks := fun z => by
      obtain ⟨e, he, q⟩ := mem.mp z
      have c := List.findIdx?_eq_none_iff.mp hfi e he
      rw [q] at c
      cases c
    have hgw : ∀ (b : Bool) {s₁ : Shared} {Q' : Unit → Shared → Prop}, Q' () s₁ → wpAny (model P w) A (match b with | true => rule "set.scan.the-table-gave-way" | false => pure ()) Q' E s₁ :=
      fun b s₁ Q' q => by cases b <;> first | exact wpAny_pure q | exact wpAny_rule q
    have pm := layNew_perm t es ((mixKind P w).hash k) x
    have f1 := layNew_fits t es ((mixKind P w).hash k) x
    have r1 := layNew_ris t es ((mixKind P w).hash k) x hr
    have l1 := layNew_led t es ((mixKind P w).hash k) x
    generalize layNew t es ((mixKind P w).hash k) x = Z at pm f1 r1 l1 ⊢
    obtain ⟨es1, t1, wasDummy, gave⟩ := Z
    dsimp only at pm f1 r1 l1 ⊢
    rw [Array.toList_push] at pm
    have ek : eKey ((mixKind P w).hash k, x) = k := keyVal_of hk
    have g1 : ∀ e ∈ es1.toList, GoodK w e := fun e he => by
      rcases List.mem_append.mp (pm.mem_iff.mp he) with z | z
      · exact g e z
      · rw [List.mem_singleton.mp z]
        exact ⟨by rw [ek]; exact hk, by rw [ek]; rfl⟩
    have p1 : (es1.toList.map eKey).Perm (addK ks k) := by
      unfold addK
      rw [if_neg (fun z => hm (hasK_iff.mp z))]
      refine (pm.map eKey).trans ?_
      rw [List.map_append, List.map_singleton, ek]
      exact pm0.append_right _
    have n1 := addK_nodup k nd
    have hb1 : es1.size < scanBound := by
      rw [← Array.length_toList, pm.length_eq, List.length_append, Array.length_toList, hn]
      exact room
    have hled : w.params.followText "set-order" = true ∨ t1.led = true := hl.imp id fun z => by rw [l1]; exact z
    refine wpAny_bind (hgw _ ?_)
    split
    · refine wpAny_bind ?_
      rw [hashByValue_scannable 8 hsc]
      refine wpAny_pure ?_
      refine setM_tail ?_ ho hex hd g1 p1 n1 hb1 ?_ ?_ ?_ ?_
      · intro b s₁ Q' q; cases b <;> first | exact wpAny_pure q | exact wpAny_rule q
      · split <;> first | exact f1 | exact SetTable.fits_plain_off f1
      · split <;> exact r1
      · split <;> exact hled
      · intro h' sb r; exact wpAny_pure (hQ _ h' sb r)
    · refine wpAny_bind (wpAny_pure ?_)
      simp only [↓reduceIte]
      refine setM_tail ?_ ho hex hd g1 p1 n1 hb1 f1 r1 hled ?_
      · intro b s₁ Q' q; cases b <;> first | exact wpAny_pure q | exact wpAny_rule q
      · intro h' sb r; exact wpAny_pure (hQ _ h' sb r)
end
/-- the keys in the order met -/
def metK (ks : List Key) : List Key := ks.foldl addK []
theorem fold_len : ∀ (ks acc : List Key), (ks.foldl addK acc).length ≤ acc.length + ks.length
  | [], _ => Nat.le_refl _
  | k :: ks, acc => by
    have h1 := fold_len ks (addK acc k)
    have h2 := addK_len acc k
    rw [List.foldl_cons, List.length_cons]
    omega
theorem metK_take {ks : List Key} {i : Nat} {k : Key} (h : ks[i]? = some k) : metK (ks.take (i + 1)) = addK (metK (ks.take i)) k := by
  unfold metK
  rw [List.take_succ, h, List.foldl_append]
  rfl
section
variable {prog : Program} {w : World} {A : Around} {R : Result → Shared → Prop} {I : Addr} {fp wr : List Addr} {G : Array GenState → Array GenState → Prop} {n : Nat} {Pv : Nat → Value → Prop} {St : Nat → Shared → Prop}
theorem setM_loop (W : WalksS prog w A.in1 I fp wr G n Pv St) (S : Addr) (hSf : S ∉ fp) (ks : List Key) (hn : ks.length = n) (hval : ∀ i v, Pv i v → ∃ k, ks[i]? = some k ∧ keyIs k v = true) (hb : n + 1 < scanBound) :
    ∀ (k i : Nat) (s : Shared), n - i = k → i ≤ n → St i s → SetM w s.heap S (metK (ks.take i)) →
      (∀ s', Moved (S :: wr) G s s' → SetM w s'.heap S (metK ks) → R (.ok (.ret .none)) s') →
      codeAny (model prog w) A (.builtin "set.update.loop" ⟨[.ref S, .ref I], []⟩) R s := by
  have hSw : S ∉ wr := fun h => hSf (W.sub _ h)
  have sub : ∀ b ∈ wr, b ∈ S :: wr := fun b hb => List.mem_cons_of_mem _ hb
  intro k
  induction k with
  | zero =>
    intro i s hk hi hst hS hR
    obtain rfl : i = n := by omega
    refine codeAny_builtin PyProof.Rows.F.entry_set_update_loop ?_
    rw [Around.under_plainId PyProof.Rows.F.plain_set_update_loop _]
    show wpAny _ A.in1 (pyNext (.ref I) >>= _) _ _ s
    refine wpAny_bind (W.done s _ _ hst fun s' hm => ?_)
    show wpAny _ A.in1 (ret Value.none) _ _ s'
    rw [List.take_of_length_le (Nat.le_of_eq hn)] at hS
    exact wpAny_pure (hR s' (hm.mono sub) (hS.at fun o e => hm.heap S o hSw e))
  | succ k ih =>
    intro i s hk hi hst hS hR
    have hlt : i < n := by omega
    refine codeAny_builtin PyProof.Rows.F.entry_set_update_loop ?_
    rw [Around.under_plainId PyProof.Rows.F.plain_set_update_loop _]
    show wpAny _ A.in1 (pyNext (.ref I) >>= _) _ _ s
    refine wpAny_bind (W.item i s _ _ hlt hst fun v s' hP hst' hm => ?_)
    obtain ⟨q, hq, hkv⟩ := hval i v hP
    have hS' : SetM w s'.heap S (metK (ks.take i)) := hS.at fun o e => hm.heap S o hSw e
    show wpAny _ A.in1 (holding [v] (setAdd S v) >>= _) _ _ s'
    refine wpAny_bind (wpAny_holding ?_)
    unfold setAdd
    refine wpAny_holding (wpAny_bind ((mixKind prog w).pyHash (k := q) hkv ?_))
    have room : (metK (ks.take i)).length + 1 < scanBound := by
      have := fold_len (ks.take i) []
      rw [List.length_take, List.length_nil] at this
      unfold metK
      omega
    refine setM_add (s := { s' with toks := s'.toks + 1 }) hkv hS' room fun b h' sb hS2 => ?_
    rw [← metK_take hq] at hS2
    refine wpAny_pure ⟨plainId_quiet PyProof.Rows.F.plain_set_update_loop _, ih (i + 1) _ (by omega) hlt (W.frame _ s' _ _ hst' (Nat.le_succ _) fun b hb o e => ?_) hS2 fun s'' hm'' hS'' => ?_⟩
    · rw [sb.2 b (fun z : b = S => hSf (z ▸ hb))]; exact e
    · refine hR s'' (Moved.trans W.gtrans ((hm.mono sub).then_heap (Nat.le_succ _) fun b o hb e => ?_) hm'') hS''
      rw [sb.2 b (fun z : b = S => hb (by rw [z]; exact List.mem_cons_self))]; exact e
end

abbrev setO0 (w : World) : Obj := { cls := .type "set", dict := none, data := .set #[] 0 (.fresh 0 0 (!w.params.followText "set-order")) }
section
variable {P : Program} {w : World} {A : Around} {E : Value → Shared → Prop} {s : Shared}
theorem setM_fresh {h : Heap} {a : Addr} (ho : h.get? a = some { cls := .type "set", dict := none, data := .set #[] 0 (.fresh 0 0 (!w.params.followText "set-order")) }) : SetM w h a [] :=
  ⟨_, #[], 0, _, ho, ⟨rfl, rfl, rfl⟩, rfl, (fun e he => by simp at he), List.Perm.nil, List.nodup_nil, (by decide), (by rfl), List.Pairwise.nil, by
    show _ ∨ (!w.params.followText "set-order") = true
    cases w.params.followText "set-order"
    · exact .inr rfl
    · exact .inl rfl⟩
/-- set(xs), xs a list of ints and texts -/
theorem call_setM {l : Addr} {items : Array Value} (ks : List Key) {Q : Value → Shared → Prop} (hh : A.handled = none) (hl : s.heap.IsList l items) (hn : ks.length = items.size) (hv : ∀ (i : Nat) (v : Value), items[i]? = some v → ∃ k, ks[i]? = some k ∧ keyIs k v = true) (hb : ks.length + 1 < scanBound)
    (h : ∀ (h' : Heap) (tk : Nat), SetM w h' s.heap.objs.size (metK ks) → (∀ b o, s.heap.get? b = some o → h'.get? b = some o) → Q (.ref s.heap.objs.size) { s with heap := h', toks := tk }) :
    wpAny (model P w) A (call (.type "set") [.ref l]) Q E s := by
  obtain ⟨c, tl, hmro⟩ := PySem.F.called_set.mro
  have hmade := PySem.F.called_set.made
  have hsub := PySem.F.called_set.sub
  refine wpAny_call (codeAny_of_tree ?_)
  show wpAny _ _ (callAny (.type "set") _) _ _ _
  refine wpAny_pure ⟨Code.quiet_builtin _ (by decide +kernel), codeAny_builtin PySem.F.entry_type_call ?_⟩
  rw [Around.under_plain (weight_type_call_type "set" [.ref l] []) rfl]
  have h1 := PySem.F.called_set.notType
  have h2 := PySem.F.called_set.canCreate
  have hct := PySem.F.typeCall_set_1 (.ref l)
  repeat (any_goals (first | assumption | wp_step))
  refine codeAny_mono (code_set_led1 (.ref l) (E := E) (Q₁ := fun obj s₁ => obj = .ref s.heap.objs.size ∧ s₁ = { s with heap := s.heap.push { cls := .type "set", dict := none, data := .set #[] 0 (.fresh 0 0 (!w.params.followText "set-order")) } }) ⟨rfl, rfl⟩) fun r s₁ hr => ?_
  cases r with
  | error e => exact hr
  | ok fl =>
    cases fl with
    | ret obj =>
      obtain ⟨rfl, rfl⟩ := hr
      have hS : (s.heap.push (setO0 w)).get? s.heap.objs.size = some (setO0 w) := Heap.get?_push_size _ rfl
      have hT : Shared.TypeIs { s with heap := s.heap.push (setO0 w) } (.ref s.heap.objs.size) "set" := ⟨_, hS, rfl⟩
      have hli := PySem.F.called_set.init.lookup
      have hbi := PySem.F.called_set.init.bind (.ref s.heap.objs.size)
      repeat (any_goals (first | assumption | wp_step))
      refine codeAny_mono (codeAny_call_builtin (R := wants (fun r s₂ => r = .none ∧ ∃ h' tk, s₂ = { s with heap := h', toks := tk } ∧ SetM w h' s.heap.objs.size (metK ks) ∧ (∀ b o, s.heap.get? b = some o → h'.get? b = some o)) E) PySem.F.called_set.init.plain PySem.F.entry_set_init (check_set_init_1 hT ?_)) fun r₂ s₂ hr₂ => ?_
      · obtain ⟨ol, hol, hcl, nl, hdl⟩ := hl
        obtain ⟨ocls, odict, odata, oslots⟩ := ol
        simp only at hcl hdl
        subst hcl; subst hdl
        have hol' : (s.heap.push (setO0 w)).get? l = some { cls := .type "list", dict := odict, data := .seq items nl, slots := oslots } := Heap.get?_push_of_some _ hol
        have hsls := PySem.F.sub_list_set
        have hslf := PySem.F.sub_list_frozenset
        have hne : (Value.type "list" == Value.type "dict") = false := by decide
        have hl1 : (s.heap.push (setO0 w)).IsList l items := ⟨_, hol', rfl, nl, rfl⟩
        unfold Builtin.«set.__init__» noKeywords Builtin.Frozenset.updateFrom
        generalize hPI : pyIter = PI
        wp_walk
        subst hPI
        refine wpAny_pyIter_list hl1 ?_
        refine wpAny_bind (wpAny_runValue ?_)
        have hlS : l < s.heap.objs.size := Heap.lt_size hol
        have hh3 : A.in1.in1.in1.handled = none := by simp [hh]
        have hz1 : (s.heap.push (setO0 w)).objs.size = s.heap.objs.size + 1 := Heap.size_push ..
        have hneI : l ≠ (s.heap.push (setO0 w)).objs.size := by rw [hz1]; exact Nat.ne_of_lt (Nat.lt_succ_of_lt hlS)
        have hSf : s.heap.objs.size ∉ [(s.heap.push (setO0 w)).objs.size, l] := by
          rw [hz1]; simp only [List.mem_cons, List.not_mem_nil, or_false, not_or]
          exact ⟨Nat.ne_of_lt (Nat.lt_succ_self _), Nat.ne_of_gt hlS⟩
        refine setM_loop ((Walks.list hh3 _ l hneI items).toS) s.heap.objs.size hSf ks hn (fun i v hP => hv i v hP) (by omega) (items.size - 0) 0 _ (by omega) (Nat.zero_le _)
          ⟨⟨_, Heap.get?_push_size _ rfl, rfl, rfl⟩, hl1.push _⟩ (setM_fresh (Heap.get?_push_of_some _ hS)) fun s' hm hS' => ?_
        obtain ⟨h', g2, d', tk', os'⟩ := s'
        obtain rfl : g2 = s.gens := hm.gens
        obtain rfl : d' = s.drawn := hm.drawn
        obtain rfl : os' = s.os := hm.os
        show wpAny _ _ _ _ _ _
        refine wpAny_pure ?_
        show wpAny _ _ (ret Value.none) _ _ _
        refine wpAny_pure ⟨rfl, h', tk', rfl, hS', fun b o e => hm.heap b o ?_ (Heap.get?_push_of_some _ (Heap.get?_push_of_some _ e))⟩
        have hbl := Heap.lt_size e
        rw [hz1]
        simp only [List.mem_cons, List.not_mem_nil, or_false, not_or]
        exact ⟨Nat.ne_of_lt hbl, Nat.ne_of_lt (Nat.lt_succ_of_lt hbl)⟩
      · cases r₂ with
        | error e => exact hr₂
        | ok fl₂ =>
          cases fl₂ with
          | ret r =>
            obtain ⟨rfl, h', tk, rfl, hS', hk'⟩ := hr₂
            repeat (any_goals (first | assumption | wp_step))
            exact h _ _ hS' hk'
          | _ => exact hr₂.elim
    | _ => exact hr.elim
end
end Ev

namespace Ev
open PySem PySem.Spec PyProof.Rows L2 PySem.W

/-! ### sorted(set(xs)) -/
theorem sort_perm {β : Type} {le : β → β → Bool} (tr : ∀ a b c, le a b = true → le b c = true → le a c = true) (to : ∀ a b, (le a b || le b a) = true) (an : ∀ a b, le a b = true → le b a = true → a = b) {l1 l2 : List β} (h : l1.Perm l2) : l1.mergeSort le = l2.mergeSort le :=
  List.Perm.eq_of_pairwise (fun a b _ _ => an a b) (List.pairwise_mergeSort tr to l1) (List.pairwise_mergeSort tr to l2) ((List.mergeSort_perm l1 le).trans (h.trans (List.mergeSort_perm l2 le).symm))
def leI (a b : Int) : Bool := decide (a ≤ b)
def leS (a b : Str) : Bool := decide (a.cps.toList ≤ b.cps.toList)
theorem sortI_perm {l1 l2 : List Int} (h : l1.Perm l2) : l1.mergeSort leI = l2.mergeSort leI :=
  sort_perm (fun a b c h1 h2 => by simp only [leI, decide_eq_true_eq] at *; omega) (fun a b => by simp only [leI, Bool.or_eq_true, decide_eq_true_eq]; omega) (fun a b h1 h2 => by simp only [leI, decide_eq_true_eq] at *; omega) h
theorem str_ext {a b : Str} (h : a.cps.toList = b.cps.toList) : a = b := by
  cases a; cases b
  simp only at h
  rw [Array.toList_inj.mp h]
theorem sortS_perm {l1 l2 : List Str} (h : l1.Perm l2) : l1.mergeSort leS = l2.mergeSort leS :=
  sort_perm (fun a b c h1 h2 => by simp only [leS, decide_eq_true_eq] at *; exact List.le_trans h1 h2) (fun a b => by simp only [leS, Bool.or_eq_true, decide_eq_true_eq]; exact List.le_total _ _) (fun a b h1 h2 => by simp only [leS, decide_eq_true_eq] at *; exact str_ext (List.le_antisymm h1 h2)) h
def intKs : List Key → Option (List Int)
  | [] => some []
  | .inl i :: r => (intKs r).map (i :: ·)
  | _ => none
def strKs : List Key → Option (List Str)
  | [] => some []
  | .inr i :: r => (strKs r).map (i :: ·)
  | _ => none
theorem intKs_ok : ∀ {ks : List Key} {ns : List Int}, intKs ks = some ns → ks = ns.map Sum.inl
  | [], _, h => by cases h; rfl
  | .inl i :: r, _, h => by
    simp only [intKs] at h
    cases e : intKs r with
    | none => rw [e] at h; cases h
    | some l => rw [e] at h; cases h; rw [intKs_ok e]; rfl
  | .inr _ :: _, _, h => by cases h
theorem strKs_ok : ∀ {ks : List Key} {ns : List Str}, strKs ks = some ns → ks = ns.map Sum.inr
  | [], _, h => by cases h; rfl
  | .inr i :: r, _, h => by
    simp only [strKs] at h
    cases e : strKs r with
    | none => rw [e] at h; cases h
    | some l => rw [e] at h; cases h; rw [strKs_ok e]; rfl
  | .inl _ :: _, _, h => by cases h
def keysD : List PyData → Option (List Key)
  | [] => some []
  | d :: ds => match keyD d, keysD ds with
    | some k, some ks => some (k :: ks)
    | _, _ => none
/-- the members, sorted -/
def sortKs (ks : List Key) : Option (List PyData) := match intKs ks with
  | some ns => some ((ns.mergeSort leI).map .int)
  | none => match strKs ks with
    | some xs => some ((xs.mergeSort leS).map .str)
    | none => none
def ssetD : PyData → Option PyData
  | .list ds => if ds.length + 1 < 4096 then (match keysD ds with
    | some ks => (sortKs (metK ks)).map .list
    | none => none) else none
  | _ => none
theorem key_rel {k : Key} {u : Value} (r : RelV (kV k) u) : keyIs k u = true := by
  cases k with
  | inl i => obtain ⟨t, rfl⟩ := r; exact keyIs_int i t
  | inr x => obtain ⟨t, rfl⟩ := r; exact keyIs_str x t
theorem keys_each {K : PySem.W.Frag} {Z : Hp} : ∀ {vs : List V} {us : List Value} {ds : List PyData} {ks : List Key}, Vals vs us → DqAll K Z vs ds → keysD ds = some ks → us.length = ks.length ∧ ∀ (i : Nat) (v : Value), us[i]? = some v → ∃ k, ks[i]? = some k ∧ keyIs k v = true
  | _, _, _, _, .nil, .nil, h => by cases h; exact ⟨rfl, fun i v e => by simp at e⟩
  | _, _, _, ks, .cons r rs, .cons (d := d) (ds := ds) q qs, h => by
    simp only [keysD] at h
    cases e1 : keyD d with
    | none => rw [e1] at h; cases h
    | some k =>
      cases e2 : keysD ds with
      | none => rw [e1, e2] at h; cases h
      | some l =>
        rw [e1, e2] at h
        cases h
        obtain ⟨h1, h2⟩ := keys_each rs qs e2
        have ek := keyD_ok (.inl q : PkR K ⟨Z, []⟩ Z _ d) e1
        subst ek
        refine ⟨congrArg Nat.succ h1, fun i v e => ?_⟩
        cases i with
        | zero => cases e; exact ⟨k, rfl, key_rel r⟩
        | succ i => obtain ⟨k', e3, e4⟩ := h2 i v (by simpa using e); exact ⟨k', by simpa using e3, e4⟩

/-- values that are these ints, these texts -/
def IsI (v : Value) (n : Int) : Prop := ∃ t, v = .int n t
def IsS (v : Value) (x : Str) : Prop := ∃ t, v = .str x t
theorem each_ints : ∀ {vs : List Value}, (∀ v ∈ vs, ∃ n, IsI v n) → ∃ ns : List Int, EachIs IsI vs ns ∧ vs.map keyVal = ns.map Sum.inl
  | [], _ => ⟨[], .nil, rfl⟩
  | v :: vs, h => by
    obtain ⟨n, t, rfl⟩ := h v List.mem_cons_self
    obtain ⟨ns, h1, h2⟩ := each_ints fun u hu => h u (List.mem_cons_of_mem _ hu)
    exact ⟨n :: ns, .cons ⟨t, rfl⟩ h1, by rw [List.map_cons, h2]; rfl⟩
theorem each_strs : ∀ {vs : List Value}, (∀ v ∈ vs, ∃ n, IsS v n) → ∃ ns : List Str, EachIs IsS vs ns ∧ vs.map keyVal = ns.map Sum.inr
  | [], _ => ⟨[], .nil, rfl⟩
  | v :: vs, h => by
    obtain ⟨n, t, rfl⟩ := h v List.mem_cons_self
    obtain ⟨ns, h1, h2⟩ := each_strs fun u hu => h u (List.mem_cons_of_mem _ hu)
    exact ⟨n :: ns, .cons ⟨t, rfl⟩ h1, by rw [List.map_cons, h2]; rfl⟩
theorem each_valsI : ∀ {vs : List Value} {ns : List Int}, EachIs IsI vs ns → Vals (ns.map V.int) vs
  | _, _, .nil => .nil
  | _, _, .cons h t => .cons h (each_valsI t)
theorem each_valsS : ∀ {vs : List Value} {ns : List Str}, EachIs IsS vs ns → Vals (ns.map V.str) vs
  | _, _, .nil => .nil
  | _, _, .cons h t => .cons h (each_valsS t)
theorem inl_perm {l1 l2 : List Int} (h : (l1.map Sum.inl : List Key).Perm (l2.map Sum.inl)) : l1.Perm l2 := by
  have := h.filterMap (fun k : Key => match k with | .inl i => some i | .inr _ => none)
  simpa [List.filterMap_map, Function.comp_def] using this
theorem inr_perm {l1 l2 : List Str} (h : (l1.map Sum.inr : List Key).Perm (l2.map Sum.inr)) : l1.Perm l2 := by
  have := h.filterMap (fun k : Key => match k with | .inr i => some i | .inl _ => none)
  simpa [List.filterMap_map, Function.comp_def] using this
section
variable {P : Program} {w : World} {A : Around} {E : Value → Shared → Prop} {s : Shared} {a : Addr} {ks : List Key}
/-- sorted(a set) -/
theorem sorted_setM {ds : List PyData} {Q : Value → Shared → Prop} (R : SetM w s.heap a ks) (hh : A.handled = none) (hu : A.units + 65 < cLine) (hd : sortKs ks = some ds)
    (hQ : ∀ s' p (out : List Value) (vs : List V) (c : Nat), (∀ b o, s.heap.get? b = some o → s'.heap.get? b = some o) → s'.gens = s.gens → s'.os = s.os → s.heap.objs.size ≤ p →
      s'.heap.get? p = some (seqObj "list" out.toArray c) → Vals vs out → (∀ K Z, DqAll K Z vs ds) → vs.length ≤ sizeLine → Q (.ref p) s') :
    wpAny (model P w) A (call (.builtin "sorted") [.ref a]) Q E s := by
  obtain ⟨o, es, ep, t, ho, hex, hdat, g, pm0, nd, hb, hf, hr, hl⟩ := R
  refine Calls.call_function_entry kind_sorted plain_sorted entry_sorted (args_sorted1 _) ?_
  unfold Builtin.«sorted»
  refine wpAny_bind (m := checkCount "sorted" 1 1 _) (wpAny_pure ?_)
  refine wpAny_bind (collect_set (A := A.in1) hh ⟨o, ho, hex.1, hdat⟩ hf hb hr hl fun s1 vs k1 hz g1 o1 pm => ?_)
  have hvl : vs.length < scanBound := by rw [pm.length_eq, List.length_map, Array.length_toList]; exact hb
  have hvz : vs.length ≤ sizeLine := by have : scanBound ≤ sizeLine := by rw [sizeLine_eq]; decide
                                        omega
  have pk : (vs.map keyVal).Perm ks := by
    have q := pm.map keyVal
    rw [List.map_map] at q
    exact q.trans pm0
  have gv : ∀ v ∈ vs, keyIs (keyVal v) v = true := fun v hv => by
    obtain ⟨e, he, q⟩ := List.mem_map.mp (pm.mem_iff.mp hv)
    rw [← q]
    exact (g e he).1
  refine wpAny_bind (wpAny_newList ?_ hvz)
  have hoL : (s1.heap.push (seqObj "list" vs.toArray 0)).get? s1.heap.objs.size = some (seqObj "list" vs.toArray 0) := Heap.get?_push_size _ rfl
  have fin : ∀ (out : List Value), ∃ c, (sortedHeap (s1.heap.push (seqObj "list" vs.toArray 0)) s1.heap.objs.size vs out.toArray).get? s1.heap.objs.size = some (seqObj "list" out.toArray c) ∧
      ∀ b o, s.heap.get? b = some o → (sortedHeap (s1.heap.push (seqObj "list" vs.toArray 0)) s1.heap.objs.size vs out.toArray).get? b = some o := fun out => by
    obtain ⟨c, hc⟩ := sortedHeap_at (vs := vs) (out := out.toArray) hoL
    refine ⟨c, hc, fun b u e => ?_⟩
    have q := k1 b u e
    have hlt := Heap.lt_size q
    rw [sortedHeap_old (Nat.ne_of_lt hlt) (by rw [size_push']; exact Nat.lt_succ_of_lt hlt)]
    exact Heap.get?_push_of_some _ q
  unfold sortKs at hd
  cases e1 : intKs ks with
  | some ns =>
    rw [e1] at hd
    cases hd
    have ek := intKs_ok e1
    obtain ⟨ms, em, ev⟩ := each_ints (vs := vs) fun v hv => by
      have hm : keyVal v ∈ ks := pk.mem_iff.mp (List.mem_map.mpr ⟨v, hv, rfl⟩)
      rw [ek] at hm
      obtain ⟨n, _, hn⟩ := List.mem_map.mp hm
      rcases keyIs_shape (gv v hv) with ⟨i, t, _, e⟩ | ⟨x, t, e, _⟩
      · exact ⟨i, t, e⟩
      · rw [← hn] at e; cases e
    have pp : ms.Perm ns := inl_perm (by rw [← ev, ← ek]; exact pk)
    have hml : ms.length = vs.length := em.length.symm
    refine wpAny_bind (wpAny_holding (list_sort_data (enc := PyData.int) (R := IsI) (s := { s1 with heap := s1.heap.push (seqObj "list" vs.toArray 0) }) hoL em (each_imp (fun v n ⟨t, e⟩ => ⟨[], by subst e; exact .int _ _, by simp⟩) em) (AllAlike.of fun _ _ => rfl) (Sortable.others fun _ => ⟨by simp, by simp⟩) (by rw [hml]; exact hvz) (fun b _ => by
      show A.in1.units + 1 + 0 < cLine
      have : A.in1.units = A.units + 1 := rfl
      omega) fun out hlen ho => ?_))
    rw [dataLe_int, show (fun a b : Int => decide (a ≤ b)) = leI from rfl, sortI_perm pp] at ho
    obtain ⟨c, f1, f2⟩ := fin out
    refine wpAny_pure ⟨_, rfl, hQ _ s1.heap.objs.size out _ c f2 g1 o1 hz f1 (each_valsI ho) (fun K Z => DqAll.ints _) ?_⟩
    rw [List.length_map, ← ho.length, hlen, hml]
    exact hvz
  | none =>
    rw [e1] at hd
    cases e2 : strKs ks with
    | none => rw [e2] at hd; cases hd
    | some xs =>
      rw [e2] at hd
      cases hd
      have ek := strKs_ok e2
      obtain ⟨ms, em, ev⟩ := each_strs (vs := vs) fun v hv => by
        have hm : keyVal v ∈ ks := pk.mem_iff.mp (List.mem_map.mpr ⟨v, hv, rfl⟩)
        rw [ek] at hm
        obtain ⟨n, _, hn⟩ := List.mem_map.mp hm
        rcases keyIs_shape (gv v hv) with ⟨i, t, e, _⟩ | ⟨x, t, _, e⟩
        · rw [← hn] at e; cases e
        · exact ⟨x, t, e⟩
      have pp : ms.Perm xs := inr_perm (by rw [← ev, ← ek]; exact pk)
      have hml : ms.length = vs.length := em.length.symm
      refine wpAny_bind (wpAny_holding (list_sort_data (enc := PyData.str) (R := IsS) (s := { s1 with heap := s1.heap.push (seqObj "list" vs.toArray 0) }) hoL em (each_imp (fun v n ⟨t, e⟩ => ⟨[], by subst e; exact .str _ _, by simp⟩) em) (AllAlike.of fun _ _ => rfl) (Sortable.others fun _ => ⟨by simp, by simp⟩) (by rw [hml]; exact hvz) (fun b _ => by
        show A.in1.units + 1 + 0 < cLine
        have : A.in1.units = A.units + 1 := rfl
        omega) fun out hlen ho => ?_))
      rw [dataLe_str, show (fun a b : Str => decide (a.cps.toList ≤ b.cps.toList)) = leS from rfl, sortS_perm pp] at ho
      obtain ⟨c, f1, f2⟩ := fin out
      have hstr : ∀ (K : PySem.W.Frag) (Z : Hp) (ys : List Str), DqAll K Z (ys.map V.str) (ys.map PyData.str) := fun K Z ys => by
        induction ys with
        | nil => exact .nil
        | cons y ys ih => exact .cons (.str y) ih
      refine wpAny_pure ⟨_, rfl, hQ _ s1.heap.objs.size out _ c f2 g1 o1 hz f1 (each_valsS ho) (fun K Z => hstr K Z _) ?_⟩
      rw [List.length_map, ← ho.length, hlen, hml]
      exact hvz
end
section
variable {X : Cx} {W0 : WX} {a : Expr} {ga : Ev0 Vl}
theorem se_sset {p p2 q pos : Pos} (hc : X.calm = true) (hu : X.A.units + 65 < cLine) (hg : Gl X "sorted") (hm : X.mg "sorted" = none) (hg2 : Gl X "set") (hm2 : X.mg "set" = none) (ha : SE X W0 a ga) (hs : notStar a = true) :
    SE X W0 (.Call (.Name "sorted" p) [.Call (.Name "set" p2) [a] [] q] [] pos) (gUn (lift1 ssetD) ga) := by
  refine ⟨fun pins s σ H Q I h => ?_⟩
  obtain ⟨ρ, M, W, R, S, P⟩ := h
  refine Call_ (ld_blt I hg hm (show bootBuiltins "sorted" = some (.builtin "sorted") by decide +kernel) ?_)
  refine PyProof.Rows.callWith_builtin1 (PyProof.Rows.args_cons ?_ rfl) rfl rfl
  refine Call_ (ld_blt I hg2 hm2 PyProof.Rows.boot_set ?_)
  refine PyProof.Rows.callWith_type1 (PyProof.Rows.args_cons (thn (ha.run pins s σ H (fun v H' => ∃ x M1 W1, ga ρ M = .ok x M1 ∧ W.le W1 ∧ RelM X.K W1 H' M1 ∧ VlR X.K W1 v x ∧ Post (VlR X.K) X.K W0 W1 σ (lift1 ssetD x M1) Q) I ⟨ρ, M, W, R, S, post_bind P fun v H1 W1 M1 x e l1 R1 r1 P1 => ⟨x, M1, W1, e, l1, R1, r1, P1⟩⟩) fun v s1 ⟨x, H1, I1, rx, y, M1, W1, _, l1, R1, r1, P1⟩ => PyProof.Rows.args_nil ?_) (star_one hs _ _)) (star_one hs _ _) rfl
  obtain ⟨d, c, pk, e, fin⟩ := lift1_post R1 r1 P1
  cases d with
  | list ds =>
    simp only [ssetD] at e
    split at e
    · rename_i hlen
      cases e1 : keysD ds with
      | none => rw [e1] at e; cases e
      | some ks =>
        rw [e1] at e
        dsimp only at e
        cases e2 : sortKs (metK ks) with
        | none => rw [e2] at e; cases e
        | some es =>
          rw [e2] at e
          cases e
          obtain ⟨b, vs, rfl, hp, hd⟩ := pk.list R1
          cases rx
          obtain ⟨us, rv, pl, hz⟩ := I1.list hp
          obtain ⟨k1, k2⟩ := keys_each rv hd e1
          have hl : us.length = ds.length := by rw [← rv.length, hd.length]
          refine call_setM ks (I1.ok.hd hc) pl.isList (by rw [List.size_toArray, k1]) (fun i v hv => k2 i v (by simpa using hv)) (by rw [← k1, hl]; exact hlen) fun h' tk hS hk => ?_
          refine PyProof.Rows.args_nil ?_
          refine sorted_setM (s := { s1 with heap := h', toks := tk }) hS (I1.ok.hd hc) (by omega) e2 fun s' p' out ws c kp hg' ho' hle hget hv hdq hz' => ?_
          have kk : ∀ b o, s1.heap.get? b = some o → s'.heap.get? b = some o := fun b o e => kp b o (hk b o e)
          have hle1 : s1.heap.objs.size ≤ p' := by
            obtain ⟨o0, es0, ep0, t0, ho0, _⟩ := hS
            exact Nat.le_trans (Nat.le_of_lt (Heap.lt_size ho0)) hle
          have hn : H1 p' = none := I1.hok.fresh hle1
          have J : Inv X pins σ (upd H1 p' (.lst ws)) { s1 with heap := s'.heap, gens := s'.gens, drawn := s'.drawn, toks := s'.toks } :=
            I1.call (ch := []) (Un.laid kk hle1 hn) (I1.hok.laid kk hle1 ⟨hz', out, c, hv, hget⟩) (by rw [hg']; exact I1.bare) (fun _ z => nomatch z)
          have es' : s' = { s1 with heap := s'.heap, gens := s'.gens, drawn := s'.drawn, toks := s'.toks } := by
            cases s'
            cases ho'
            rfl
          rw [es']
          obtain ⟨R3, l3, d3⟩ := R1.mkL hn (hdq X.K W1.Z)
          exact ⟨.ref p', _, J, rfl, fin _ _ _ l3 R3 d3⟩
    · cases e
  | _ => cases e
end
end Ev

namespace Ev
open PySem PySem.Spec PyProof.Rows L2

/-! ### enumerate of a tuple -/
theorem meets_enum_1B {v : Value} {o : Obj} {H : Heap → Prop} (B : Begins v o H) :
    Meets (Builtin.«enumerate.__new__» ⟨[.type "enumerate", v], []⟩) (fun _ R s => H s.heap ∧
      R (.ok (.ret (.ref (s.heap.push o).objs.size))) { s with heap := (s.heap.push o).push { cls := .type "enumerate", data := .fields #[.none, .bool false, .ref s.heap.objs.size, rawInt 0, .none, .none] } }) :=
  .of_wp fun prog w A R s h => by
    obtain ⟨hp, g, d, tk, os⟩ := s; obtain ⟨h1, h⟩ := h
    have hsub := sub_enumerate
    have q1 : ∀ {A' : Around} {E : Value → Shared → Prop} {Q : Value → Shared → Prop}, Q (.ref hp.objs.size) ⟨hp.push o, g, d, tk, os⟩ → wpAny (model prog w) A' (pyIter v) Q E ⟨hp, g, d, tk, os⟩ :=
      fun q => B.iter prog w _ _ ⟨hp, g, d, tk, os⟩ _ h1 q
    wp_walk using q1
    refine wpAny_stack_any fun st => wpAny_pure ?_
    split
    · rename_i c _ _ _ _ _
      cases (c == Value.type "enumerate")
      · wp_walk using q1
        exact ⟨_, rfl, h⟩
      · wp_walk using q1
        exact ⟨_, rfl, h⟩
    · wp_walk using q1
      exact ⟨_, rfl, h⟩
section
variable {prog : Program} {w : World} {A : Around} {E : Value → Shared → Prop} {s : Shared}
theorem call_enum_1B {v : Value} {o : Obj} {H : Heap → Prop} {Q : Value → Shared → Prop} (B : Begins v o H) (h1 : H s.heap)
    (h : ∀ h', IsEnum h' (s.heap.objs.size + 1) s.heap.objs.size 0 .none → h'.get? s.heap.objs.size = some o → h'.objs.size = s.heap.objs.size + 2 →
      (∀ b o, s.heap.get? b = some o → h'.get? b = some o) → Q (.ref (s.heap.objs.size + 1)) { s with heap := h' }) :
    wpAny (model prog w) A (call (.type "enumerate") [v]) Q E s := by
  refine callType_new F.called_enumerate (by decide) (F.typeCall_enumerate_1 _) (F.newCall_enumerate_1 _) (fun obj => F.args_object_init_2 obj _) F.entry_enumerate_new
    (meets_enum_1B B) ⟨h1, ?_⟩
  have hz : (s.heap.push o).objs.size = s.heap.objs.size + 1 := Heap.size_push ..
  show _ ∧ _
  rw [hz]
  have he : IsEnum ((s.heap.push o).push { cls := .type "enumerate", data := .fields #[.none, .bool false, .ref s.heap.objs.size, rawInt 0, .none, .none] }) (s.heap.objs.size + 1) s.heap.objs.size 0 .none := by
    have := Heap.get?_push_size (s.heap.push o) (o := { cls := .type "enumerate", data := .fields #[.none, .bool false, .ref s.heap.objs.size, rawInt 0, .none, .none] }) rfl
    rw [hz] at this; exact this
  refine ⟨⟨_, he, rfl⟩, h _ he (Heap.get?_push_of_some _ (Heap.get?_push_size _ B.free)) (by rw [Heap.size_push, hz]) fun b o x => Heap.get?_push_of_some _ (Heap.get?_push_of_some _ x)⟩
end
theorem ends {prog : Program} {w : World} {A : Around} (hh : A.handled = none) (it t : Addr) (i : Nat) (items : Array Value) (hi : items.size ≤ i) :
    Draws prog w A it [it, t] i (fun _ _ => True) (fun j h => j = i ∧ h.IsTupleIter it t j ∧ h.IsTuple t items) where
  live := fun _ _ st => let ⟨o, ho, _⟩ := st.2.1; ⟨o, ho⟩
  frame := fun _ _ _ st hk => ⟨st.1, st.2.1.at fun o e => hk it (by simp) o e, st.2.2.at fun o e => hk t (by simp) o e⟩
  item := fun j s Q E hj st hQ => absurd hj (by rw [st.1]; exact Nat.lt_irrefl _)
  done := fun s Q E st hE => wpAny_nextOf_tuple_end hh st.2.1 st.2.2 (by simp; omega) hE
end Ev

namespace Ev
open PySem PySem.Spec PyProof.Rows L2
abbrev tupO (us : Array Value) : Obj := { cls := .type "tuple", data := .seq us }

/-! ### zip of two sequences, each a list (false) or a tuple (true) -/
def SqX (K : PySem.W.Frag) (H : Hp) (t : Bool) (a : Addr) (xs : List V) : Prop := match t with
  | true => SqT K H a xs
  | false => SqL K H a xs
def IsX (h : Heap) (t : Bool) (a : Addr) (its : Array Value) : Prop := match t with
  | true => h.IsTuple a its
  | false => h.IsList a its
def ItX (h : Heap) (t : Bool) (it a : Addr) (i : Nat) : Prop := match t with
  | true => h.IsTupleIter it a i
  | false => h.IsListIter it a i
def itObj (t : Bool) (a : Addr) : Obj := match t with
  | true => { cls := .type "tuple_iterator", data := .fields #[.ref a, .int 0 0] }
  | false => { cls := .type "list_iterator", data := .fields #[.ref a, .int 0 0] }
theorem sqX {X : Cx} {pins : List (Addr × Obj)} {σ : L2.St} {H : Hp} {s : Shared} {t : Bool} {a : Addr} {xs : List V} (I : Inv X pins σ H s) (h : SqX X.K H t a xs) : ∃ its : List Value, Vals xs its ∧ IsX s.heap t a its.toArray := by
  cases t
  · obtain ⟨its, rv, p, _⟩ := I.list h
    exact ⟨its, rv, p.isList⟩
  · obtain ⟨its, rv, p, _⟩ := I.tuple h
    exact ⟨its, rv, p⟩
theorem sqX_inj {X : Cx} {pins : List (Addr × Obj)} {σ : L2.St} {H : Hp} {s : Shared} {t : Bool} {a : Addr} {xs ys : List V} (I : Inv X pins σ H s) (h : SqX X.K H t a xs) (h' : SqX X.K H t a ys) : xs = ys := by
  cases t
  · exact I.list_inj h h'
  · exact I.tuple_inj h h'
theorem isX_lt {h : Heap} {t : Bool} {a : Addr} {its : Array Value} (p : IsX h t a its) : a < h.objs.size := by
  cases t
  · obtain ⟨o, e, _⟩ := p; exact Heap.lt_size e
  · obtain ⟨o, e, _⟩ := p; exact Heap.lt_size e
theorem itX_at {h h' : Heap} {t : Bool} {it a : Addr} {i : Nat} (x : ItX h t it a i) (e : ∀ o, h.get? it = some o → h'.get? it = some o) : ItX h' t it a i := by
  cases t
  · exact Heap.IsListIter.at x e
  · exact Heap.IsTupleIter.at x e
theorem itX_obj {h : Heap} {t : Bool} {it a : Addr} {i : Nat} (x : ItX h t it a i) : ∃ o, h.get? it = some o ∧ o.data = .fields #[.ref a, .int i 0] := by
  cases t
  · obtain ⟨o, e, _, d⟩ := x; exact ⟨o, e, d⟩
  · obtain ⟨o, e, _, d⟩ := x; exact ⟨o, e, d⟩
theorem itX_new {h : Heap} {t : Bool} {it a : Addr} (e : h.get? it = some (itObj t a)) : ItX h t it a 0 := by
  cases t
  · exact ⟨_, e, rfl, rfl⟩
  · exact ⟨_, e, rfl, rfl⟩
theorem begX (t : Bool) (a : Addr) (its : Array Value) : Begins (.ref a) (itObj t a) fun h => IsX h t a its := by
  cases t
  · exact begins_list a its
  · exact begins_tuple a its
section
variable {prog : Program} {w : World} {A : Around}
theorem drX (hh : A.handled = none) (t : Bool) (it a : Addr) (hne : a ≠ it) (items : Array Value) :
    Draws prog w A it [it, a] items.size (fun i v => items[i]? = some v) (fun i h => ItX h t it a i ∧ IsX h t a items) := by
  cases t
  · exact Draws.list hh it a hne items
  · exact Draws.tuple hh it a hne items
theorem endL (hh : A.handled = none) (it t : Addr) (i : Nat) (items : Array Value) (hi : items.size ≤ i) :
    Draws prog w A it [it, t] i (fun _ _ => True) (fun j h => j = i ∧ h.IsListIter it t j ∧ h.IsList t items) where
  live := fun _ _ st => let ⟨o, ho, _⟩ := st.2.1; ⟨o, ho⟩
  frame := fun _ _ _ st hk => ⟨st.1, st.2.1.at fun o e => hk it (by simp) o e, st.2.2.at fun o e => hk t (by simp) o e⟩
  item := fun j s Q E hj st hQ => absurd hj (by rw [st.1]; exact Nat.lt_irrefl _)
  done := fun s Q E st hE => wpAny_nextOf_list_end hh st.2.1 st.2.2 (by simp; omega) hE
theorem enX (hh : A.handled = none) (t : Bool) (it a : Addr) (hne : a ≠ it) (i : Nat) (items : Array Value) :
    ∃ n P St, Draws prog w A it [it, a] n P St ∧ i ≤ n ∧ (items.size ≤ i → i = n) ∧ ∀ h, ItX h t it a i → IsX h t a items → St i h := by
  by_cases hi : items.size ≤ i
  · cases t
    · exact ⟨i, _, _, endL hh it a i items hi, Nat.le_refl _, fun _ => rfl, fun h p q => ⟨rfl, p, q⟩⟩
    · exact ⟨i, _, _, ends hh it a i items hi, Nat.le_refl _, fun _ => rfl, fun h p q => ⟨rfl, p, q⟩⟩
  · exact ⟨items.size, _, _, drX hh t it a hne items, by omega, fun h => absurd h hi, fun h p q => ⟨p, q⟩⟩
end
def ItzX (K : PySem.W.Frag) (t1 t2 : Bool) (a b : Addr) : It :=
  ⟨fun i H => ∃ (xs ys : List V) (x y : V), SqX K H t1 a xs ∧ SqX K H t2 b ys ∧ xs[i]? = some x ∧ ys[i]? = some y,
    fun i H v H' => ∃ T x y, v = .ref T ∧ H T = none ∧ NewT H T [x, y] H' ∧ (∀ xs, SqX K H t1 a xs → xs[i]? = some x) ∧ ∀ ys, SqX K H t2 b ys → ys[i]? = some y,
    fun i H => ∃ xs ys : List V, SqX K H t1 a xs ∧ SqX K H t2 b ys ∧ (xs.length ≤ i ∨ ys.length ≤ i)⟩
theorem turn_zipX {P : Program} {w : World} {K : PySem.W.Frag} {elts : List Expr} {kk : Nat} {tpos : Pos} {t1 t2 : Bool} {a b z TI TO i1 i2 : Addr} (D : ZipSep2 z TI TO i1 i2 [i1, a] [i2, b]) (hai : a ≠ i1) (hbi : b ≠ i2) :
    Turn P w K (.Tuple elts kk tpos) (ItzX K t1 t2 a b) [z, TI, TO, i1, i2] z (fun i h => IsZip h z TI TO .none ∧ IsTupOf2 h TI (.ref i1) (.ref i2) ∧ (∃ x y, IsTupOf2 h TO x y) ∧ ItX h t1 i1 a i ∧ ItX h t2 i2 b i) where
  mem := by simp
  obj := fun i h st c hc => by
    obtain ⟨hz, hTI, ⟨x, y, hTO⟩, h1, h2⟩ := st
    obtain ⟨o1, e1, d1⟩ := itX_obj h1
    obtain ⟨o2, e2, d2⟩ := itX_obj h2
    have e' : c = z ∨ c = TI ∨ c = TO ∨ c = i1 ∨ c = i2 := by simpa using hc
    rcases e' with q | q | q | q | q
    · rw [q]; exact ⟨_, hz, fun v q => nomatch q⟩
    · rw [q]; exact ⟨_, hTI, fun v q => nomatch q⟩
    · rw [q]; exact ⟨_, hTO, fun v q => nomatch q⟩
    · rw [q]; exact ⟨o1, e1, fun v q => by rw [d1] at q; cases q⟩
    · rw [q]; exact ⟨o2, e2, fun v q => by rw [d2] at q; cases q⟩
  keep := fun i h h' st k => by
    obtain ⟨hz, hTI, ⟨x, y, hTO⟩, h1, h2⟩ := st
    exact ⟨k z (by simp) _ hz, k TI (by simp) _ hTI, ⟨x, y, k TO (by simp) _ hTO⟩, itX_at h1 fun o q => k i1 (by simp) o q, itX_at h2 fun o q => k i2 (by simp) o q⟩
  item := by
    intro X hP hw hK hc i pins s σ H E I hf st hg
    subst hP hw hK
    obtain ⟨hz, hTI, ⟨x0, y0, hTO⟩, h1, h2⟩ := st
    obtain ⟨xs, ys, x, y, hqx, hqy, hx, hy⟩ := hg
    obtain ⟨its, rv, p⟩ := sqX I hqx
    obtain ⟨its2, rv2, p2⟩ := sqX I hqy
    obtain ⟨u, hu, ru⟩ := rv.get hx
    obtain ⟨u2, hu2, ru2⟩ := rv2.get hy
    have hzl : z < s.heap.objs.size := Heap.lt_size hz
    have hlt1 : i < its.toArray.size := by simpa using (List.getElem?_eq_some_iff.mp hu).1
    have hlt2 : i < its2.toArray.size := by simpa using (List.getElem?_eq_some_iff.mp hu2).1
    have hh : X.A.in1.handled = none := I.ok.hd hc
    refine wpAny_pyNext_zipD2_item D (drX hh t1 i1 a hai its.toArray) (drX hh t2 i2 b hbi its2.toArray) hz hTI hTO ⟨h1, p⟩ ⟨h2, p2⟩ hlt1 hlt2 fun v1 v2 h' tk hv1 hv2 z' TO' h1' h2' hT hsz hk => ?_
    obtain rfl : v1 = u := by
      have : its.toArray[i]? = some v1 := hv1
      simp [hu] at this
      exact this.symm
    obtain rfl : v2 = u2 := by
      have : its2.toArray[i]? = some v2 := hv2
      simp [hu2] at this
      exact this.symm
    refine ⟨_, rfl, wpAny_letOwnedTupleGo_zip (s := { s with heap := h', toks := tk }) z' fun h'' z'' sb => ?_⟩
    have hT2 : h''.get? s.heap.objs.size = some { cls := .type "tuple", data := .seq #[v1, v2] } := (sb.2 _ (Nat.ne_of_gt hzl)).trans hT
    have new : ObjOk X.prog X.w (upd H s.heap.objs.size (.frz (tupO #[v1, v2]) (.tup [x, y]))) h'' s.heap.objs.size (.frz (tupO #[v1, v2]) (.tup [x, y])) :=
      ⟨hT2, by show 2 ≤ sizeLine; decide, [v1, v2], .cons ru (.cons ru2 .nil), ⟨_, hT2, rfl, _, rfl⟩⟩
    have I1 : Inv X pins σ (upd H s.heap.objs.size (.frz (tupO #[v1, v2]) (.tup [x, y]))) { s with heap := h'', toks := tk } :=
      I.turnedNew (t' := tk) (ch := [z, TI, TO, i1, i2]) (fun c o hb q => (sb.2 c (fun q' => hb (by simp [q']))).trans (hk c o (fun q' => hb (by simp [q'])) (fun q' => hb (by simp [q'])) (fun q' => hb (by simp [q'])) (fun q' => hb (by simp [q'])) q)) hf (Nat.le_refl _) new
    refine ⟨.ref s.heap.objs.size, _, I1, rfl, ⟨_, x, y, rfl, I.hok.fresh (Nat.le_refl _), ⟨_, rfl, rfl⟩, fun l hl => by rw [sqX_inj I hl hqx]; exact hx, fun l hl => by rw [sqX_inj I hl hqy]; exact hy⟩, ⟨z'', ?_, ⟨v1, v2, ?_⟩, ?_, ?_⟩, fun c hcm => ?_⟩
    · exact (sb.2 _ D.TIz).trans (hk _ _ D.TIz D.TITO D.TIi1 D.TIi2 hTI)
    · exact (sb.2 _ D.TOz).trans TO'
    · exact itX_at h1'.1 fun o q => (sb.2 _ D.zi1.symm).trans q
    · exact itX_at h2'.1 fun o q => (sb.2 _ D.zi2.symm).trans q
    · have hlt : c < s.heap.objs.size := by
        have e' : c = z ∨ c = TI ∨ c = TO ∨ c = i1 ∨ c = i2 := by simpa using hcm
        rcases e' with q | q | q | q | q
        · rw [q]; exact hzl
        · rw [q]; exact Heap.lt_size hTI
        · rw [q]; exact Heap.lt_size hTO
        · rw [q]; obtain ⟨_, e1, _⟩ := itX_obj h1; exact Heap.lt_size e1
        · rw [q]; obtain ⟨_, e2, _⟩ := itX_obj h2; exact Heap.lt_size e2
      rw [upd_ne (Nat.ne_of_lt hlt)]
      exact (hf c hcm).1
  done := by
    intro X hP hw hK hc i pins s σ H E I hf st hg
    subst hP hw hK
    obtain ⟨hz, hTI, ⟨x0, y0, hTO⟩, h1, h2⟩ := st
    obtain ⟨xs, ys, hqx, hqy, hend⟩ := hg
    obtain ⟨its, rv, p⟩ := sqX I hqx
    obtain ⟨its2, rv2, p2⟩ := sqX I hqy
    have l1 := rv.length
    have l2 := rv2.length
    have hh : X.A.in1.handled = none := I.ok.hd hc
    obtain ⟨n1, P1, S1, D1, k1, q1, s1⟩ := enX (prog := X.prog) (w := X.w) hh t1 i1 a hai i its.toArray
    obtain ⟨n2, P2, S2, D2, k2, q2, s2⟩ := enX (prog := X.prog) (w := X.w) hh t2 i2 b hbi i its2.toArray
    have he : i = n1 ∨ i = n2 := by
      rcases hend with q | q
      · exact .inl (q1 (by simp; omega))
      · exact .inr (q2 (by simp; omega))
    exact wpAny_pyNext_zipD2_end D D1 D2 hz hTI hTO (s1 _ h1 p) (s2 _ h2 p2) k1 k2 he fun h' tk hk => ⟨rfl, I.turnedL (t' := tk) (ch := [z, TI, TO, i1, i2]) (fun c o hb q =>
      hk c o (fun q' => hb (by simp [q'])) (fun q' => hb (by simp [q'])) (fun q' => hb (by simp [q'])) (fun q' => hb (by simp [q'])) q) hf⟩
  self := fun A i s Q E st h => wpAny_pyIter_zip st.1 h
def iZipX (K : PySem.W.Frag) (ta : TA) : TI := fun σ H R => ta σ H fun vs H1 => ∃ a b xs ys t1 t2, vs = [.ref a, .ref b] ∧ SqX K H1 t1 a xs ∧ SqX K H1 t2 b ys ∧ R (ItzX K t1 t2 a b) H1
theorem pi_zipX {X : Cx} {e e2 : Expr} {ta : TA} {p pos tpos : Pos} {elts : List Expr} {kk : Nat} (hg : Gl X "zip") (hm : X.mg "zip" = none) (ha : PA X [e, e2] ta)
    (hs : starEach [e, e2] X.env = (false, eval e X.env) :: starEach [e2] X.env := by rfl) (hpl : (backTo pos (starEach [e2] X.env)).any (·.1) = false := by rfl) :
    PI X (.Tuple elts kk tpos) (.Call (.Name "zip" p) [e, e2] [] pos) (iZipX X.K ta) := by
  refine ⟨fun pins s σ H R I h => ?_⟩
  refine Call_ (ld_blt I hg hm PyProof.Rows.boot_zip (PyProof.Rows.callWith_type1 (thn (ha.run pos pins s σ H _ I h) fun us s1 ⟨vs, H1, I1, r1, q1⟩ => ?_) hs hpl))
  obtain ⟨a, b, xs, ys, t1, t2, ex, hqx, hqy, q⟩ := q1
  subst ex
  cases r1 with
  | cons r rr =>
    cases rr with
    | cons r' rr =>
      cases rr
      cases r
      cases r'
      have fresh5 : ∀ c, c ∈ [s1.heap.objs.size + 4, s1.heap.objs.size + 2, s1.heap.objs.size + 3, s1.heap.objs.size, s1.heap.objs.size + 1] → FpOk X pins H1 c := fun c hcm => by
        have e' : c = s1.heap.objs.size + 4 ∨ c = s1.heap.objs.size + 2 ∨ c = s1.heap.objs.size + 3 ∨ c = s1.heap.objs.size ∨ c = s1.heap.objs.size + 1 := by simpa using hcm
        have hle : s1.heap.objs.size ≤ c := by
          rcases e' with z | z | z | z | z
          · rw [z]; exact Nat.le_add_right _ _
          · rw [z]; exact Nat.le_add_right _ _
          · rw [z]; exact Nat.le_add_right _ _
          · rw [z]; exact Nat.le_refl _
          · rw [z]; exact Nat.le_add_right _ _
        exact I1.fpOk hle (I1.hok.fresh hle)
      obtain ⟨its, rv, p1⟩ := sqX I1 hqx
      obtain ⟨its2, rv2, p2⟩ := sqX I1 hqy
      have la := isX_lt p1
      have lb := isX_lt p2
      refine zip_begins2 (begX t1 a its.toArray) (begX t2 b its2.toArray) p1 p2 fun h' hz hTI hTO h1 h2 hsz hk => wpAny_pyIter_zip hz ?_
      have I2 : Inv X pins σ H1 { s1 with heap := h' } := I1.kept (t' := s1.toks) hk
      exact ⟨s1.heap.objs.size + 4, [s1.heap.objs.size + 4, s1.heap.objs.size + 2, s1.heap.objs.size + 3, s1.heap.objs.size, s1.heap.objs.size + 1], _, _, H1, rfl, I2,
        turn_zipX (zip_sep2 (fp1 := [a]) (fp2 := [b]) (by simpa using la) (by simpa using lb)) (Nat.ne_of_lt la) (Nat.ne_of_lt (Nat.lt_succ_of_lt lb)), ⟨hz, hTI, ⟨_, _, hTO⟩, itX_new h1, itX_new h2⟩, fresh5, q⟩
/-! ### enumerate of a sequence: each item in a new pair -/
def IteX (K : PySem.W.Frag) (t : Bool) (a : Addr) : It :=
  ⟨fun i H => ∃ (xs : List V) (x : V), SqX K H t a xs ∧ xs[i]? = some x, fun i H v H' => ∃ T x, v = .ref T ∧ H T = none ∧ NewT H T [.int (i : Nat), x] H' ∧ ∀ xs, SqX K H t a xs → xs[i]? = some x, fun i H => ∃ xs : List V, SqX K H t a xs ∧ xs.length ≤ i⟩
theorem turn_enumX {P : Program} {w : World} {K : PySem.W.Frag} {elts : List Expr} {kk : Nat} {tpos : Pos} (t : Bool) (a e it : Addr) (hai : a ≠ it) (hae : a ≠ e) :
    Turn P w K (.Tuple elts kk tpos) (IteX K t a) [e, it] e (fun i h => (∃ old, IsEnum h e it ((i : Nat) : Int) old) ∧ ItX h t it a i ∧ e ≠ it) where
  mem := by simp
  obj := fun i h st b hb => by
    obtain ⟨⟨old, he⟩, hitr, _⟩ := st
    obtain ⟨o, ho, hd⟩ := itX_obj hitr
    have e' : b = e ∨ b = it := by simpa using hb
    rcases e' with z | z
    · rw [z]; exact ⟨_, he, fun v q => nomatch q⟩
    · rw [z]; exact ⟨o, ho, fun v q => by rw [hd] at q; cases q⟩
  keep := fun i h h' st k => let ⟨⟨old, he⟩, hi, hne⟩ := st; ⟨⟨old, k e (by simp) _ he⟩, itX_at hi fun o q => k it (by simp) o q, hne⟩
  item := by
    intro X hP hw hK hc i pins s σ H E I hf st hg
    subst hP hw hK
    obtain ⟨⟨old, he⟩, hit, hne⟩ := st
    obtain ⟨xs, x, hq, hx⟩ := hg
    obtain ⟨its, rv, p⟩ := sqX I hq
    obtain ⟨u, hu, ru⟩ := rv.get hx
    have hel : e < s.heap.objs.size := Heap.lt_size he
    have hil : it < s.heap.objs.size := by obtain ⟨_, q, _⟩ := itX_obj hit; exact Heap.lt_size q
    have hlt : i < its.toArray.size := by
      have := List.getElem?_eq_some_iff.mp hu
      simpa using this.1
    refine wpAny_pyNext_enum_itemD (D := drX (A := X.A.in1) (show X.A.in1.handled = none from I.ok.hd hc) t it a hai its.toArray) he ⟨hit, p⟩ hlt hne (by simp [hne, Ne.symm hae]) fun x' h' tk hx' ho hit' hT hsz hk => ?_
    obtain rfl : x' = u := by
      have : its.toArray[i]? = some x' := hx'
      simp [hu] at this
      exact this.symm
    refine ⟨_, rfl, wpAny_letOwnedTupleGo_enum (s := { s with heap := h', toks := tk + 1 }) ho fun h'' he' sb => ?_⟩
    have hT2 : h''.get? s.heap.objs.size = some { cls := .type "tuple", data := .seq #[.int i tk, x'] } := (sb.2 _ (Nat.ne_of_gt hel)).trans hT
    have new : ObjOk X.prog X.w (upd H s.heap.objs.size (.frz (tupO #[.int i tk, x']) (.tup [.int (i : Nat), x]))) h'' s.heap.objs.size (.frz (tupO #[.int i tk, x']) (.tup [.int (i : Nat), x])) :=
      ⟨hT2, by show 2 ≤ sizeLine; decide, [.int i tk, x'], .cons ⟨_, rfl⟩ (.cons ru .nil), ⟨_, hT2, rfl, _, rfl⟩⟩
    have I1 : Inv X pins σ (upd H s.heap.objs.size (.frz (tupO #[.int i tk, x']) (.tup [.int (i : Nat), x]))) { s with heap := h'', toks := tk + 1 } :=
      I.turnedNew (ch := [e, it]) (fun b ob hb q => (sb.2 b (fun z => hb (by simp [z]))).trans (hk b ob (fun z => hb (by simp [z])) (fun z => hb (by simp [z])) q)) hf (Nat.le_refl _) new
    refine ⟨.ref s.heap.objs.size, _, I1, rfl, ⟨_, x, rfl, I.hok.fresh (Nat.le_refl _), ⟨_, rfl, rfl⟩, fun ys hy => by rw [sqX_inj I hy hq]; exact hx⟩, ⟨⟨x', ?_⟩, itX_at hit'.1 fun o q => (sb.2 it (Ne.symm hne)).trans q, hne⟩, fun b hb => ?_⟩
    · have e1 : ((i + 1 : Nat) : Int) = (i : Int) + 1 := by omega
      rw [e1]; exact he'
    · have hb' : b < s.heap.objs.size := by
        have e' : b = e ∨ b = it := by simpa using hb
        rcases e' with z | z
        · rw [z]; exact hel
        · rw [z]; exact hil
      rw [upd_ne (Nat.ne_of_lt hb')]
      exact (hf b hb).1
  done := by
    intro X hP hw hK hc i pins s σ H E I hf st hg
    subst hP hw hK
    obtain ⟨⟨old, he⟩, hit, hne⟩ := st
    obtain ⟨xs, hq, hx⟩ := hg
    obtain ⟨its, rv, p⟩ := sqX I hq
    obtain ⟨f0, f1, f2, f3, f4, f5⟩ := hf it (by simp)
    have hl := rv.length
    obtain ⟨n, P1, S1, D1, k1, q1, s1⟩ := enX (prog := X.prog) (w := X.w) (A := X.A.in1) (show X.A.in1.handled = none from I.ok.hd hc) t it a hai i its.toArray
    obtain rfl : i = n := q1 (by simp; omega)
    refine wpAny_pyNext_enum_endD D1 he (s1 _ hit p) fun h' eb => ⟨rfl, I.turned (t' := s.toks) (fun b o hb q => eb b o hb q) f0 f1 f3 f4 f5⟩
  self := fun A i s Q E st h => let ⟨⟨_, he⟩, _⟩ := st; wpAny_pyIter_enum he h
def iEnumX (K : PySem.W.Frag) (ta : TA) : TI := fun σ H R => ta σ H fun vs H1 => ∃ a xs t, vs = [.ref a] ∧ SqX K H1 t a xs ∧ R (IteX K t a) H1
theorem pi_enumX {X : Cx} {e : Expr} {ta : TA} {p pos tpos : Pos} {elts : List Expr} {kk : Nat} (hg : Gl X "enumerate") (hm : X.mg "enumerate" = none) (ha : PA X [e] ta) (hs : starEach [e] X.env = [(false, eval e X.env)] := by rfl) :
    PI X (.Tuple elts kk tpos) (.Call (.Name "enumerate" p) [e] [] pos) (iEnumX X.K ta) := by
  refine ⟨fun pins s σ H R I h => ?_⟩
  refine Call_ (ld_blt I hg hm boot_enumerate (PyProof.Rows.callWith_type1 (thn (ha.run pos pins s σ H _ I h) fun us s1 ⟨vs, H1, I1, r1, q1⟩ => ?_) hs rfl))
  obtain ⟨a, xs, t, ex, hq, q⟩ := q1
  subst ex
  cases r1 with
  | cons r rr =>
    cases rr
    cases r
    have fresh2 : ∀ b, b ∈ [s1.heap.objs.size + 1, s1.heap.objs.size] → FpOk X pins H1 b := fun b hb => by
      have e' : b = s1.heap.objs.size + 1 ∨ b = s1.heap.objs.size := by simpa using hb
      have hle : s1.heap.objs.size ≤ b := by
        rcases e' with z | z
        · rw [z]; exact Nat.le_add_right _ _
        · rw [z]; exact Nat.le_refl _
      exact I1.fpOk hle (I1.hok.fresh hle)
    obtain ⟨its, rv, p'⟩ := sqX I1 hq
    have hlt := isX_lt p'
    refine call_enum_1B (begX t a its.toArray) p' fun h' he hit hsz hk => wpAny_pyIter_enum he ?_
    have I2 : Inv X pins σ H1 { s1 with heap := h' } := I1.kept (t' := s1.toks) hk
    exact ⟨s1.heap.objs.size + 1, [s1.heap.objs.size + 1, s1.heap.objs.size], _, _, H1, rfl, I2, turn_enumX t a (s1.heap.objs.size + 1) s1.heap.objs.size (Nat.ne_of_lt hlt) (Nat.ne_of_lt (Nat.lt_succ_of_lt hlt)), ⟨⟨.none, he⟩, itX_new hit, Nat.succ_ne_self _⟩, fresh2, q⟩
end Ev

namespace Ev
open PySem PySem.Spec PyProof.Rows L2
open Sem (wp)

/-! ### zip(x, y, strict=True) of two sequences of one length -/
abbrev IsZipS (h : Heap) (z TI TO : Addr) (f0 : Value) : Prop :=
  h.get? z = some { cls := .type "zip", dict := none, data := .fields #[f0, .bool false, .bool true, .ref TI, .ref TO], slots := #[] }
abbrev gzS (h : Heap) (o1 o2 : Obj) : Heap := (gzO2 h o1 o2).push { cls := .type "zip", data := .fields #[.none, .bool false, .bool true, .ref ((h.push o1).push o2).objs.size, .ref (gzT2 h o1 o2).objs.size] }
theorem typeCall_zipS (a b : Value) : checkTypeCall "zip" ⟨[a, b], [(Str.ofString "strict", .bool true)]⟩ = pure () := by kernel_rfl
theorem newCall_zipS (a b : Value) : checkBuiltinCall "zip.__new__" ⟨[.type "zip", a, b], [(Str.ofString "strict", .bool true)]⟩ = pure () := by kernel_rfl
theorem args_initS (obj a b : Value) : argsOk "object.__init__" ⟨[obj, a, b], [(Str.ofString "strict", .bool true)]⟩ := by unfold argsOk; kernel_rfl
theorem meets_zipS {v1 v2 : Value} {o1 o2 : Obj} {H1 H2 : Heap → Prop} (B1 : Begins v1 o1 H1) (B2 : Begins v2 o2 H2) :
    Meets (Builtin.«zip.__new__» ⟨[.type "zip", v1, v2], [(Str.ofString "strict", .bool true)]⟩) (fun _ R s => (H1 s.heap ∧ H2 s.heap) ∧
      R (.ok (.ret (.ref (gzO2 s.heap o1 o2).objs.size))) { s with heap := gzS s.heap o1 o2 }) :=
  .of_wp fun prog w A R s h => by
    obtain ⟨hp, g, d, tk, os⟩ := s; obtain ⟨⟨h1, h2⟩, h⟩ := h
    have hsub := sub_zip
    have e1 : (Str.ofString "strict" != Str.ofString "strict") = false := by decide +kernel
    have q1 : ∀ {A' : Around} {E : Value → Shared → Prop} {Q : Value → Shared → Prop}, Q (.ref hp.objs.size) ⟨(hp.push o1), g, d, tk, os⟩ → wpAny (model prog w) A' (pyIter v1) Q E ⟨hp, g, d, tk, os⟩ :=
      fun q => B1.iter prog w _ _ ⟨hp, g, d, tk, os⟩ _ (B1.keeps _ _ h1 fun b o' e => e) q
    have q2 : ∀ {A' : Around} {E : Value → Shared → Prop} {Q : Value → Shared → Prop}, Q (.ref (hp.push o1).objs.size) ⟨((hp.push o1).push o2), g, d, tk, os⟩ → wpAny (model prog w) A' (pyIter v2) Q E ⟨(hp.push o1), g, d, tk, os⟩ :=
      fun q => B2.iter prog w _ _ ⟨(hp.push o1), g, d, tk, os⟩ _ (B2.keeps _ _ h2 fun b o' e => (Heap.get?_push_of_some _ e)) q
    wp_walk using q1, q2
    exact ⟨_, rfl, h⟩
section
variable {prog : Program} {w : World} {A : Around} {E : Value → Shared → Prop} {s : Shared} {z TI TO i1 i2 : Addr} {fp1 fp2 : List Addr} {n1 n2 i : Nat} {P1 P2 : Nat → Value → Prop} {St1 St2 : Nat → Heap → Prop} {a1 a2 : Value}
theorem nextS_item {it : Addr} {fp : List Addr} {n : Nat} {P : Nat → Value → Prop} {St : Nat → Heap → Prop} (D : Draws prog w A it fp n P St) {i : Nat} {s : Shared} {Q : Option Value → Shared → Prop} {E : Value → Shared → Prop} (hi : i < n) (st : St i s.heap)
    (hQ : ∀ x h' tk, P i x → St (i + 1) h' → Heap.SameBut it s.heap h' → Q (some x) { s with heap := h', toks := tk }) : wpAny (model prog w) A (Builtin.SmallTypes.nextOrEnd (.ref it)) Q E s := by
  unfold Builtin.SmallTypes.nextOrEnd
  exact wpAny_bind (wpAny_attempt (D.item i s _ _ hi st fun x h' tk h1 h2 h3 => wpAny_pure (hQ x h' tk h1 h2 h3)))
theorem nextS_end {it : Addr} {fp : List Addr} {n : Nat} {P : Nat → Value → Prop} {St : Nat → Heap → Prop} (D : Draws prog w A it fp n P St) {s : Shared} {Q : Option Value → Shared → Prop} {E : Value → Shared → Prop} (st : St n s.heap)
    (hQ : ∀ h', Heap.ExtBut it s.heap h' → Q none { s with heap := h' }) : wpAny (model prog w) A (Builtin.SmallTypes.nextOrEnd (.ref it)) Q E s := by
  unfold Builtin.SmallTypes.nextOrEnd
  refine wpAny_bind (wpAny_attempt (D.done s _ _ st fun h' e hk he => ?_))
  obtain ⟨o, ho, hc⟩ := he
  refine wpAny_bind (wpAny_isInstance (T := "StopIteration") (b := true) ⟨o, ho, hc⟩ isSubtype_stop ?_)
  exact wpAny_pure (hQ _ hk)
theorem zipS_item {Q : Value → Shared → Prop} (S : ZipSep2 z TI TO i1 i2 fp1 fp2) (D1 : Draws prog w A i1 fp1 n1 P1 St1) (D2 : Draws prog w A i2 fp2 n2 P2 St2)
    (hz : IsZipS s.heap z TI TO .none) (hTI : IsTupOf2 s.heap TI (.ref i1) (.ref i2)) (hTO : IsTupOf2 s.heap TO a1 a2) (st1 : St1 i s.heap) (st2 : St2 i s.heap) (hlt1 : i < n1) (hlt2 : i < n2)
    (hQ : ∀ x1 x2 h' tk, P1 i x1 → P2 i x2 → IsZipS h' z TI TO (rawInt s.heap.objs.size) → IsTupOf2 h' TO x1 x2 → St1 (i + 1) h' → St2 (i + 1) h' → IsTupOf2 h' s.heap.objs.size x1 x2 → h'.objs.size = s.heap.objs.size + 1 →
      (∀ c o, c ≠ z → c ≠ TO → c ≠ i1 → c ≠ i2 → s.heap.get? c = some o → h'.get? c = some o) → Q (.ref s.heap.objs.size) { s with heap := h', toks := tk }) :
    wpAny (model prog w) A (Builtin.«zip.__next__» ⟨[.ref z], []⟩) (fun fin s' => ∃ v, fin = .done (.ret v) ∧ Q v s') E s := by
  obtain ⟨hp, g, d, tk0, os⟩ := s
  show wpAny _ _ (field (.ref z) 2 >>= _) _ _ _
  refine wpAny_bind (wpAny_field hz rfl (x := .bool true) rfl ?_)
  show wpAny _ _ (field (.ref z) 3 >>= _) _ _ _
  refine wpAny_bind (wpAny_field hz rfl (x := .ref TI) rfl (wpAny_bind (wpAny_seqItems hTI rfl ?_)))
  show wpAny _ _ (Builtin.SmallTypes.ownedTupleIsFree (.ref z) >>= _) _ _ _
  unfold Builtin.SmallTypes.ownedTupleIsFree
  refine wpAny_bind (wpAny_bind (wpAny_field hz rfl (x := .none) rfl (wpAny_pure ?_)))
  simp only [if_true]
  refine wpAny_bind (wpAny_rule (wpAny_bind (wpAny_field hz rfl (x := .ref TO) rfl ?_)))
  refine wpAny_bind (wpAny_setField_rec hz (by simp) fun g0 hz0 hs0 => ?_)
  replace hz0 : IsZipS g0 z TI TO .ellipsis := hz0
  replace hs0 : Heap.SameBut z hp g0 := hs0
  refine wpAny_bind ?_
  simp only [List.zipIdx_cons, List.zipIdx_nil, List.forIn_cons, List.forIn_nil]
  refine wpAny_bind (wpAny_bind (wpAny_onRaise ?_))
  show wpAny _ _ (Builtin.SmallTypes.nextOrEnd (.ref i1)) _ _ ⟨g0, g, d, tk0, os⟩
  refine nextS_item D1 hlt1 (D1.over st1 hs0 S.zf1) fun x1 p1 tk1 hx1 sn1 hp1 => ?_
  replace hp1 : Heap.SameBut i1 g0 p1 := hp1
  have hU1 : IsTupOf2 p1 TO a1 a2 := hp1.extBut _ _ S.Ti1 (hs0.extBut _ _ S.TOz hTO)
  refine wpAny_bind (wpAny_seqItems (s := ⟨p1, g, d, tk1, os⟩) hU1 rfl ?_)
  refine wpAny_bind (updateSeq_IsTupOf2 (s := ⟨p1, g, d, tk1, os⟩) hU1 fun g1 hT1 hs1 => ?_)
  replace hT1 : IsTupOf2 g1 TO x1 a2 := hT1
  replace hs1 : Heap.SameBut TO p1 g1 := hs1
  refine wpAny_bind (wpAny_letGo (wpAny_pure (wpAny_bind (wpAny_bind (wpAny_onRaise ?_)))))
  show wpAny _ _ (Builtin.SmallTypes.nextOrEnd (.ref i2)) _ _ ⟨g1, g, d, tk1, os⟩
  refine nextS_item D2 hlt2 (D2.over (D2.over (D2.over st2 hs0 S.zf2) hp1 S.sep1_2) hs1 S.Tf2) fun x2 p2 tk2 hx2 sn2 hp2 => ?_
  replace hp2 : Heap.SameBut i2 g1 p2 := hp2
  have hU2 : IsTupOf2 p2 TO x1 a2 := hp2.extBut _ _ S.Ti2 hT1
  refine wpAny_bind (wpAny_seqItems (s := ⟨p2, g, d, tk2, os⟩) hU2 rfl ?_)
  refine wpAny_bind (updateSeq_IsTupOf2 (s := ⟨p2, g, d, tk2, os⟩) hU2 fun g2 hT2 hs2 => ?_)
  replace hT2 : IsTupOf2 g2 TO x1 x2 := hT2
  replace hs2 : Heap.SameBut TO p2 g2 := hs2
  refine wpAny_bind (wpAny_letGo (wpAny_pure (wpAny_pure ?_)))
  refine wpAny_bind (wpAny_seqItems (s := ⟨g2, g, d, tk2, os⟩) hT2 rfl (wpAny_bind (wpAny_newTuple ?_)))
  have hsz : g2.objs.size = hp.objs.size := by rw [hs2.1, hp2.1, hs1.1, hp1.1, hs0.1]
  have hzz : IsZipS g2 z TI TO .ellipsis := hs2.extBut _ _ S.TOz.symm (hp2.extBut _ _ S.zi2 (hs1.extBut _ _ S.TOz.symm (hp1.extBut _ _ S.zi1 hz0)))
  have hzlt : z < g2.objs.size := Heap.lt_size hzz
  show wpAny _ _ (Builtin.SmallTypes.ownedTupleHandOut (.ref z) (.ref g2.objs.size) >>= _) _ _ ⟨g2.push { cls := .type "tuple", data := .seq #[x1, x2] }, g, d, tk2, os⟩
  unfold Builtin.SmallTypes.ownedTupleHandOut
  have hz6 : IsZipS (g2.push { cls := .type "tuple", data := .seq #[x1, x2] }) z TI TO .ellipsis := Heap.get?_push_of_some _ hzz
  refine wpAny_bind (wpAny_bind (wpAny_setField_rec hz6 (by simp) fun h7 hz7 hs7 => ?_))
  replace hz7 : IsZipS h7 z TI TO (rawInt g2.objs.size) := hz7
  refine wpAny_setField_rec hz7 (by simp) fun h8 hz8 hs8 => ?_
  replace hz8 : IsZipS h8 z TI TO (rawInt g2.objs.size) := hz8
  replace hs7 : Heap.SameBut z (g2.push { cls := .type "tuple", data := .seq #[x1, x2] }) h7 := hs7
  replace hs8 : Heap.SameBut z h7 h8 := hs8
  have up : ∀ c o, c ≠ z → g2.get? c = some o → h8.get? c = some o := fun c o c1 e => hs8.extBut _ _ c1 (hs7.extBut _ _ c1 (Heap.get?_push_of_some _ e))
  have hT8 : IsTupOf2 h8 g2.objs.size x1 x2 := hs8.extBut _ _ (Nat.ne_of_gt hzlt) (hs7.extBut _ _ (Nat.ne_of_gt hzlt) (Heap.get?_push_size _ rfl))
  have z8 : h8.objs.size = g2.objs.size + 1 := by rw [hs8.1, hs7.1, Heap.size_push]
  rw [hsz] at hz8 hT8 z8
  refine wpAny_pure ⟨_, rfl, ?_⟩
  show Q (.ref g2.objs.size) ⟨h8, g, d, tk2, os⟩
  rw [hsz]
  exact hQ x1 x2 h8 tk2 hx1 hx2 hz8 (up _ _ S.TOz hT2) (D1.frame _ _ _ (D1.over (D1.over (D1.over sn1 hs1 S.Tf1) hp2 S.sep2_1) hs2 S.Tf1) fun b hb o e => up b o (fun q => S.zf1 (q ▸ hb)) e)
    (D2.frame _ _ _ (D2.over sn2 hs2 S.Tf2) fun b hb o e => up b o (fun q => S.zf2 (q ▸ hb)) e) hT8 z8 fun c o cz cT c1 c2 e => up c o cz (hs2.extBut _ _ cT (hp2.extBut _ _ c2 (hs1.extBut _ _ cT (hp1.extBut _ _ c1 (hs0.extBut _ _ cz e)))))
theorem zipS_end {Q : Fin → Shared → Prop} (hh : A.handled = none) (S : ZipSep2 z TI TO i1 i2 fp1 fp2) (D1 : Draws prog w A i1 fp1 n1 P1 St1) (D2 : Draws prog w A i2 fp2 n2 P2 St2)
    (hz : IsZipS s.heap z TI TO .none) (hTI : IsTupOf2 s.heap TI (.ref i1) (.ref i2)) (hTO : IsTupOf2 s.heap TO a1 a2) (st1 : St1 n1 s.heap) (st2 : St2 n2 s.heap)
    (hE : ∀ h' tk e, (∀ c o, c ≠ z → c ≠ TO → c ≠ i1 → c ≠ i2 → s.heap.get? c = some o → h'.get? c = some o) → (∃ o, h'.get? e = some o ∧ o.cls = .type "StopIteration") → E (.ref e) { s with heap := h', toks := tk }) :
    wpAny (model prog w) A (Builtin.«zip.__next__» ⟨[.ref z], []⟩) Q E s := by
  obtain ⟨hp, g, d, tk0, os⟩ := s
  show wpAny _ _ (field (.ref z) 2 >>= _) _ _ _
  refine wpAny_bind (wpAny_field hz rfl (x := .bool true) rfl ?_)
  show wpAny _ _ (field (.ref z) 3 >>= _) _ _ _
  refine wpAny_bind (wpAny_field hz rfl (x := .ref TI) rfl (wpAny_bind (wpAny_seqItems hTI rfl ?_)))
  show wpAny _ _ (Builtin.SmallTypes.ownedTupleIsFree (.ref z) >>= _) _ _ _
  unfold Builtin.SmallTypes.ownedTupleIsFree
  refine wpAny_bind (wpAny_bind (wpAny_field hz rfl (x := .none) rfl (wpAny_pure ?_)))
  simp only [if_true]
  refine wpAny_bind (wpAny_rule (wpAny_bind (wpAny_field hz rfl (x := .ref TO) rfl ?_)))
  refine wpAny_bind (wpAny_setField_rec hz (by simp) fun g0 hz0 hs0 => ?_)
  replace hz0 : IsZipS g0 z TI TO .ellipsis := hz0
  replace hs0 : Heap.SameBut z hp g0 := hs0
  refine wpAny_bind ?_
  simp only [List.zipIdx_cons, List.zipIdx_nil, List.forIn_cons, List.forIn_nil]
  refine wpAny_bind (wpAny_bind (wpAny_onRaise ?_))
  show wpAny _ _ (Builtin.SmallTypes.nextOrEnd (.ref i1)) _ _ ⟨g0, g, d, tk0, os⟩
  refine nextS_end D1 (D1.over st1 hs0 S.zf1) fun q1 hq1 => ?_
  replace hq1 : Heap.ExtBut i1 g0 q1 := hq1
  have hzq : IsZipS q1 z TI TO .ellipsis := hq1 _ _ S.zi1 hz0
  refine wpAny_bind (wpAny_setField_rec (s := ⟨q1, g, d, tk0, os⟩) hzq (by simp) fun q2 hz2 hs2 => ?_)
  replace hs2 : Heap.SameBut z q1 q2 := hs2
  refine wpAny_bind ?_
  wp_delta
  rw [if_neg (by decide)]
  dsimp only [List.drop, List.zipIdx_cons, List.zipIdx_nil]
  simp only [List.zipIdx_cons, List.zipIdx_nil, List.forIn_cons, List.forIn_nil]
  have t2 : St2 n2 q2 := D2.frame _ _ _ (D2.frame _ _ _ (D2.over st2 hs0 S.zf2) fun b hb o e => hq1 b o (fun z => S.sep1_2 (z ▸ hb)) e) fun b hb o e => hs2.extBut b o (fun z => S.zf2 (z ▸ hb)) e
  refine wpAny_bind (wpAny_bind (wpAny_bind (nextS_end (s := ⟨q2, g, d, tk0, os⟩) D2 t2 fun q3 hq3 => ?_)))
  replace hq3 : Heap.ExtBut i2 q2 q3 := hq3
  simp only [Option.isSome_none, Bool.false_eq_true, if_false]
  refine wpAny_pure (wpAny_pure (wpAny_bind (wpAny_rule ?_)))
  unfold Builtin.SmallTypes.stopIteration
  refine wpAny_bind ?_
  simp only [newExc, newTuple]
  refine wpAny_bind (wpAny_newObj_type ?_ (by size_fits))
  refine wpAny_bind (m := firstArgMember _ _) (wpAny_of_eq (a := Value.none) (by first | rfl | (simp only [firstArgMember]; rfl)) ?_)
  refine wpAny_newObj_type ?_ (by size_fits)
  simp only [raiseNew]
  refine wpAny_bind (wpAny_handled ?_)
  rw [hh]
  refine wpAny_bind (wpAny_pure (wpAny_throw ?_))
  exact hE _ tk0 _ (fun c o cz cT c1 c2 e => Heap.get?_push_of_some _ (Heap.get?_push_of_some _ (hq3 _ _ c2 (hs2.extBut _ _ cz (hq1 _ _ c1 (hs0.extBut _ _ cz e)))))) ⟨_, Heap.get?_push_size _ rfl, rfl⟩
theorem pyNextS_item {Q : Option Value → Shared → Prop} (S : ZipSep2 z TI TO i1 i2 fp1 fp2) (D1 : Draws prog w A.in1 i1 fp1 n1 P1 St1) (D2 : Draws prog w A.in1 i2 fp2 n2 P2 St2)
    (hz : IsZipS s.heap z TI TO .none) (hTI : IsTupOf2 s.heap TI (.ref i1) (.ref i2)) (hTO : IsTupOf2 s.heap TO a1 a2) (st1 : St1 i s.heap) (st2 : St2 i s.heap) (hlt1 : i < n1) (hlt2 : i < n2)
    (hQ : ∀ x1 x2 h' tk, P1 i x1 → P2 i x2 → IsZipS h' z TI TO (rawInt s.heap.objs.size) → IsTupOf2 h' TO x1 x2 → St1 (i + 1) h' → St2 (i + 1) h' → IsTupOf2 h' s.heap.objs.size x1 x2 → h'.objs.size = s.heap.objs.size + 1 →
      (∀ c o, c ≠ z → c ≠ TO → c ≠ i1 → c ≠ i2 → s.heap.get? c = some o → h'.get? c = some o) → Q (some (.ref s.heap.objs.size)) { s with heap := h', toks := tk }) :
    wpAny (model prog w) A (pyNext (.ref z)) Q E s := by
  have hT : s.TypeIs (.ref z) "zip" := ⟨_, hz, rfl⟩
  unfold pyNext
  exact wpAny_bind (wpAny_attempt (wpAny_callSpecial?_slot (name := Str.ofString "__next__") hT PySem.F.slot_zip_next
    (wpAny_call_entry PySem.F.slot_zip_next hT PySem.F.entry_zip_next (zipS_item S D1 D2 hz hTI hTO st1 st2 hlt1 hlt2 fun x1 x2 h' tk y1 y2 b1 b2 d1 d2 b5 b6 b7 => wpAny_pure (hQ x1 x2 h' tk y1 y2 b1 b2 d1 d2 b5 b6 b7)) (PySem.F.args_zip_next_1 _))))
theorem pyNextS_end {Q : Option Value → Shared → Prop} (hh : A.handled = none) (S : ZipSep2 z TI TO i1 i2 fp1 fp2) (D1 : Draws prog w A.in1 i1 fp1 n1 P1 St1) (D2 : Draws prog w A.in1 i2 fp2 n2 P2 St2)
    (hz : IsZipS s.heap z TI TO .none) (hTI : IsTupOf2 s.heap TI (.ref i1) (.ref i2)) (hTO : IsTupOf2 s.heap TO a1 a2) (st1 : St1 n1 s.heap) (st2 : St2 n2 s.heap)
    (hQ : ∀ h' tk, (∀ c o, c ≠ z → c ≠ TO → c ≠ i1 → c ≠ i2 → s.heap.get? c = some o → h'.get? c = some o) → Q none { s with heap := h', toks := tk }) : wpAny (model prog w) A (pyNext (.ref z)) Q E s := by
  have hT : s.TypeIs (.ref z) "zip" := ⟨_, hz, rfl⟩
  unfold pyNext
  refine wpAny_bind (wpAny_attempt (wpAny_callSpecial?_slot (name := Str.ofString "__next__") hT PySem.F.slot_zip_next
    (wpAny_call_entry PySem.F.slot_zip_next hT PySem.F.entry_zip_next (zipS_end (A := A.in1) hh S D1 D2 hz hTI hTO st1 st2 fun h' tk e hk he => ?_) (PySem.F.args_zip_next_1 _))))
  obtain ⟨o, ho, hc⟩ := he
  refine wpAny_bind (wpAny_isInstance (T := "StopIteration") (b := true) ⟨o, ho, hc⟩ isSubtype_stop ?_)
  exact wpAny_pure (hQ _ _ hk)
theorem letGoS {elts : List Expr} {x1} {pos : Pos} {T : Addr} {Q : Unit → Shared → Prop} (hz : IsZipS s.heap z TI TO (rawInt T))
    (hQ : ∀ h', IsZipS h' z TI TO .none → Heap.SameBut z s.heap h' → Q () { s with heap := h' }) :
    wpAny (model prog w) A (letOwnedTupleGo (.Tuple elts x1 pos) (.ref z) (.ref T)) Q E s := by
  unfold letOwnedTupleGo
  refine wpAny_bind (wpAny_load hz ?_)
  show wpAny _ _ (if (["enumerate", "zip", "dict_itemiterator", "dict_reverseitemiterator", "odict_iterator", "itertools.zip_longest", "itertools.pairwise"].contains "zip" &&
      (#[rawInt T, .bool false, .bool true, .ref TI, .ref TO] : Array Value)[0]? == some (rawInt T)) = true then _ else _) Q E s
  rw [if_pos (by simp)]
  refine wpAny_bind (wpAny_rule ?_)
  show wpAny _ _ (setField (.ref z) 0 .none) Q E s
  exact wpAny_setField_rec hz (by simp) fun h' hz' hs' => hQ h' hz' hs'
theorem pyIterS {f0 : Value} {Q : Value → Shared → Prop} (hz : IsZipS s.heap z TI TO f0) (h : Q (.ref z) s) : wpAny (model prog w) A (pyIter (.ref z)) Q E s := by
  have hT : s.TypeIs (.ref z) "zip" := ⟨_, hz, rfl⟩
  refine wpAny_pyIter_slot hT PySem.F.slot_zip_iter (wpAny_call_entry PySem.F.slot_zip_iter hT PySem.F.entry_zip_iter ?_ (PySem.F.args_zip_iter_1 _))
  show wpAny _ _ (ret (.ref z)) _ _ s
  exact wpAny_pure ⟨_, rfl, "zip", _, hT, PySem.F.slot_zip_next.lookup, h⟩
theorem zipS_begins {v1 v2 : Value} {o1 o2 : Obj} {H1 H2 : Heap → Prop} {Q : Value → Shared → Prop} (B1 : Begins v1 o1 H1) (B2 : Begins v2 o2 H2) (h1 : H1 s.heap) (h2 : H2 s.heap)
    (h : ∀ h', IsZipS h' (s.heap.objs.size + 4) (s.heap.objs.size + 2) (s.heap.objs.size + 3) .none → IsTupOf2 h' (s.heap.objs.size + 2) (.ref s.heap.objs.size) (.ref (s.heap.objs.size + 1)) →
      IsTupOf2 h' (s.heap.objs.size + 3) .none .none → h'.get? s.heap.objs.size = some o1 → h'.get? (s.heap.objs.size + 1) = some o2 →
      (∀ c o, s.heap.get? c = some o → h'.get? c = some o) → Q (.ref (s.heap.objs.size + 4)) { s with heap := h' }) :
    wpAny (model prog w) A (call (.type "zip") [v1, v2] [(Str.ofString "strict", .bool true)]) Q E s := by
  refine callType_newKw PySem.F.called_zip (by decide) (typeCall_zipS _ _) (newCall_zipS _ _) (fun obj => args_initS obj _ _) PySem.F.entry_zip_new (meets_zipS B1 B2) ⟨⟨h1, h2⟩, ?_⟩
  have z1 : (s.heap.push o1).objs.size = s.heap.objs.size + 1 := by rw [Heap.size_push]
  have z2 : ((s.heap.push o1).push o2).objs.size = s.heap.objs.size + 2 := by rw [Heap.size_push, z1]
  have zT : (gzT2 s.heap o1 o2).objs.size = s.heap.objs.size + 3 := by rw [Heap.size_push, z2]
  have zO : (gzO2 s.heap o1 o2).objs.size = s.heap.objs.size + 4 := by rw [Heap.size_push, zT]
  have gZ : (gzS s.heap o1 o2).get? (gzO2 s.heap o1 o2).objs.size = some { cls := .type "zip", data := .fields #[.none, .bool false, .bool true, .ref ((s.heap.push o1).push o2).objs.size, .ref (gzT2 s.heap o1 o2).objs.size] } := Heap.get?_push_size _ rfl
  have up : ∀ c o, (gzO2 s.heap o1 o2).get? c = some o → (gzS s.heap o1 o2).get? c = some o := fun c o e => Heap.get?_push_of_some _ e
  have gO := up _ _ (Heap.get?_push_size (gzT2 s.heap o1 o2) (o := { cls := .type "tuple", data := .seq #[.none, .none] }) rfl)
  have gT := up _ _ (Heap.get?_push_of_some { cls := .type "tuple", data := .seq #[.none, .none] } (Heap.get?_push_size ((s.heap.push o1).push o2) (o := { cls := .type "tuple", data := .seq #[.ref s.heap.objs.size, .ref (s.heap.push o1).objs.size] }) rfl))
  have base : ∀ c o, ((s.heap.push o1).push o2).get? c = some o → (gzS s.heap o1 o2).get? c = some o := fun c o e => up _ _ (Heap.get?_push_of_some _ (Heap.get?_push_of_some _ e))
  have g1 := base _ _ (Heap.get?_push_of_some o2 (Heap.get?_push_size s.heap (o := o1) B1.free))
  have g2 := base _ _ (Heap.get?_push_size (s.heap.push o1) (o := o2) B2.free)
  rw [zO, zT, z2] at gZ
  rw [zT] at gO
  rw [z2, z1] at gT
  rw [z1] at g2
  show _ ∧ _
  rw [zO]
  exact ⟨⟨_, gZ, rfl⟩, h _ gZ gT gO g1 g2 fun c o e => base _ _ (Heap.get?_push_of_some _ (Heap.get?_push_of_some _ e))⟩
end
def ItzS (K : PySem.W.Frag) (t1 t2 : Bool) (a b : Addr) : It :=
  ⟨fun i H => ∃ (xs ys : List V) (x y : V), SqX K H t1 a xs ∧ SqX K H t2 b ys ∧ xs[i]? = some x ∧ ys[i]? = some y,
    fun i H v H' => ∃ T x y, v = .ref T ∧ H T = none ∧ NewT H T [x, y] H' ∧ (∀ xs, SqX K H t1 a xs → xs[i]? = some x) ∧ ∀ ys, SqX K H t2 b ys → ys[i]? = some y,
    fun i H => ∃ xs ys : List V, SqX K H t1 a xs ∧ SqX K H t2 b ys ∧ xs.length = i ∧ ys.length = i⟩
theorem turn_zipS {P : Program} {w : World} {K : PySem.W.Frag} {elts : List Expr} {kk : Nat} {tpos : Pos} {t1 t2 : Bool} {a b z TI TO i1 i2 : Addr} (D : ZipSep2 z TI TO i1 i2 [i1, a] [i2, b]) (hai : a ≠ i1) (hbi : b ≠ i2) :
    Turn P w K (.Tuple elts kk tpos) (ItzS K t1 t2 a b) [z, TI, TO, i1, i2] z (fun i h => IsZipS h z TI TO .none ∧ IsTupOf2 h TI (.ref i1) (.ref i2) ∧ (∃ x y, IsTupOf2 h TO x y) ∧ ItX h t1 i1 a i ∧ ItX h t2 i2 b i) where
  mem := by simp
  obj := fun i h st c hc => by
    obtain ⟨hz, hTI, ⟨x, y, hTO⟩, h1, h2⟩ := st
    obtain ⟨o1, e1, d1⟩ := itX_obj h1
    obtain ⟨o2, e2, d2⟩ := itX_obj h2
    have e' : c = z ∨ c = TI ∨ c = TO ∨ c = i1 ∨ c = i2 := by simpa using hc
    rcases e' with q | q | q | q | q
    · rw [q]; exact ⟨_, hz, fun v q => nomatch q⟩
    · rw [q]; exact ⟨_, hTI, fun v q => nomatch q⟩
    · rw [q]; exact ⟨_, hTO, fun v q => nomatch q⟩
    · rw [q]; exact ⟨o1, e1, fun v q => by rw [d1] at q; cases q⟩
    · rw [q]; exact ⟨o2, e2, fun v q => by rw [d2] at q; cases q⟩
  keep := fun i h h' st k => by
    obtain ⟨hz, hTI, ⟨x, y, hTO⟩, h1, h2⟩ := st
    exact ⟨k z (by simp) _ hz, k TI (by simp) _ hTI, ⟨x, y, k TO (by simp) _ hTO⟩, itX_at h1 fun o q => k i1 (by simp) o q, itX_at h2 fun o q => k i2 (by simp) o q⟩
  item := by
    intro X hP hw hK hc i pins s σ H E I hf st hg
    subst hP hw hK
    obtain ⟨hz, hTI, ⟨x0, y0, hTO⟩, h1, h2⟩ := st
    obtain ⟨xs, ys, x, y, hqx, hqy, hx, hy⟩ := hg
    obtain ⟨its, rv, p⟩ := sqX I hqx
    obtain ⟨its2, rv2, p2⟩ := sqX I hqy
    obtain ⟨u, hu, ru⟩ := rv.get hx
    obtain ⟨u2, hu2, ru2⟩ := rv2.get hy
    have hzl : z < s.heap.objs.size := Heap.lt_size hz
    have hlt1 : i < its.toArray.size := by simpa using (List.getElem?_eq_some_iff.mp hu).1
    have hlt2 : i < its2.toArray.size := by simpa using (List.getElem?_eq_some_iff.mp hu2).1
    have hh : X.A.in1.handled = none := I.ok.hd hc
    refine pyNextS_item D (drX hh t1 i1 a hai its.toArray) (drX hh t2 i2 b hbi its2.toArray) hz hTI hTO ⟨h1, p⟩ ⟨h2, p2⟩ hlt1 hlt2 fun v1 v2 h' tk hv1 hv2 z' TO' h1' h2' hT hsz hk => ?_
    obtain rfl : v1 = u := by
      have : its.toArray[i]? = some v1 := hv1
      simp [hu] at this
      exact this.symm
    obtain rfl : v2 = u2 := by
      have : its2.toArray[i]? = some v2 := hv2
      simp [hu2] at this
      exact this.symm
    refine ⟨_, rfl, letGoS (s := { s with heap := h', toks := tk }) z' fun h'' z'' sb => ?_⟩
    have hT2 : h''.get? s.heap.objs.size = some { cls := .type "tuple", data := .seq #[v1, v2] } := (sb.2 _ (Nat.ne_of_gt hzl)).trans hT
    have new : ObjOk X.prog X.w (upd H s.heap.objs.size (.frz (tupO #[v1, v2]) (.tup [x, y]))) h'' s.heap.objs.size (.frz (tupO #[v1, v2]) (.tup [x, y])) :=
      ⟨hT2, by show 2 ≤ sizeLine; decide, [v1, v2], .cons ru (.cons ru2 .nil), ⟨_, hT2, rfl, _, rfl⟩⟩
    have I1 : Inv X pins σ (upd H s.heap.objs.size (.frz (tupO #[v1, v2]) (.tup [x, y]))) { s with heap := h'', toks := tk } :=
      I.turnedNew (t' := tk) (ch := [z, TI, TO, i1, i2]) (fun c o hb q => (sb.2 c (fun q' => hb (by simp [q']))).trans (hk c o (fun q' => hb (by simp [q'])) (fun q' => hb (by simp [q'])) (fun q' => hb (by simp [q'])) (fun q' => hb (by simp [q'])) q)) hf (Nat.le_refl _) new
    refine ⟨.ref s.heap.objs.size, _, I1, rfl, ⟨_, x, y, rfl, I.hok.fresh (Nat.le_refl _), ⟨_, rfl, rfl⟩, fun l hl => by rw [sqX_inj I hl hqx]; exact hx, fun l hl => by rw [sqX_inj I hl hqy]; exact hy⟩, ⟨z'', ?_, ⟨v1, v2, ?_⟩, ?_, ?_⟩, fun c hcm => ?_⟩
    · exact (sb.2 _ D.TIz).trans (hk _ _ D.TIz D.TITO D.TIi1 D.TIi2 hTI)
    · exact (sb.2 _ D.TOz).trans TO'
    · exact itX_at h1'.1 fun o q => (sb.2 _ D.zi1.symm).trans q
    · exact itX_at h2'.1 fun o q => (sb.2 _ D.zi2.symm).trans q
    · have hlt : c < s.heap.objs.size := by
        have e' : c = z ∨ c = TI ∨ c = TO ∨ c = i1 ∨ c = i2 := by simpa using hcm
        rcases e' with q | q | q | q | q
        · rw [q]; exact hzl
        · rw [q]; exact Heap.lt_size hTI
        · rw [q]; exact Heap.lt_size hTO
        · rw [q]; obtain ⟨_, e1, _⟩ := itX_obj h1; exact Heap.lt_size e1
        · rw [q]; obtain ⟨_, e2, _⟩ := itX_obj h2; exact Heap.lt_size e2
      rw [upd_ne (Nat.ne_of_lt hlt)]
      exact (hf c hcm).1
  done := by
    intro X hP hw hK hc i pins s σ H E I hf st hg
    subst hP hw hK
    obtain ⟨hz, hTI, ⟨x0, y0, hTO⟩, h1, h2⟩ := st
    obtain ⟨xs, ys, hqx, hqy, hend⟩ := hg
    obtain ⟨its, rv, p⟩ := sqX I hqx
    obtain ⟨its2, rv2, p2⟩ := sqX I hqy
    have l1 := rv.length
    have l2 := rv2.length
    have hh : X.A.in1.handled = none := I.ok.hd hc
    obtain ⟨e1, e2⟩ := hend
    have s1 : its.toArray.size = i := by simp; omega
    have s2 : its2.toArray.size = i := by simp; omega
    have D1 := drX (prog := X.prog) (w := X.w) (A := X.A.in1) hh t1 i1 a hai its.toArray
    have D2 := drX (prog := X.prog) (w := X.w) (A := X.A.in1) hh t2 i2 b hbi its2.toArray
    exact pyNextS_end hh D D1 D2 hz hTI hTO ⟨by rw [s1]; exact h1, p⟩ ⟨by rw [s2]; exact h2, p2⟩ fun h' tk hk => ⟨rfl, I.turnedL (t' := tk) (ch := [z, TI, TO, i1, i2]) (fun c o hb q =>
      hk c o (fun q' => hb (by simp [q'])) (fun q' => hb (by simp [q'])) (fun q' => hb (by simp [q'])) (fun q' => hb (by simp [q'])) q) hf⟩
  self := fun A i s Q E st h => pyIterS st.1 h
def iZipS (K : PySem.W.Frag) (ta : TA) : TI := fun σ H R => ta σ H fun vs H1 => ∃ a b xs ys t1 t2, vs = [.ref a, .ref b] ∧ SqX K H1 t1 a xs ∧ SqX K H1 t2 b ys ∧ R (ItzS K t1 t2 a b) H1
theorem pi_zipS {X : Cx} {e e2 : Expr} {ta : TA} {p pos kp tpos jp : Pos} {j : Nat} {elts : List Expr} {kk : Nat} (hg : Gl X "zip") (hm : X.mg "zip" = none) (ha : PA X [e, e2] ta)
    (hs : starEach [e, e2] X.env = (false, eval e X.env) :: starEach [e2] X.env) (hpl : (backTo pos (starEach [e, e2] X.env)).any (·.1) = false) :
    PI X (.Tuple elts kk tpos) (.Call (.Name "zip" p) [e, e2] [⟨some "strict", .Constant (.bool true) j jp, kp⟩] pos) (iZipS X.K ta) := by
  refine ⟨fun pins s σ H R I h => ?_⟩
  refine wpAny_Call_Name_kw (ld_blt I hg hm PyProof.Rows.boot_zip ?_)
  refine PySem.W.callWith_of (P := fun _ => True) (by rw [hpl]; rfl) (fun _ _ => ⟨.machine, .inr (.inl rfl), PySem.W.Looks.of_pure rfl⟩) (PyProof.Rows.evalArgs_kw2 rfl (thn (ha.run pos pins s σ H _ I h) fun us s1 ⟨vs, H1, I1, r1, q1⟩ => ?_) hs)
  refine wpAny_evalAll_cons (wpAny_bind (wpAny_pure (wpAny_bind (wpAny_standAt (wpAny_pure (wpAny_evalAll_nil ?_))))))
  refine ⟨True.intro, ?_⟩
  obtain ⟨a, b, xs, ys, t1, t2, ex, hqx, hqy, q⟩ := q1
  subst ex
  cases r1 with
  | cons r rr =>
    cases rr with
    | cons r' rr =>
      cases rr
      cases r
      cases r'
      have fresh5 : ∀ c, c ∈ [s1.heap.objs.size + 4, s1.heap.objs.size + 2, s1.heap.objs.size + 3, s1.heap.objs.size, s1.heap.objs.size + 1] → FpOk X pins H1 c := fun c hcm => by
        have e' : c = s1.heap.objs.size + 4 ∨ c = s1.heap.objs.size + 2 ∨ c = s1.heap.objs.size + 3 ∨ c = s1.heap.objs.size ∨ c = s1.heap.objs.size + 1 := by simpa using hcm
        have hle : s1.heap.objs.size ≤ c := by
          rcases e' with z | z | z | z | z
          · rw [z]; exact Nat.le_add_right _ _
          · rw [z]; exact Nat.le_add_right _ _
          · rw [z]; exact Nat.le_add_right _ _
          · rw [z]; exact Nat.le_refl _
          · rw [z]; exact Nat.le_add_right _ _
        exact I1.fpOk hle (I1.hok.fresh hle)
      obtain ⟨its, rv, p1⟩ := sqX I1 hqx
      obtain ⟨its2, rv2, p2⟩ := sqX I1 hqy
      have la := isX_lt p1
      have lb := isX_lt p2
      refine zipS_begins (begX t1 a its.toArray) (begX t2 b its2.toArray) p1 p2 fun h' hz hTI hTO h1 h2 hk => pyIterS hz ?_
      have I2 : Inv X pins σ H1 { s1 with heap := h' } := I1.kept (t' := s1.toks) hk
      exact ⟨s1.heap.objs.size + 4, [s1.heap.objs.size + 4, s1.heap.objs.size + 2, s1.heap.objs.size + 3, s1.heap.objs.size, s1.heap.objs.size + 1], _, _, H1, rfl, I2,
        turn_zipS (zip_sep2 (fp1 := [a]) (fp2 := [b]) (by simpa using la) (by simpa using lb)) (Nat.ne_of_lt la) (Nat.ne_of_lt (Nat.lt_succ_of_lt lb)), ⟨hz, hTI, ⟨_, _, hTO⟩, itX_new h1, itX_new h2⟩, fresh5, q⟩
end Ev

namespace Ev
open PySem PySem.Spec PyProof.Rows L2

/-! ### targets -/
abbrev TgV := Vl → Rho → Sto → Option Rho
abbrev TgVs := List PyData → Rho → Sto → Option Rho
def tgName (i : Nat) : TgV := fun x ρ _ => some (ρ.set i (some x))
def tgNil : TgVs := fun ds ρ _ => match ds with
  | [] => some ρ
  | _ => none
def tgCons (t : TgV) (ts : TgVs) : TgVs := fun ds ρ M => match ds with
  | d :: ds => (t (.d d) ρ M).bind fun ρ' => ts ds ρ' M
  | [] => none
def tgTup (n : Nat) (ts : TgVs) : TgV := fun x ρ M => match peek M x with
  | some d => (match itemsOf d with
    | some ds => if ds.length = n then ts ds ρ M else none
    | none => none)
  | none => none
/-- the same but for the slots sl -/
def Off (sl : List Nat) (σ σ' : L2.St) : Prop := σ'.length = σ.length ∧ ∀ j, j ∉ sl → σ'[j]? = σ[j]?
theorem Off.refl (sl : List Nat) (σ : L2.St) : Off sl σ σ := ⟨rfl, fun _ _ => rfl⟩
theorem Off.trans {sl sl' : List Nat} {σ σ1 σ2 : L2.St} (a : Off sl σ σ1) (b : Off sl' σ1 σ2) : Off (sl ++ sl') σ σ2 :=
  ⟨b.1.trans a.1, fun j hj => (b.2 j fun h => hj (List.mem_append_right _ h)).trans (a.2 j fun h => hj (List.mem_append_left _ h))⟩
theorem off_wipe {sl vs : List Nat} {σ σ' : L2.St} (h : Off sl σ σ') (hs : ∀ j ∈ sl, j ∈ vs) : wipe σ' vs = wipe σ vs := by
  refine List.ext_getElem? fun j => ?_
  have key : ∀ (τ : L2.St) (vs : List Nat), (wipe τ vs)[j]? = if j ∈ vs then (if j < τ.length then some none else none) else τ[j]? := by
    intro τ vs
    induction vs with
    | nil => rfl
    | cons v vs ih =>
      show ((wipe τ vs).set v none)[j]? = _
      by_cases hv : v = j
      · subst hv
        rw [if_pos List.mem_cons_self]
        by_cases hl : v < τ.length
        · rw [List.getElem?_set_self (by rw [wipe_length]; exact hl), if_pos hl]
        · rw [if_neg hl, List.getElem?_eq_none (by rw [List.length_set, wipe_length]; exact Nat.le_of_not_lt hl)]
      · rw [List.getElem?_set_ne hv, ih]
        by_cases hm : j ∈ vs
        · rw [if_pos hm, if_pos (List.mem_cons_of_mem _ hm)]
        · rw [if_neg hm, if_neg (fun h => (List.mem_cons.mp h).elim (fun e => hv e.symm) hm)]
  rw [key, key, h.1]
  by_cases hj : j ∈ vs
  · rw [if_pos hj, if_pos hj]
  · rw [if_neg hj, if_neg hj]
    exact h.2 j fun hm => hj (hs j hm)
def aG (K : PySem.W.Frag) (sl : List Nat) (t : TgV) : TG := fun v σ H Q => ∃ ρ M W x, RelM K W H M ∧ SltR K W σ ρ ∧ VlR K W v x ∧ ∃ ρ', t x ρ M = some ρ' ∧ ∀ σ', SltR K W σ' ρ' → Off sl σ σ' → Q σ' H
def aGs (K : PySem.W.Frag) (sl : List Nat) (t : TgVs) : TGs := fun vs σ H Q => ∃ ρ M W xs, RelM K W H M ∧ SltR K W σ ρ ∧ DqAll K W.Z vs xs ∧ ∃ ρ', t xs ρ M = some ρ' ∧ ∀ σ', SltR K W σ' ρ' → Off sl σ σ' → Q σ' H
theorem PG.mono {X : Cx} {e : Expr} {t t' : TG} (h : PG X e t) (m : ∀ v σ H Q, t' v σ H Q → t v σ H Q) : PG X e t' := ⟨fun pins s σ H v u Q I r q => h.run pins s σ H v u Q I r (m _ _ _ _ q)⟩
theorem PGs.mono {X : Cx} {e : List Expr} {t t' : TGs} (h : PGs X e t) (m : ∀ v σ H Q, t' v σ H Q → t v σ H Q) : PGs X e t' := ⟨fun pins s σ H v u Q I r q => h.run pins s σ H v u Q I r (m _ _ _ _ q)⟩
theorem PG.or {X : Cx} {e : Expr} {t t' : TG} (h : PG X e t) (h' : PG X e t') : PG X e (fun v σ H Q => t v σ H Q ∨ t' v σ H Q) := ⟨fun pins s σ H v u Q I r q => q.elim (fun q => h.run pins s σ H v u Q I r q) fun q => h'.run pins s σ H v u Q I r q⟩
section
variable {X : Cx} {pos : Pos} {es : List Expr} {e : Expr} {sl sl' : List Nat} {t : TgV} {ts : TgVs}
theorem sg_name {i : Nat} {x : Str} (hN : X.N.Nodup) (hi : X.N[i]? = some x) (hx : Loc X.env.scope x) (hf : X.fn x = true ∨ X.env.scope.names.lookup x = some .local) : PG X (.Name x pos) (aG X.K [i] (tgName i)) := by
  refine PG.mono (pg_name hN hi hx hf) fun v σ H Q h => ?_
  obtain ⟨ρ, M, W, x, R, S, r, ρ', e, q⟩ := h
  cases e
  refine q _ (S.set r i) ⟨by rw [List.length_set], fun j hj => ?_⟩
  rw [List.getElem?_set_ne (fun h => hj (by rw [h]; exact List.mem_cons_self))]
theorem assign_one (h : notStar e = true) (es : List Expr) (env : Env) : assignEach (e :: es) env = (false, assign e env) :: assignEach es env := by
  cases e <;> first | rfl | cases h
theorem sgs_nil : PGs X [] (aGs X.K [] tgNil) := by
  refine PGs.mono pgs_nil fun v σ H Q h => ?_
  obtain ⟨ρ, M, W, xs, R, S, r, ρ', e, q⟩ := h
  cases r with
  | nil => cases e; exact ⟨rfl, q σ S (Off.refl _ _)⟩
  | cons _ _ => cases e
theorem sgs_cons (h1 : PG X e (aG X.K sl t)) (h2 : PGs X es (aGs X.K sl' ts)) (hs : notStar e = true) : PGs X (e :: es) (aGs X.K (sl ++ sl') (tgCons t ts)) := by
  refine PGs.mono (pgs_cons h1 h2 (by rw [assign_one hs]; rfl)) fun v σ H Q h => ?_
  obtain ⟨ρ, M, W, xs, R, S, r, ρ', e, q⟩ := h
  cases r with
  | nil => cases e
  | cons h t2 =>
    rename_i v vs d ds
    simp only [tgCons] at e
    cases e1 : t (.d d) ρ M with
    | none => rw [e1] at e; cases e
    | some ρ1 =>
      rw [e1] at e
      exact ⟨v, vs, rfl, ρ, M, W, .d d, R, S, h, ρ1, e1, fun σ1 S1 o1 => ⟨ρ1, M, W, ds, R, S1, t2, ρ', e, fun σ2 S2 o2 => q σ2 S2 (o1.trans o2)⟩⟩
theorem assign_len : ∀ (es : List Expr) (env : Env), (assignEach es env).length = es.length
  | [], _ => rfl
  | e :: es, env => by
    cases e <;> (show (assignEach es env).length + 1 = es.length + 1; rw [assign_len es env])
theorem assign_nostar : ∀ (es : List Expr) (env : Env), es.all notStar = true → (assignEach es env).findIdx? (·.1) = none
  | [], _, _ => rfl
  | e :: es, env, h => by
    rw [List.all_cons, Bool.and_eq_true] at h
    rw [assign_one h.1, List.findIdx?_cons, assign_nostar es env h.2]
    rfl
theorem sg_tup {k : Nat} (hc : X.calm = true) (h : PGs X es (aGs X.K sl ts)) (hs : es.all notStar = true) : PG X (.Tuple es k pos) (aG X.K sl (tgTup es.length ts)) := by
  refine PG.mono (PG.or (pg_tup hc h (assign_len es _) (assign_nostar es _ hs)) (pg_lst hc h (assign_len es _) (assign_nostar es _ hs))) fun v σ H Q h => ?_
  obtain ⟨ρ, M, W, x, R, S, r, ρ', e, q⟩ := h
  simp only [tgTup] at e
  cases e1 : peek M x with
  | none => rw [e1] at e; cases e
  | some d =>
    simp only [e1] at e
    have pa := peek_pk R r e1
    cases d with
    | tuple ds =>
      simp only [itemsOf] at e
      split at e
      · rename_i hl
        obtain ⟨a, vs, rfl, _, hp, hd⟩ := pa.tuple R
        exact .inl ⟨a, vs, rfl, hp, by rw [hd.length]; exact hl, ρ, M, W, ds, R, S, hd, ρ', e, q⟩
      · cases e
    | list ds =>
      simp only [itemsOf] at e
      split at e
      · rename_i hl
        obtain ⟨a, vs, rfl, hp, hd⟩ := pa.list R
        exact .inr ⟨a, vs, rfl, hp, by rw [hd.length]; exact hl, ρ, M, W, ds, R, S, hd, ρ', e, q⟩
      · cases e
    | _ => simp only [itemsOf] at e; cases e
end

/-! ### what a loop walks -/
inductive ISrc where
  | lst (x : Vl)
  | tup (x : Vl)
  | rng (lo : Int) (n : Nat)
  | zip (t1 t2 : Bool) (x y : Vl)
  | zipS (t1 t2 : Bool) (x y : Vl)
  | enu (t : Bool) (x : Vl)
  | str (z : Str)
def lsD (M : Sto) (x : Vl) : Option (List PyData) := match peek M x with
  | some (.list xs) => some xs
  | _ => none
def tpD (M : Sto) (x : Vl) : Option (List PyData) := match peek M x with
  | some (.tuple xs) => some xs
  | _ => none
def sqD (t : Bool) (M : Sto) (x : Vl) : Option (List PyData) := match t with
  | true => tpD M x
  | false => lsD M x
def pairAt (xs ys : List PyData) (i : Nat) : Option Vl := match xs[i]?, ys[i]? with
  | some x, some y => some (.d (.tuple [x, y]))
  | _, _ => none
/-- turn i: none is bad; some none is the end -/
def ISrc.step (i : Nat) (M : Sto) : ISrc → Option (Option Vl)
  | .lst x => (lsD M x).map fun xs => xs[i]?.map .d
  | .tup x => (tpD M x).map fun xs => xs[i]?.map .d
  | .rng lo n => some (if i < n then some (.d (.int (lo + i))) else none)
  | .zip t1 t2 x y => match sqD t1 M x, sqD t2 M y with
    | some xs, some ys => some (pairAt xs ys i)
    | _, _ => none
  | .zipS t1 t2 x y => match sqD t1 M x, sqD t2 M y with
    | some xs, some ys => if xs.length = ys.length ∧ i ≤ xs.length then some (pairAt xs ys i) else none
    | _, _ => none
  | .enu t x => (sqD t M x).map fun xs => xs[i]?.map fun y => .d (.tuple [.int (i : Nat), y])
  | .str z => some (z.cps[i]?.map fun c => .d (.str ⟨#[c]⟩))
/-- the turns at most -/
def ISrc.size (M : Sto) : ISrc → Nat
  | .lst x => match lsD M x with
    | some xs => xs.length
    | none => 0
  | .tup x => match tpD M x with
    | some xs => xs.length
    | none => 0
  | .rng _ n => n
  | .zip t1 _ x _ => match sqD t1 M x with
    | some xs => xs.length
    | none => 0
  | .zipS t1 _ x _ => match sqD t1 M x with
    | some xs => xs.length
    | none => 0
  | .enu t x => match sqD t M x with
    | some xs => xs.length
    | none => 0
  | .str z => z.cps.size
def ItR (K : PySem.W.Frag) (W : Wd) (J : It) (src : ISrc) : Prop := ∀ W' H M i, W.le W' → RelM K W' H M →
  (src.step i M = some none → J.stop i H) ∧ ∀ x, src.step i M = some (some x) → J.go i H ∧ ∀ v H', J.yld i H v H' → ∃ W2, W'.le W2 ∧ RelM K W2 H' M ∧ VlR K W2 v x
theorem ItR.mono {K : PySem.W.Frag} {W W1 : Wd} {J : It} {src : ISrc} (l : W.le W1) (h : ItR K W J src) : ItR K W1 J src := fun W' H M i l' => h W' H M i (l.trans l')
def aIt (K : PySem.W.Frag) (W0 : WX) (g : Rho → Sto → Out ISrc) : TI := fun σ H R => ∃ ρ M W, RelM K W H M ∧ SltR K W σ ρ ∧ Post (ItR K) K W0 W σ (g ρ M) R
theorem PI.mono {X : Cx} {tg e : Expr} {t t' : TI} (h : PI X tg e t) (m : ∀ σ H Q, t' σ H Q → t σ H Q) : PI X tg e t' := ⟨fun pins s σ H Q I q => h.run pins s σ H Q I (m _ _ _ q)⟩
theorem PI.or {X : Cx} {tg e : Expr} {t t' : TI} (h : PI X tg e t) (h' : PI X tg e t') : PI X tg e (fun σ H Q => t σ H Q ∨ t' σ H Q) := ⟨fun pins s σ H Q I q => q.elim (fun q => h.run pins s σ H Q I q) fun q => h'.run pins s σ H Q I q⟩
section
variable {K : PySem.W.Frag} {W : Wd} {H : Hp} {M : Sto}
theorem lsD_ok (R : RelM K W H M) {v : V} {x : Vl} {xs : List PyData} (r : VlR K W v x) (e : lsD M x = some xs) : ∃ a vs, v = .ref a ∧ SqL K H a vs ∧ DqAll K W.Z vs xs := by
  unfold lsD at e
  cases e1 : peek M x with
  | none => rw [e1] at e; cases e
  | some d =>
    rw [e1] at e
    cases d with
    | list ys => cases e; exact (peek_pk R r e1).list R
    | _ => cases e
theorem tpD_ok (R : RelM K W H M) {v : V} {x : Vl} {xs : List PyData} (r : VlR K W v x) (e : tpD M x = some xs) : ∃ a vs, v = .ref a ∧ SqT K H a vs ∧ DqAll K W.Z vs xs := by
  unfold tpD at e
  cases e1 : peek M x with
  | none => rw [e1] at e; cases e
  | some d =>
    rw [e1] at e
    cases d with
    | tuple ys =>
      cases e
      obtain ⟨a, vs, h1, h2, h3, h4⟩ := (peek_pk R r e1).tuple R
      exact ⟨a, vs, h1, h3, h4⟩
    | _ => cases e
theorem none_len {xs : List PyData} {vs : List V} {i : Nat} (d : DqAll K W.Z vs xs) (h : xs[i]? = none) : vs.length ≤ i := by
  rw [d.length]
  exact List.getElem?_eq_none_iff.mp h
theorem itr_lst {a : Addr} {x : Vl} (r : VlR K W (.ref a) x) : ItR K W (Itl K a) (.lst x) := by
  intro W' H M i l R
  simp only [ISrc.step]
  cases e : lsD M x with
  | none => exact ⟨fun h => (by cases h), fun x h => (by cases h)⟩
  | some xs =>
    obtain ⟨a', vs, ea, hp, hd⟩ := lsD_ok R (r.mono l) e
    cases ea
    cases e2 : xs[i]? with
    | none => exact ⟨fun _ => ⟨vs, hp, none_len hd e2⟩, fun x h => by simp [e2] at h⟩
    | some d =>
      obtain ⟨w, hw, dw⟩ := hd.get e2
      refine ⟨fun h => by simp [e2] at h, fun y h => ?_⟩
      have ey : y = .d d := by simp [e2] at h; exact h.symm
      subst ey
      refine ⟨⟨vs, w, hp, hw⟩, fun v H' q => ?_⟩
      obtain ⟨rfl, q⟩ := q
      have := q vs hp
      rw [hw] at this
      cases this
      exact ⟨W', Wd.le.refl _, R, dw⟩
theorem itr_tup {a : Addr} {x : Vl} (r : VlR K W (.ref a) x) : ItR K W (Itt K a) (.tup x) := by
  intro W' H M i l R
  simp only [ISrc.step]
  cases e : tpD M x with
  | none => exact ⟨fun h => (by cases h), fun x h => (by cases h)⟩
  | some xs =>
    obtain ⟨a', vs, ea, hp, hd⟩ := tpD_ok R (r.mono l) e
    cases ea
    cases e2 : xs[i]? with
    | none => exact ⟨fun _ => ⟨vs, hp, none_len hd e2⟩, fun x h => by simp [e2] at h⟩
    | some d =>
      obtain ⟨w, hw, dw⟩ := hd.get e2
      refine ⟨fun h => by simp [e2] at h, fun y h => ?_⟩
      have ey : y = .d d := by simp [e2] at h; exact h.symm
      subst ey
      refine ⟨⟨vs, w, hp, hw⟩, fun v H' q => ?_⟩
      obtain ⟨rfl, q⟩ := q
      have := q vs hp
      rw [hw] at this
      cases this
      exact ⟨W', Wd.le.refl _, R, dw⟩
theorem itr_rng (lo : Int) (n : Nat) : ItR K W (Itr lo n) (.rng lo n) := by
  intro W' H M i l R
  simp only [ISrc.step]
  by_cases h : i < n
  · rw [if_pos h]
    refine ⟨fun h => (by cases h), fun y e => ?_⟩
    cases e
    refine ⟨h, fun v H' q => ?_⟩
    obtain ⟨rfl, rfl⟩ := q
    exact ⟨W', Wd.le.refl _, R, .int _⟩
  · rw [if_neg h]
    exact ⟨fun _ => Nat.le_of_not_lt h, fun y e => by cases e⟩
theorem itr_str (z : Str) : ItR K W (Its z) (.str z) := by
  intro W' H M i l R
  simp only [ISrc.step]
  cases e : z.cps[i]? with
  | none => exact ⟨fun _ => Array.getElem?_eq_none_iff.mp e, fun y e => by cases e⟩
  | some c =>
    refine ⟨fun h => (by cases h), fun y h => ?_⟩
    cases h
    refine ⟨(Array.getElem?_eq_some_iff.mp e).1, fun v H' q => ?_⟩
    obtain ⟨rfl, c', ec, rfl⟩ := q
    rw [e] at ec
    cases ec
    exact ⟨W', Wd.le.refl _, R, .str _⟩
theorem sqD_ok (R : RelM K W H M) {t : Bool} {v : V} {x : Vl} {xs : List PyData} (r : VlR K W v x) (e : sqD t M x = some xs) : ∃ a vs, v = .ref a ∧ SqX K H t a vs ∧ DqAll K W.Z vs xs := by
  cases t
  · exact lsD_ok R r e
  · exact tpD_ok R r e
theorem itr_zip {a b : Addr} {x y : Vl} (t1 t2 : Bool) (r : VlR K W (.ref a) x) (r' : VlR K W (.ref b) y) : ItR K W (ItzX K t1 t2 a b) (.zip t1 t2 x y) := by
  intro W' H M i l R
  simp only [ISrc.step]
  cases e : sqD t1 M x with
  | none => exact ⟨fun h => (by cases h), fun x h => (by cases h)⟩
  | some xs =>
    cases e' : sqD t2 M y with
    | none => exact ⟨fun h => (by cases h), fun x h => (by cases h)⟩
    | some ys =>
      obtain ⟨a', vs, ea, hp, hd⟩ := sqD_ok R (r.mono l) e
      cases ea
      obtain ⟨a', ws, ea, hq, he⟩ := sqD_ok R (r'.mono l) e'
      cases ea
      simp only [pairAt]
      cases e2 : xs[i]? with
      | none => exact ⟨fun _ => ⟨vs, ws, hp, hq, .inl (none_len hd e2)⟩, fun x h => by cases h⟩
      | some d =>
        cases e3 : ys[i]? with
        | none => exact ⟨fun _ => ⟨vs, ws, hp, hq, .inr (none_len he e3)⟩, fun x h => by cases h⟩
        | some d' =>
          obtain ⟨w, hw, dw⟩ := hd.get e2
          obtain ⟨u, hu, du⟩ := he.get e3
          refine ⟨fun h => (by cases h), fun y h => ?_⟩
          cases h
          refine ⟨⟨vs, ws, w, u, hp, hq, hw, hu⟩, fun v H' q => ?_⟩
          obtain ⟨T, w', u', rfl, hT, hn, q1, q2⟩ := q
          have h1 := q1 vs hp
          have h2 := q2 ws hq
          rw [hw] at h1
          rw [hu] at h2
          cases h1
          cases h2
          obtain ⟨W3, l3, R3, d3⟩ := R.mkT hT hn (.cons dw (.cons du .nil))
          exact ⟨_, l3, R3, d3⟩
theorem itr_zipS {a b : Addr} {x y : Vl} (t1 t2 : Bool) (r : VlR K W (.ref a) x) (r' : VlR K W (.ref b) y) : ItR K W (ItzS K t1 t2 a b) (.zipS t1 t2 x y) := by
  intro W' H M i l R
  simp only [ISrc.step]
  cases e : sqD t1 M x with
  | none => exact ⟨fun h => (by cases h), fun x h => (by cases h)⟩
  | some xs =>
    cases e' : sqD t2 M y with
    | none => exact ⟨fun h => (by cases h), fun x h => (by cases h)⟩
    | some ys =>
      dsimp only
      by_cases hc : xs.length = ys.length ∧ i ≤ xs.length
      · rw [if_pos hc]
        obtain ⟨hlen, hle⟩ := hc
        obtain ⟨a', vs, ea, hp, hd⟩ := sqD_ok R (r.mono l) e
        cases ea
        obtain ⟨a', ws, ea, hq, he⟩ := sqD_ok R (r'.mono l) e'
        cases ea
        simp only [pairAt]
        by_cases hi : i < xs.length
        · obtain ⟨d, e2⟩ : ∃ d, xs[i]? = some d := ⟨_, List.getElem?_eq_getElem hi⟩
          obtain ⟨d', e3⟩ : ∃ d, ys[i]? = some d := ⟨_, List.getElem?_eq_getElem (hlen ▸ hi)⟩
          rw [e2, e3]
          obtain ⟨w, hw, dw⟩ := hd.get e2
          obtain ⟨u, hu, du⟩ := he.get e3
          refine ⟨fun h => (by cases h), fun y h => ?_⟩
          cases h
          refine ⟨⟨vs, ws, w, u, hp, hq, hw, hu⟩, fun v H' q => ?_⟩
          obtain ⟨T, w', u', rfl, hT, hn, q1, q2⟩ := q
          have h1 := q1 vs hp
          have h2 := q2 ws hq
          rw [hw] at h1
          rw [hu] at h2
          cases h1
          cases h2
          obtain ⟨W3, l3, R3, d3⟩ := R.mkT hT hn (.cons dw (.cons du .nil))
          exact ⟨_, l3, R3, d3⟩
        · rw [List.getElem?_eq_none (by omega)]
          exact ⟨fun _ => ⟨vs, ws, hp, hq, by rw [hd.length]; omega, by rw [he.length]; omega⟩, fun x h => by cases h⟩
      · rw [if_neg hc]
        exact ⟨fun h => (by cases h), fun x h => (by cases h)⟩
theorem itr_enu {a : Addr} {x : Vl} (t : Bool) (r : VlR K W (.ref a) x) : ItR K W (IteX K t a) (.enu t x) := by
  intro W' H M i l R
  simp only [ISrc.step]
  cases e : sqD t M x with
  | none => exact ⟨fun h => (by cases h), fun x h => (by cases h)⟩
  | some xs =>
    obtain ⟨a', vs, ea, hp, hd⟩ := sqD_ok R (r.mono l) e
    cases ea
    cases e2 : xs[i]? with
    | none => exact ⟨fun _ => ⟨vs, hp, none_len hd e2⟩, fun x h => by simp [e2] at h⟩
    | some d =>
      obtain ⟨w, hw, dw⟩ := hd.get e2
      refine ⟨fun h => by simp [e2] at h, fun y h => ?_⟩
      have ey : y = .d (.tuple [.int (i : Nat), d]) := by simp [e2] at h; exact h.symm
      subst ey
      refine ⟨⟨vs, w, hp, hw⟩, fun v H' q => ?_⟩
      obtain ⟨T, w', rfl, hT, hn, q1⟩ := q
      have h1 := q1 vs (hp)
      rw [hw] at h1
      cases h1
      obtain ⟨W3, l3, R3, d3⟩ := R.mkT hT hn (.cons (.int (i : Nat)) (.cons dw .nil))
      exact ⟨_, l3, R3, d3⟩
end
abbrev Ev0S := Rho → Sto → Out ISrc
def srcOf (x : Vl) (M : Sto) : Out ISrc := match peek M x with
  | some (.list _) => .ok (.lst x) M
  | some (.tuple _) => .ok (.tup x) M
  | some (.str z) => .ok (.str z) M
  | _ => .bad
def giVal (g : Ev0 Vl) : Ev0S := fun ρ M => (g ρ M).bind fun x M1 => srcOf x M1
def giRng1 (g : Ev0 (List Vl)) : Ev0S := fun ρ M => (g ρ M).bind fun xs M1 => match xs with
  | [.d (.int j)] => if -(2 ^ 62) ≤ j ∧ j < 2 ^ 62 then .ok (.rng 0 j.toNat) M1 else .bad
  | _ => .bad
def giRng2 (g : Ev0 (List Vl)) : Ev0S := fun ρ M => (g ρ M).bind fun xs M1 => match xs with
  | [.d (.int i), .d (.int j)] => if -(2 ^ 62) ≤ i ∧ i < 2 ^ 62 ∧ -(2 ^ 62) ≤ j ∧ j < 2 ^ 62 then .ok (.rng i (j - i).toNat) M1 else .bad
  | _ => .bad
def seqK (M : Sto) (x : Vl) : Option Bool := match peek M x with
  | some (.list _) => some false
  | some (.tuple _) => some true
  | _ => none
def giZip (g : Ev0 (List Vl)) : Ev0S := fun ρ M => (g ρ M).bind fun xs M1 => match xs with
  | [x, y] => (match seqK M1 x, seqK M1 y with
    | some t1, some t2 => .ok (.zip t1 t2 x y) M1
    | _, _ => .bad)
  | _ => .bad
def giZipS (g : Ev0 (List Vl)) : Ev0S := fun ρ M => (g ρ M).bind fun xs M1 => match xs with
  | [x, y] => (match seqK M1 x, seqK M1 y with
    | some t1, some t2 => .ok (.zipS t1 t2 x y) M1
    | _, _ => .bad)
  | _ => .bad
def giEnu (g : Ev0 (List Vl)) : Ev0S := fun ρ M => (g ρ M).bind fun xs M1 => match xs with
  | [x] => (match seqK M1 x with
    | some t => .ok (.enu t x) M1
    | none => .bad)
  | _ => .bad
theorem seqK_ok {K : PySem.W.Frag} {W : Wd} {H : Hp} {M : Sto} (R : RelM K W H M) {v : V} {x : Vl} {t : Bool} (r : VlR K W v x) (e : seqK M x = some t) : ∃ p vs, v = .ref p ∧ SqX K H t p vs := by
  unfold seqK at e
  split at e
  · rename_i e1
    cases e
    obtain ⟨p, vs, rfl, hp, _⟩ := (peek_pk R r e1).list R
    exact ⟨p, vs, rfl, hp⟩
  · rename_i e1
    cases e
    obtain ⟨p, vs, rfl, _, hp, _⟩ := (peek_pk R r e1).tuple R
    exact ⟨p, vs, rfl, hp⟩
  · cases e
abbrev SIt (X : Cx) (W0 : WX) (tg e : Expr) (g : Ev0S) : Prop := PI X tg e (aIt X.K W0 g)
section
variable {X : Cx} {W0 : WX} {a b tg : Expr} {ga : Ev0 Vl} {g : Ev0 (List Vl)} {p pos tpos : Pos}
theorem sit_val (ha : SE X W0 a ga) : SIt X W0 tg a (giVal ga) := by
  have hl : PE X a (aE X.K W0 ga) := ha
  have h2 : PI X tg a (fun σ H R => (iList X.K (aE X.K W0 ga) σ H R ∨ iTup X.K (aE X.K W0 ga) σ H R) ∨ iStr (aE X.K W0 ga) σ H R) := PI.or (PI.or (pi_list hl) (pi_tup hl)) (pi_str hl)
  have key : ∀ σ H R, aIt X.K W0 (giVal ga) σ H R → (iList X.K (aE X.K W0 ga) σ H R ∨ iTup X.K (aE X.K W0 ga) σ H R) ∨ iStr (aE X.K W0 ga) σ H R := by
    intro σ H Q h
    obtain ⟨ρ, M, W, R, S, P⟩ := h
    have P' := P
    simp only [giVal] at P'
    cases eo : ga ρ M with
    | bad => rw [eo] at P'; exact P'.elim
    | exc x M1 =>
      refine .inl (.inl ⟨ρ, M, W, R, S, ?_⟩)
      rw [eo] at P' ⊢
      exact P'
    | ok x M1 =>
      rw [eo] at P'
      have P' : Post (ItR X.K) X.K W0 W σ (srcOf x M1) Q := P'
      have fin : ∀ Q', (∀ v H1 W1, W.le W1 → RelM X.K W1 H1 M1 → VlR X.K W1 v x → Q' v H1) → aE X.K W0 ga σ H Q' := fun Q' h => ⟨ρ, M, W, R, S, by rw [eo]; exact h⟩
      unfold srcOf at P'
      cases ep : peek M1 x with
      | none => rw [ep] at P'; exact P'.elim
      | some d =>
        rw [ep] at P'
        cases d with
        | list xs =>
          refine .inl (.inl (fin _ fun v H1 W1 l1 R1 r1 => ?_))
          obtain ⟨p, vs, rfl, hp, hd⟩ := (peek_pk R1 r1 ep).list R1
          exact ⟨p, rfl, ⟨vs, hp⟩, P' _ _ W1 l1 R1 (itr_lst r1)⟩
        | tuple xs =>
          refine .inl (.inr (fin _ fun v H1 W1 l1 R1 r1 => ?_))
          obtain ⟨p, vs, rfl, _, hp, hd⟩ := (peek_pk R1 r1 ep).tuple R1
          exact ⟨p, rfl, ⟨vs, hp⟩, P' _ _ W1 l1 R1 (itr_tup r1)⟩
        | str z =>
          refine .inr (fin _ fun v H1 W1 l1 R1 r1 => ?_)
          obtain rfl := (peek_pk R1 r1 ep).str
          exact ⟨z, rfl, P' _ _ W1 l1 R1 (itr_str z)⟩
        | _ => exact P'.elim
  exact PI.mono h2 key
theorem sit_rng1 (hg : Gl X "range") (hm : X.mg "range" = none) (ha : SA X W0 [a] g) (hs : notStar a = true) : SIt X W0 tg (.Call (.Name "range" p) [a] [] pos) (giRng1 g) := by
  refine PI.mono (pi_range1 hg hm ha (by rw [star_one hs]; rfl)) fun σ H Q h => ?_
  obtain ⟨ρ, M, W, R, S, P⟩ := h
  refine ⟨ρ, M, W, R, S, post_bind P fun vs H1 W1 M1 xs e l1 R1 r1 P1 => ?_⟩
  split at P1
  · rename_i j
    obtain ⟨v, rfl, r⟩ := vlsR_one r1
    cases r
    obtain ⟨h, P2⟩ := if_post P1
    exact ⟨j, rfl, h.1, h.2, P2 _ _ W1 (Wd.le.refl _) R1 (itr_rng _ _)⟩
  · exact P1.elim
theorem sit_rng2 (hg : Gl X "range") (hm : X.mg "range" = none) (ha : SA X W0 [a, b] g) (hs : notStar a = true) (hs' : notStar b = true) : SIt X W0 tg (.Call (.Name "range" p) [a, b] [] pos) (giRng2 g) := by
  refine PI.mono (pi_range2 hg hm ha (by rw [star_one hs, star_one hs']; rfl) (by rw [star_one hs']; rfl)) fun σ H Q h => ?_
  obtain ⟨ρ, M, W, R, S, P⟩ := h
  refine ⟨ρ, M, W, R, S, post_bind P fun vs H1 W1 M1 xs e l1 R1 r1 P1 => ?_⟩
  split at P1
  · rename_i i j
    obtain ⟨v, w, rfl, r, r'⟩ := vlsR_two r1
    cases r
    cases r'
    obtain ⟨h, P2⟩ := if_post P1
    exact ⟨i, j, rfl, h, P2 _ _ W1 (Wd.le.refl _) R1 (itr_rng _ _)⟩
  · exact P1.elim
theorem sit_zip {elts : List Expr} {kk : Nat} (hg : Gl X "zip") (hm : X.mg "zip" = none) (ha : SA X W0 [a, b] g) (hs : notStar a = true) (hs' : notStar b = true) : SIt X W0 (.Tuple elts kk tpos) (.Call (.Name "zip" p) [a, b] [] pos) (giZip g) := by
  refine PI.mono (pi_zipX hg hm ha (star_one hs _ _) (star_none _ _ _ (by simp [hs']))) fun σ H Q h => ?_
  obtain ⟨ρ, M, W, R, S, P⟩ := h
  refine ⟨ρ, M, W, R, S, post_bind P fun vs H1 W1 M1 xs e l1 R1 r1 P1 => ?_⟩
  split at P1
  · rename_i x y
    obtain ⟨v, w, rfl, r, r'⟩ := vlsR_two r1
    split at P1
    · rename_i t1 t2 e1 e2
      obtain ⟨p, vs, rfl, hp⟩ := seqK_ok R1 r e1
      obtain ⟨q, ws, rfl, hq⟩ := seqK_ok R1 r' e2
      exact ⟨p, q, vs, ws, t1, t2, rfl, hp, hq, P1 _ _ W1 (Wd.le.refl _) R1 (itr_zip t1 t2 r r')⟩
    · exact P1.elim
  · exact P1.elim
theorem sit_zipS {elts : List Expr} {kk j : Nat} {jp kp : Pos} (hg : Gl X "zip") (hm : X.mg "zip" = none) (ha : SA X W0 [a, b] g) (hs : notStar a = true) (hs' : notStar b = true) : SIt X W0 (.Tuple elts kk tpos) (.Call (.Name "zip" p) [a, b] [⟨some "strict", .Constant (.bool true) j jp, kp⟩] pos) (giZipS g) := by
  refine PI.mono (pi_zipS hg hm ha (star_one hs _ _) (star_none _ _ _ (by simp [hs, hs']))) fun σ H Q h => ?_
  obtain ⟨ρ, M, W, R, S, P⟩ := h
  refine ⟨ρ, M, W, R, S, post_bind P fun vs H1 W1 M1 xs e l1 R1 r1 P1 => ?_⟩
  split at P1
  · rename_i x y
    obtain ⟨v, w, rfl, r, r'⟩ := vlsR_two r1
    split at P1
    · rename_i t1 t2 e1 e2
      obtain ⟨p, vs, rfl, hp⟩ := seqK_ok R1 r e1
      obtain ⟨q, ws, rfl, hq⟩ := seqK_ok R1 r' e2
      exact ⟨p, q, vs, ws, t1, t2, rfl, hp, hq, P1 _ _ W1 (Wd.le.refl _) R1 (itr_zipS t1 t2 r r')⟩
    · exact P1.elim
  · exact P1.elim
theorem sit_enu {elts : List Expr} {kk : Nat} (hg : Gl X "enumerate") (hm : X.mg "enumerate" = none) (ha : SA X W0 [a] g) (hs : notStar a = true) : SIt X W0 (.Tuple elts kk tpos) (.Call (.Name "enumerate" p) [a] [] pos) (giEnu g) := by
  refine PI.mono (pi_enumX hg hm ha (by rw [star_one hs]; rfl)) fun σ H Q h => ?_
  obtain ⟨ρ, M, W, R, S, P⟩ := h
  refine ⟨ρ, M, W, R, S, post_bind P fun vs H1 W1 M1 xs e l1 R1 r1 P1 => ?_⟩
  split at P1
  · rename_i x
    obtain ⟨v, rfl, r⟩ := vlsR_one r1
    split at P1
    · rename_i t e1
      obtain ⟨p, vs, rfl, hp⟩ := seqK_ok R1 r e1
      exact ⟨p, vs, t, rfl, hp, P1 _ _ W1 (Wd.le.refl _) R1 (itr_enu t r)⟩
    · exact P1.elim
  · exact P1.elim
end
end Ev

namespace Ev
open PySem PySem.Spec PyProof.Rows L2

/-! ### statements -/
abbrev EvS := Rho → Sto → OutS
def gsSet (i : Nat) (g : Ev0 Vl) : EvS := fun ρ M => bindS ρ (g ρ M) fun x M1 => .nx (ρ.set i (some x)) M1
def gsTgt (t : TgV) (g : Ev0 Vl) : EvS := fun ρ M => bindS ρ (g ρ M) fun x M1 => match t x ρ M1 with
  | some ρ' => .nx ρ' M1
  | none => .bad
def gsPar (i j : Nat) (g : Ev0 (List Vl)) : EvS := fun ρ M => bindS ρ (g ρ M) fun xs M1 => match xs with
  | [x, y] => .nx ((ρ.set i (some x)).set j (some y)) M1
  | _ => .bad
def gsExp (g : Ev0 Vl) : EvS := fun ρ M => bindS ρ (g ρ M) fun _ M1 => .nx ρ M1
def gsRet (g : Ev0 Vl) : EvS := fun ρ M => bindS ρ (g ρ M) fun x M1 => .rt x M1
def gsRetN : EvS := fun _ M => .rt (.d .none) M
def gsIf (c : Ev0 Bool) (a b : EvS) : EvS := fun ρ M => bindS ρ (c ρ M) fun k M1 => if k then a ρ M1 else b ρ M1
def gsNil : EvS := fun ρ M => .nx ρ M
def gsSeq (a b : EvS) : EvS := fun ρ M => (a ρ M).then b
def gsBrk : EvS := fun ρ M => .bk ρ M
def gsCont : EvS := fun ρ M => .ct ρ M
def gsBad : EvS := fun _ _ => .bad
/-- o[i] = e -/
def putV (x y z : Vl) (M : Sto) : Option Sto := match toD M z with
  | some (d, M1) => (match x with
    | .ref n => (match M1[n]? with
      | some (.lst xs) => (match y with
        | .d (.int i) => (match ixN xs.length i with
          | some j => some (M1.set n (.lst (xs.set j d)))
          | none => none)
        | _ => none)
      | some (.dct kvs) => (match peek M1 y with
        | some k => (match keyD k with
          | some q => if kvs.length < sizeLine then some (M1.set n (.dct (putP kvs q d))) else none
          | none => none)
        | none => none)
      | _ => none)
    | _ => none)
  | none => none
def gsPut (o i e : Ev0 Vl) : EvS := fun ρ M => bindS ρ (e ρ M) fun z M1 => bindS ρ (o ρ M1) fun x M2 => bindS ρ (i ρ M2) fun y M3 => match putV x y z M3 with
  | some M4 => .nx ρ M4
  | none => .bad
def whFuel : Nat := 2 ^ 4000
def whE (c : Ev0 Bool) (b : EvS) : Nat → Rho → Sto → OutS
  | 0, _, _ => .bad
  | k + 1, ρ, M => bindS ρ (c ρ M) fun t M1 => if t then (match b ρ M1 with
    | .nx ρ2 M2 => whE c b k ρ2 M2
    | .ct ρ2 M2 => whE c b k ρ2 M2
    | .bk ρ2 M2 => .nx ρ2 M2
    | o => o) else .nx ρ M1
def gsWh (c : Ev0 Bool) (b : EvS) : EvS := fun ρ M => whE c b whFuel ρ M
def forE (t : TgV) (b : EvS) (src : ISrc) : Nat → Nat → Rho → Sto → OutS
  | 0, _, _, _ => .bad
  | k + 1, i, ρ, M => match src.step i M with
    | none => .bad
    | some none => .nx ρ M
    | some (some x) => (match t x ρ M with
      | none => .bad
      | some ρ1 => (match b ρ1 M with
        | .nx ρ2 M2 => forE t b src k (i + 1) ρ2 M2
        | .ct ρ2 M2 => forE t b src k (i + 1) ρ2 M2
        | .bk ρ2 M2 => .nx ρ2 M2
        | o => o))
def gsFor (gi : Ev0S) (t : TgV) (b : EvS) : EvS := fun ρ M => bindS ρ (gi ρ M) fun src M1 => forE t b src (src.size M1 + 1) 0 ρ M1
section
variable {X : Cx} {W0 : WX} {a b e : Expr} {ga gb : Ev0 Vl} {ca : Ev0 Bool} {pos : Pos} {es : List Expr} {g : Ev0 (List Vl)} {s1 s2 : EvS} {st : Stmt} {sts sts' : List Stmt}
theorem ss_set {i : Nat} {x : Str} {p' : Pos} (hN : X.N.Nodup) (hi : X.N[i]? = some x) (hx : Loc X.env.scope x) (ha : SE X W0 a ga) (hs : swapsWith a (some (.Name x p')) pos.line X.env = pure false) (hf : X.fn x = true ∨ X.env.scope.names.lookup x = some .local) : SS X W0 (.Assign [.Name x p'] a pos) (gsSet i ga) := by
  refine PS.mono (ps_set hN hi hx ha hs hf) fun D σ H h => ?_
  obtain ⟨ρ, M, W, R, S, P⟩ := h
  refine ⟨ρ, M, W, R, S, postS_bind S P fun v H1 W1 M1 x e l1 R1 r1 P1 => ?_⟩
  exact P1 _ _ W1 (Wd.le.refl _) R1 ((S.mono l1).set r1 i)
theorem ss_tgt {tg : Expr} {sl : List Nat} {t : TgV} (ha : SE X W0 a ga) (hg : PG X tg (aG X.K sl t)) (hs : swapsWithSole [tg] a pos.line X.env = pure false) (hw : swappedStores [tg] a X.env = pure none) (h1 : notStar tg = true) : SS X W0 (.Assign [tg] a pos) (gsTgt t ga) := by
  refine PS.mono (ps_asg ha hg hs hw (by rw [assign_one h1]; rfl)) fun D σ H h => ?_
  obtain ⟨ρ, M, W, R, S, P⟩ := h
  refine ⟨ρ, M, W, R, S, postS_bind S P fun v H1 W1 M1 x e l1 R1 r1 P1 => ?_⟩
  cases e2 : t x ρ M1 with
  | none => simp only [e2] at P1; exact P1.elim
  | some ρ' =>
    simp only [e2] at P1
    exact ⟨ρ, M1, W1, x, R1, S.mono l1, r1, ρ', e2, fun σ' S' _ => P1 σ' H1 W1 (Wd.le.refl _) R1 S'⟩
theorem sw_par {x y : Str} {px py : Pos} {kt k2 : Nat} {pt pt2 : Pos} {env : Env} (hk : env.scope.kind = .function) (hx : env.scope.names.lookup x = some .local) (hy : env.scope.names.lookup y = some .local) (hl : (py.line == px.line) = true) (hxy : (x == y) = false)
    (hs : [a, b].all notStar = true) (hf : [a, b].all (foldedForSure 8) = false) (hc : [a, b].all (constantsAlone 8) = false) : swappedStores [.Tuple [.Name x px, .Name y py] kt pt] (.Tuple [a, b] k2 pt2) env = pure (some [x, y]) := by
  have kx : env.kindOf x = some .local := hx
  have ky : env.kindOf y = some .local := hy
  have hb : env.blockKind = .function := by unfold Env.blockKind; rw [hk]; rfl
  have hl' : py.line = px.line := by simpa using hl
  rw [List.all_cons, List.all_cons, List.all_nil, Bool.and_true, Bool.and_eq_true] at hs
  have z : ∀ c : Expr, notStar c = true → (match c with | .Starred .. => true | _ => false) = false := fun c h => by cases c <;> first | rfl | cases h
  have za := z a hs.1
  have zb := z b hs.2
  have hf' : ¬ ∀ x ∈ [a, b], foldedForSure 8 x = true := fun h => by rw [List.all_eq_true.mpr h] at hf; cases hf
  have hc' : ¬ ∀ x ∈ [a, b], constantsAlone 8 x = true := fun h => by rw [List.all_eq_true.mpr h] at hc; cases hc
  have ed : ([x, y] : List Str).eraseDups = [x, y] := by
    have hyx : (y == x) = false := by
      cases h : y == x with
      | false => rfl
      | true =>
        have e : y = x := by simpa using h
        subst e
        simp at hxy
    simp [List.eraseDups, List.eraseDupsBy, List.eraseDupsBy.loop, hyx]
  unfold swappedStores
  have hfm : ([Expr.Name x px, Expr.Name y py].filterMap fun
    | .Name id pos => if env.kindOf id == some .local && pos.line == px.line then some id else none
    | _ => none) = [x, y] := by
    simp [List.filterMap_cons, kx, ky, hl']
  simp only [List.length_cons, List.length_nil, hb, List.head?_cons, Option.map_some, Option.getD_some, Expr.pos, List.any_cons, List.any_nil, hf, hc]
  generalize hF : List.filterMap _ [Expr.Name x px, Expr.Name y py] = L
  have hL : L = [x, y] := hF.symm.trans hfm
  subst hL
  rw [ed]
  refine (if_neg (by decide)).trans ((if_neg fun h => ?_).trans ((if_neg (by simp)).trans ((if_neg (by decide)).trans ((if_neg (by decide)).trans rfl))))
  rw [Bool.or_false] at h
  rcases Bool.or_eq_true_iff.mp h with h | h
  · exact Bool.noConfusion (za.symm.trans h)
  · exact Bool.noConfusion (zb.symm.trans h)
theorem ss_par {i j : Nat} {x y : Str} {px py pt : Pos} {kt k2 pt2} (hc : X.calm = true) (hN : X.N.Nodup) (hi : X.N[i]? = some x) (hj : X.N[j]? = some y) (hij : i ≠ j) (hx : X.env.scope.names.lookup x = some .local) (hy : X.env.scope.names.lookup y = some .local) (ha : SA X W0 [a, b] g)
    (hw : swappedStores [.Tuple [.Name x px, .Name y py] kt pt] (.Tuple [a, b] k2 pt2) X.env = pure (some [x, y])) : SS X W0 (.Assign [.Tuple [.Name x px, .Name y py] kt pt] (.Tuple [a, b] k2 pt2) pos) (gsPar i j g) := by
  refine PS.mono (ps_par hc hN hi hj hij hx hy ha hw rfl) fun D σ H h => ?_
  obtain ⟨ρ, M, W, R, S, P⟩ := h
  refine ⟨ρ, M, W, R, S, postS_bind S P fun vs H1 W1 M1 xs e l1 R1 r1 P1 => ?_⟩
  split at P1
  · rename_i x y
    obtain ⟨v, w, rfl, r, r'⟩ := vlsR_two r1
    exact ⟨v, w, rfl, P1 _ _ W1 (Wd.le.refl _) R1 (((S.mono l1).set r i).set r' j)⟩
  · exact P1.elim
theorem ss_expr (ha : SE X W0 a ga) (hs : swapsWith a none pos.line X.env = pure false) : SS X W0 (.Expr a pos) (gsExp ga) := by
  refine PS.mono (ps_expr ha hs) fun D σ H h => ?_
  obtain ⟨ρ, M, W, R, S, P⟩ := h
  refine ⟨ρ, M, W, R, S, postS_bind S P fun v H1 W1 M1 x e l1 R1 r1 P1 => ?_⟩
  exact P1 _ _ W1 (Wd.le.refl _) R1 (S.mono l1)
theorem ss_ret (ha : SE X W0 a ga) : SS X W0 (.Return (some a) pos) (gsRet ga) := by
  refine PS.mono (ps_ret ha) fun D σ H h => ?_
  obtain ⟨ρ, M, W, R, S, P⟩ := h
  refine ⟨ρ, M, W, R, S, postS_bind S P fun v H1 W1 M1 x e l1 R1 r1 P1 => ?_⟩
  exact P1 _ _ W1 (Wd.le.refl _) R1 r1
theorem ss_retN : SS X W0 (.Return none pos) gsRetN := by
  refine PS.mono ps_retN fun D σ H h => ?_
  obtain ⟨ρ, M, W, R, S, P⟩ := h
  exact P _ _ W (Wd.le.refl _) R .non
theorem ss_if (hc : ST X W0 a ca) (h1 : SSs X W0 sts s1) (h2 : SSs X W0 sts' s2) : SS X W0 (.If a sts sts' pos) (gsIf ca s1 s2) := by
  refine PS.mono (ps_if hc h1 h2) fun D σ H h => ?_
  obtain ⟨ρ, M, W, R, S, P⟩ := h
  refine ⟨ρ, M, W, R, S, postS_bind S P fun v H1 W1 M1 x e l1 R1 r1 P1 => ?_⟩
  have r1 : v = x := r1
  subst r1
  cases v with
  | true => exact ⟨ρ, M1, W1, R1, S.mono l1, P1⟩
  | false => exact ⟨ρ, M1, W1, R1, S.mono l1, P1⟩
theorem ss_pass : SS X W0 (.Pass pos) gsNil := by
  refine PS.mono ps_pass fun D σ H h => ?_
  obtain ⟨ρ, M, W, R, S, P⟩ := h
  exact P σ H W (Wd.le.refl _) R S
theorem ss_brk : SS X W0 (.Break pos) gsBrk := by
  refine PS.mono ps_break fun D σ H h => ?_
  obtain ⟨ρ, M, W, R, S, P⟩ := h
  exact P σ H W (Wd.le.refl _) R S
theorem ss_cont : SS X W0 (.Continue pos) gsCont := by
  refine PS.mono ps_continue fun D σ H h => ?_
  obtain ⟨ρ, M, W, R, S, P⟩ := h
  exact P σ H W (Wd.le.refl _) R S
theorem ss_bad : SS X W0 st gsBad := ⟨fun _ _ _ _ _ _ ⟨_, _, _, _, _, P⟩ => P.elim⟩
theorem sss_nil : SSs X W0 [] gsNil := by
  refine PSs.mono pss_nil fun D σ H h => ?_
  obtain ⟨ρ, M, W, R, S, P⟩ := h
  exact P σ H W (Wd.le.refl _) R S
theorem postS_then {K : PySem.W.Frag} {W : Wd} {o : OutS} {k : Rho → Sto → OutS} {D : Ends} {N : L2.St → Hp → Prop} (P : PostS K W0 W (o.then k) D)
    (hN : ∀ ρ M σ H W1, o = .nx ρ M → W.le W1 → RelM K W1 H M → SltR K W1 σ ρ → PostS K W0 W1 (k ρ M) D → N σ H) : PostS K W0 W o { D with nx := N } := by
  cases o with
  | nx ρ M => exact fun σ H W1 l1 R1 S1 => hN ρ M σ H W1 rfl l1 R1 S1 (PostS.mono l1 P)
  | _ => exact P
theorem sss_cons (h1 : SS X W0 st s1) (h2 : SSs X W0 sts s2) : SSs X W0 (st :: sts) (gsSeq s1 s2) := by
  refine PSs.mono (pss_cons h1 h2) fun D σ H h => ?_
  obtain ⟨ρ, M, W, R, S, P⟩ := h
  exact ⟨ρ, M, W, R, S, postS_then P fun ρ1 M1 σ1 H1 W1 _ l1 R1 S1 P1 => ⟨ρ1, M1, W1, R1, S1, P1⟩⟩
/-- a loop's body -/
theorem postS_body {K : PySem.W.Frag} {W : Wd} {o : OutS} {k : Rho → Sto → OutS} {D : Ends} {N : L2.St → Hp → Prop}
    (P : PostS K W0 W (match o with | .nx ρ2 M2 => k ρ2 M2 | .ct ρ2 M2 => k ρ2 M2 | .bk ρ2 M2 => .nx ρ2 M2 | o => o) D)
    (hN : ∀ ρ M σ H W1, W.le W1 → RelM K W1 H M → SltR K W1 σ ρ → PostS K W0 W1 (k ρ M) D → N σ H) : PostS K W0 W o { D with nx := N, ct := N, bk := D.nx } := by
  cases o with
  | nx ρ M => exact fun σ H W1 l1 R1 S1 => hN ρ M σ H W1 l1 R1 S1 (PostS.mono l1 P)
  | ct ρ M => exact fun σ H W1 l1 R1 S1 => hN ρ M σ H W1 l1 R1 S1 (PostS.mono l1 P)
  | _ => exact P
theorem ss_while (hp : PassesOwn (model X.prog X.w) X.A X.env X.xe) (hc : ST X W0 a ca) (hb : SSs X W0 sts s1) : SS X W0 (.While a sts [] pos) (gsWh ca s1) := by
  refine PS.mono (ps_while hp hc hb) fun D σ H h => ?_
  obtain ⟨ρ, M, W, R, S, P⟩ := h
  refine ⟨fun m σ H => ∃ ρ M W, RelM X.K W H M ∧ SltR X.K W σ ρ ∧ PostS X.K W0 W (whE ca s1 m ρ M) D, ⟨whFuel, ρ, M, W, R, S, P⟩, ?_⟩
  rintro m σ H ⟨ρ, M, W, R, S, P⟩
  cases m with
  | zero => exact P.elim
  | succ m =>
    refine ⟨ρ, M, W, R, S, postS_bind S P fun v H1 W1 M1 x e l1 R1 r1 P1 => ?_⟩
    have r1 : v = x := r1
    subst r1
    cases v with
    | false => exact P1 σ H1 W1 (Wd.le.refl _) R1 (S.mono l1)
    | true =>
      refine ⟨fun σ H => ∃ ρ M W, RelM X.K W H M ∧ SltR X.K W σ ρ ∧ PostS X.K W0 W (whE ca s1 m ρ M) D, fun σ' H' h => ⟨m, Nat.lt_succ_self _, h⟩, ρ, M1, W1, R1, S.mono l1, ?_⟩
      exact postS_body (k := whE ca s1 m) P1 fun ρ2 M2 σ2 H2 W2 l2 R2 S2 P2 => ⟨ρ2, M2, W2, R2, S2, P2⟩
theorem ss_for {tg iter : Expr} {gi : Ev0S} {sl : List Nat} {t : TgV} (hp : PassesOwn (model X.prog X.w) X.A X.env X.xe) (hc : X.calm = true) (hi : SIt X W0 tg iter gi) (hg : PG X tg (aG X.K sl t)) (hb : SSs X W0 sts s1) (hs : ∀ x, foldedSetIterable iter X.env x = pure x) :
    SS X W0 (.For tg iter sts [] pos) (gsFor gi t s1) := by
  refine PS.mono (ps_for hp hc hi hg hb hs) fun D σ H h => ?_
  obtain ⟨ρ, M, W, R, S, P⟩ := h
  refine ⟨ρ, M, W, R, S, postS_bind S P fun J H1 W1 M1 src e l1 R1 r1 P1 => ?_⟩
  refine ⟨fun i m σ H => ∃ ρ M W, W1.le W ∧ RelM X.K W H M ∧ SltR X.K W σ ρ ∧ PostS X.K W0 W (forE t s1 src m i ρ M) D, ⟨src.size M1 + 1, ρ, M1, W1, Wd.le.refl _, R1, S.mono l1, P1⟩, ?_⟩
  rintro i m σ H ⟨ρ, M, W, l, R, S, P⟩
  cases m with
  | zero => exact P.elim
  | succ m =>
    have hj := r1 W H M i l R
    simp only [forE] at P
    cases e1 : src.step i M with
    | none => simp only [e1] at P; exact P.elim
    | some o =>
      cases o with
      | none =>
        simp only [e1] at P
        exact .inl ⟨hj.1 e1, P σ H W (Wd.le.refl _) R S⟩
      | some x =>
        simp only [e1] at P
        obtain ⟨hgo, hy⟩ := hj.2 x e1
        refine .inr ⟨hgo, fun σ H => ∃ ρ M W, W1.le W ∧ RelM X.K W H M ∧ SltR X.K W σ ρ ∧ PostS X.K W0 W (forE t s1 src m (i + 1) ρ M) D, fun σ' H' h => ⟨m, Nat.lt_succ_self _, h⟩, fun v H' y => ?_⟩
        obtain ⟨W2, l2, R2, r2⟩ := hy v H' y
        cases e2 : t x ρ M with
        | none => simp only [e2] at P; exact P.elim
        | some ρ1 =>
          simp only [e2] at P
          refine ⟨ρ, M, W2, x, R2, S.mono l2, r2, ρ1, e2, fun σ' S' _ => ⟨ρ1, M, W2, R2, S', ?_⟩⟩
          exact postS_body (k := forE t s1 src m (i + 1)) (PostS.mono l2 P) fun ρ2 M2 σ2 H2 W3 l3 R3 S3 P3 => ⟨ρ2, M2, W3, (l.trans l2).trans l3, R3, S3, P3⟩
/-! #### o[i] = e -/
def aPut (K : PySem.W.Frag) : TSet := fun o i v H Q => ∃ (W : Wd) (M : Sto) (x y z : Vl), RelM K W H M ∧ VlR K W o x ∧ VlR K W i y ∧ VlR K W v z ∧ ∃ M', putV x y z M = some M' ∧ ∀ H' W', W.le W' → RelM K W' H' M' → Q H'
theorem set_V (hu : X.A.units + 1 < cLine) : PSet X (aPut X.K) := by
  intro pins s σ H o i v ov iv u Q I ro ri rv h
  obtain ⟨W, M, x, y, z, R, r1, r2, r3, M', e, q⟩ := h
  simp only [putV] at e
  cases e1 : toD M z with
  | none => rw [e1] at e; cases e
  | some p =>
    obtain ⟨d, M1⟩ := p
    simp only [e1] at e
    obtain ⟨W1, l1, R1, dz⟩ := toD_dp R r3 e1
    cases x with
    | d _ => cases e
    | adr _ _ => cases e
    | ref n =>
      simp only at e
      obtain ⟨a, rfl, hm⟩ := r1
      have hm1 := l1.at hm
      cases e2 : M1[n]? with
      | none => rw [e2] at e; cases e
      | some cl =>
        cases cl with
        | frz _ => rw [e2] at e; cases e
        | ins _ _ => rw [e2] at e; cases e
        | lst xs =>
          rw [e2] at e
          simp only at e
          obtain ⟨hz, vs, hH, hd⟩ := cell_lst R1 hm1 e2
          cases y with
          | ref _ => cases e
          | adr _ _ => cases e
          | d w =>
            cases w with
            | int k =>
              simp only at e
              cases r2
              cases e3 : ixN xs.length k with
              | none => rw [e3] at e; cases e
              | some j =>
                rw [e3] at e
                cases e
                exact set_list pins s σ H _ _ v ov iv u Q I ro ri rv ⟨a, vs, k, j, rfl, rfl, hH, by rw [hd.length]; exact e3, q _ W1 l1 (set_lst R1 hm1 hz (DqAll.set dz j hd))⟩
            | _ => cases e
        | dct kvs =>
          rw [e2] at e
          simp only at e
          obtain ⟨hz, vs, hH, hd⟩ := cell_dct R1 hm1 e2
          cases e3 : peek M1 y with
          | none => rw [e3] at e; cases e
          | some k =>
            simp only [e3] at e
            cases e4 : keyD k with
            | none => rw [e4] at e; cases e
            | some kq =>
              simp only [e4] at e
              split at e
              · rename_i hlt
                cases e
                obtain rfl := keyD_ok (peek_pk R1 (r2.mono l1) e3) e4
                obtain rfl : ov = Value.ref a := ro
                refine d_setItem hu I (DPut.k hH (by rw [kv_len hd]; exact hlt)) ri rv fun s' I' => ⟨_, I', q _ W1 l1 (set_dct R1 hm1 hz (kv_put kq dz hd))⟩
              · cases e
theorem ss_put {o i : Expr} {go gi : Ev0 Vl} {p' : Pos} (hu : X.A.units + 1 < cLine) (ho : SE X W0 o go) (hi : SE X W0 i gi) (ha : SE X W0 a ga) (hs : swapsWithSole [.Subscript o i p'] a pos.line X.env = pure false) (hsub : ∀ v, assign (.Subscript o i p') X.env v = (do
      let ov ← holding [v] (eval o X.env)
      let iv ← holding [v, ov] (eval i X.env)
      standAt p'
      holding [v, ov, iv] (setItem ov iv v)
      release [v, ov, iv] [])) : SS X W0 (.Assign [.Subscript o i p'] a pos) (gsPut go gi ga) := by
  refine PS.mono (ps_asg ha (pg_sub ho hi (set_V hu) hsub) hs rfl rfl) fun D σ H h => ?_
  obtain ⟨ρ, M, W, R, S, P⟩ := h
  refine ⟨ρ, M, W, R, S, postS_bind S P fun v H1 W1 M1 z e l1 R1 r1 P1 => ?_⟩
  refine ⟨ρ, M1, W1, R1, S.mono l1, postS_bind (S.mono l1) P1 fun ov H2 W2 M2 x e2 l2 R2 r2 P2 => ?_⟩
  refine ⟨ρ, M2, W2, R2, (S.mono l1).mono l2, postS_bind ((S.mono l1).mono l2) P2 fun iv H3 W3 M3 y e3 l3 R3 r3 P3 => ?_⟩
  cases e4 : putV x y z M3 with
  | none => simp only [e4] at P3; exact P3.elim
  | some M4 =>
    simp only [e4] at P3
    exact ⟨W3, M3, x, y, z, R3, r2.mono l3, r3, (r1.mono l2).mono l3, M4, e4, fun H' W' l' R' => P3 σ H' W' l' R' ((((S.mono l1).mono l2).mono l3).mono l')⟩
end
end Ev

namespace Ev
open PySem PySem.Spec PyProof.Rows L2

/-! ### a lambda without parameters, called by the def that got it -/
/-- what is known of the world in which the lambda was made -/
def LamP (K : PySem.W.Frag) (σ : L2.St) (ρ : Rho) (c : Addr) (q : Str) : Wd → Prop := fun W => SltR K W σ ρ ∧ W.Z c = some (LamX.CodeO c q)
open Classical in
/-- its call -/
noncomputable def gAsk (f : Addr) (P : Wd → Prop) (gl : Sto → Out Vl) : Ev0 Vl := fun ρ M => if ρ[0]? = some (some (.adr f P)) then gl M else .bad
section
variable {X : Cx} {pins : List (Addr × Obj)} {σ : L2.St} {H : Hp} {s : Shared} {W0 : WX} {ρ : Rho} {f c' g : Addr} {pm ctv cdg : Value} {params : Arguments} {body : Expr} {scope : Scope} {gb : Ev0 Vl} {Ng : List Str} {qg a : Str} {sg : Scope} {pn : List (Addr × Obj)} {xe : Value → Shared → Prop} {p1 p2 : Pos}
/-- the context of the def that got it -/
abbrev gotCx (X : Cx) (Ng : List Str) (qg : Str) (sg : Scope) (g : Addr) (cdg : Value) (s : Shared) (H : Hp) : Cx := cxOf C8.CX0 X.prog X.w X.K X.mg X.base Ng qg sg g cdg X.A X.stack s H C8.E0
theorem se_act (J : Inv X pins σ H s) (L : LamX.LamS X.env.scope scope) (ef : s.heap.get? f = some (PySem.W.kla_obj "<lambda>" (X.env.qual ++ "<lambda>") params body scope (cloFrom X.env.cells scope.names []) pm c' ctv)) (nf : H f = none) (ns : f ∉ frs X.stack)
    (bind : bindArgs (PySem.W.kla_fn "<lambda>" (X.env.qual ++ "<lambda>") params body scope (cloFrom X.env.cells scope.names []) pm (.ref c') ctv) ⟨[], []⟩ = pure [])
    (tk : Takes ((gotCx X Ng qg sg g cdg s H).tr pn xe) W0) (room : Room 1 (X.A.deeper (envOfC qg sg s.heap.objs.size g cdg)))
    (hbody : ∀ (A : Around) (out : List Env) (s1 : Shared) (H1 : Hp) (E : XK), A = X.A.deeper (envOfC qg sg s.heap.objs.size g cdg) → SE (LamX.lamCx X A out s1 H1 E scope f c') (fun c d _ H => E c d H) body gb)
    (ha : Ng[0]? = some a) (hv : Vis sg a) (hd : (a == ("__debug__" : Str)) = false) (hcd : (a == ("__classdict__" : Str)) = false) :
    SE ((gotCx X Ng qg sg g cdg s H).tr pn xe) W0 (.Call (.Name a p1) [] [] p2) (gAsk f (LamP X.K σ ρ c' (X.env.qual ++ "<lambda>")) (fun M => gb ρ M)) := by
  refine ⟨fun pz sz σz Hz Q Iz h => ?_⟩
  obtain ⟨ρz, Mz, Wz, R, S, P⟩ := h
  unfold gAsk at P
  by_cases hc : ρz[0]? = some (some (.adr f (LamP X.K σ ρ c' (X.env.qual ++ "<lambda>"))))
  case neg => rw [if_neg hc] at P; exact P.elim
  rw [if_pos hc] at P
  obtain ⟨v, hs, rfl, W1, l1, hS, hZ⟩ := S.2 0 _ hc
  have hco := R.sub _ _ (l1.1 _ _ hZ)
  have nm := (pe_var (X := (gotCx X Ng qg sg g cdg s H).tr pn xe) (pos := p1) (i := 0) ha hv hd hcd).run pz sz σz Hz (fun u K1 => u = .ref f ∧ K1 = Hz) Iz ⟨.ref f, hs, rfl, rfl⟩
  refine wpAny_Call_Name_kw (thn nm fun u s1 hu => ?_)
  obtain ⟨w, K1, I1, rw1, ew, eK⟩ := hu
  subst ew
  rw [eK] at I1
  obtain rfl : u = Value.ref f := rw1
  have kept : s1.heap.get? f = _ := I1.base.keep f _ ef nf ns (by intro z; cases z)
  refine PySem.W.callWith_F0 ⟨_, _, _, _, kept⟩ ?_
  obtain ⟨oc, vs, t, e1, e2, e3⟩ := (I1.hok c' _ hco).1
  -- the call itself
  have call : codeAny (model X.prog X.w) (X.A.deeper (envOfC qg sg s.heap.objs.size g cdg)) (.call (.ref f) ⟨[], []⟩) (CR (L2.CX X.prog X.w) (envOfC qg sg s.heap.objs.size g cdg :: X.stack) X.prog X.w Hz s1 Q (fun c d H' => W0 c d σz H')) s1 := by
    refine PySem.W.kla_callFunE room.depth kept rfl L.co L.gen rfl ⟨c', oc, vs, t, rfl, e1, e2, e3⟩ ?_
    rw [bind]
    refine wpAny_pure (wpAny_newFunctionEnv (fun y hy => (L.own y hy).2) (by simp) (fun h₁ n1 sb => ⟨I1.nolimit.fresh _ sb, ?_⟩) L.kind)
    have more : ∀ b o, s1.heap.get? b = some o → h₁.get? b = some o := fun b o e => sb.extBut b o (Nat.ne_of_lt (Heap.lt_size e)) (Heap.get?_push_of_some _ e)
    have Il := LamX.lam_start2 (E := fun c d H' => W0 c d σz H') (f := f) (c' := c') (tk := s1.toks + ([] : List (Str × Value)).length) J L I1.env0 room.hd I1.base n1 more
    have run := (hbody (X.A.deeper (envOfC qg sg s.heap.objs.size g cdg)) (envOfC qg sg s.heap.objs.size g cdg :: X.stack) s1 Hz (fun c d H' => W0 c d σz H') rfl).run [] _ σ Hz Q Il ⟨ρ, Mz, Wz, R, hS.mono l1, P⟩
    refine PySem.W.kla_codeExpr (wpAny_mono run (fun v s' hq => ?_) fun e s' hq => hq)
    obtain ⟨w', H', J', rv, q⟩ := hq
    exact ⟨w', H', J'.os, J'.bare, J'.base, J'.hok, rv, q⟩
  refine wpAny_call (codeAny_mono call fun r s' hq => ?_)
  cases r with
  | error e => exact tk e s' (XE.of_call I1 (fun cls d H' h => h) hq)
  | ok fl => cases fl <;> first | exact I1.after hq | exact hq.elim
end
end Ev

namespace Ev
open PySem PySem.Spec PyProof.Rows L2

/-! ### a, b, c = x, y, z with plain local names -/
def tPar3 (i j k : Nat) (ta : TA) : TS := fun D σ H => ta σ H fun vs H1 => ∃ u v w, vs = [u, v, w] ∧ D.nx (((σ.set i (some u)).set j (some v)).set k (some w)) H1
section
variable {X : Cx} {W0 : WX} {a b c : Expr} {g : Ev0 (List Vl)} {pos : Pos}
theorem ps_par3 {i j k : Nat} {x y z : Str} {ta : TA} {px py pz pt : Pos} {kt k2 pt2} (hc : X.calm = true) (hN : X.N.Nodup) (hi : X.N[i]? = some x) (hj : X.N[j]? = some y) (hk : X.N[k]? = some z) (hij : i ≠ j) (hik : i ≠ k) (hjk : j ≠ k)
    (hx : X.env.scope.names.lookup x = some .local) (hy : X.env.scope.names.lookup y = some .local) (hz : X.env.scope.names.lookup z = some .local) (ha : PA X [a, b, c] ta)
    (hw : swappedStores [.Tuple [.Name x px, .Name y py, .Name z pz] kt pt] (.Tuple [a, b, c] k2 pt2) X.env = pure (some [x, y, z])) :
    PS X (.Assign [.Tuple [.Name x px, .Name y py, .Name z pz] kt pt] (.Tuple [a, b, c] k2 pt2) pos) (tPar3 i j k ta) := by
  have hs : swapsWithSole [.Tuple [.Name x px, .Name y py, .Name z pz] kt pt] (.Tuple [a, b, c] k2 pt2) pos.line X.env = pure false := rfl
  refine ⟨fun pins s σ H D I h => ?_⟩
  rw [exec_Assign_arm]; refine wpAny_bind (wpAny_standAt ?_)
  rw [hs]; refine wpAny_bind (wpAny_pure ?_)
  rw [if_neg (by decide)]
  refine wpAny_bind (Tuple_ (thn (ha.run _ pins s σ H _ I h) fun us s1 h1 => ?_))
  obtain ⟨vs, H1, I1, r1, u, v, w, rfl, q1⟩ := h1
  obtain ⟨u1, u2, u3, rfl, ru, rv, rw'⟩ : ∃ u1 u2 u3, us = [u1, u2, u3] ∧ RelV u u1 ∧ RelV v u2 ∧ RelV w u3 := by
    cases r1 with
    | cons p r1 => cases r1 with
      | cons p' r1 => cases r1 with
        | cons p2 r1 => cases r1; exact ⟨_, _, _, rfl, p, p', p2⟩
  refine wpAny_newObj_type ?_ (by show 3 ≤ sizeLine; decide)
  have I2 : Inv X pins σ H1 { s1 with heap := s1.heap.push { cls := .type "tuple", data := .seq [u1, u2, u3].toArray } } := I1.kept (t' := s1.toks) fun _ _ e => Heap.get?_push_of_some _ e
  rw [hw]; refine wpAny_bind (wpAny_pure ?_)
  show wpAny (model X.prog X.w) X.A (do rule "assign.swapped-stores"; let items ← unpackItems (.ref s1.heap.objs.size) 3 none; assignInOrder [fun v => bindName X.env z v, fun v => bindName X.env y v, fun v => bindName X.env x v] items.reverse; pure Flow.next) _ _ _
  refine wpAny_bind (wpAny_rule (wpAny_bind (unpackItems_tuple (items := #[u1, u2, u3]) (I.ok.hd hc) (IsTup.new s1.heap _) fun h' hx' => ?_)))
  have I3 := I2.kept (h' := h') (t' := s1.toks) fun bb o e => hx' bb o (Nat.ne_of_lt (Heap.lt_size e)) e
  show wpAny _ _ (assignInOrder [fun v => bindName X.env z v, fun v => bindName X.env y v, fun v => bindName X.env x v] [u3, u2, u1] >>= fun _ => pure Flow.next) _ _ _
  refine wpAny_bind (assignInOrder_cons (wpAny_bindName (store_ok I3 hN hk (.inl hz) rw' (fun s2 I4 => ?_) (.inr hz))))
  refine assignInOrder_cons (wpAny_bindName (store_ok I4 hN hj (.inl hy) rv (fun s3 I5 => ?_) (.inr hy)))
  refine assignInOrder_cons (wpAny_bindName (store_ok I5 hN hi (.inl hx) ru (fun s4 I6 => assignInOrder_nil (wpAny_pure ?_)) (.inr hx)))
  refine ⟨_, H1, ?_, q1⟩
  have e : ((σ.set k (some w)).set j (some v)).set i (some u) = ((σ.set i (some u)).set j (some v)).set k (some w) := by
    rw [List.set_comm _ _ (Ne.symm hjk), List.set_comm _ _ (Ne.symm hik), List.set_comm _ _ (Ne.symm hij)]
  rw [← e]
  exact I6
def gsPar3 (i j k : Nat) (g : Ev0 (List Vl)) : EvS := fun ρ M => bindS ρ (g ρ M) fun xs M1 => match xs with
  | [x, y, z] => .nx (((ρ.set i (some x)).set j (some y)).set k (some z)) M1
  | _ => .bad
theorem vlsR_three {K : PySem.W.Frag} {W : Wd} {xs : List V} {u v w : Vl} (h : VlsR K W xs [u, v, w]) : ∃ x y z, xs = [x, y, z] ∧ VlR K W x u ∧ VlR K W y v ∧ VlR K W z w := by
  cases h with
  | cons h t =>
    obtain ⟨y, z, rfl, h2, h3⟩ := vlsR_two t
    exact ⟨_, _, _, rfl, h, h2, h3⟩
theorem ss_par3 {i j k : Nat} {x y z : Str} {px py pz pt : Pos} {kt k2 pt2} (hc : X.calm = true) (hN : X.N.Nodup) (hi : X.N[i]? = some x) (hj : X.N[j]? = some y) (hk : X.N[k]? = some z) (hij : i ≠ j) (hik : i ≠ k) (hjk : j ≠ k)
    (hx : X.env.scope.names.lookup x = some .local) (hy : X.env.scope.names.lookup y = some .local) (hz : X.env.scope.names.lookup z = some .local) (ha : SA X W0 [a, b, c] g)
    (hw : swappedStores [.Tuple [.Name x px, .Name y py, .Name z pz] kt pt] (.Tuple [a, b, c] k2 pt2) X.env = pure (some [x, y, z])) :
    SS X W0 (.Assign [.Tuple [.Name x px, .Name y py, .Name z pz] kt pt] (.Tuple [a, b, c] k2 pt2) pos) (gsPar3 i j k g) := by
  refine PS.mono (ps_par3 hc hN hi hj hk hij hik hjk hx hy hz ha hw) fun D σ H h => ?_
  obtain ⟨ρ, M, W, R, S, P⟩ := h
  refine ⟨ρ, M, W, R, S, postS_bind S P fun vs H1 W1 M1 xs e l1 R1 r1 P1 => ?_⟩
  split at P1
  · rename_i x y z
    obtain ⟨u, v, w, rfl, r, r', r2⟩ := vlsR_three r1
    exact ⟨u, v, w, rfl, P1 _ _ W1 (Wd.le.refl _) R1 ((((S.mono l1).set r i).set r' j).set r2 k)⟩
  · exact P1.elim
theorem sw_par3 {x y z : Str} {px py pz : Pos} {kt k2 : Nat} {pt pt2 : Pos} {env : Env} (hk : env.scope.kind = .function) (hx : env.scope.names.lookup x = some .local) (hy : env.scope.names.lookup y = some .local) (hz : env.scope.names.lookup z = some .local)
    (hl : (py.line == px.line) = true) (hl2 : (pz.line == px.line) = true) (hd : ([x, y, z].eraseDups == [x, y, z]) = true)
    (hs : [a, b, c].all notStar = true) (hf : [a, b, c].all (foldedForSure 8) = false) (hc : [a, b, c].all (constantsAlone 8) = false) : swappedStores [.Tuple [.Name x px, .Name y py, .Name z pz] kt pt] (.Tuple [a, b, c] k2 pt2) env = pure (some [x, y, z]) := by
  have kx : env.kindOf x = some .local := hx
  have ky : env.kindOf y = some .local := hy
  have kz : env.kindOf z = some .local := hz
  have hb : env.blockKind = .function := by unfold Env.blockKind; rw [hk]; rfl
  have hl' : py.line = px.line := by simpa using hl
  have hl2' : pz.line = px.line := by simpa using hl2
  have ed : ([x, y, z] : List Str).eraseDups = [x, y, z] := by simpa using hd
  rw [List.all_cons, List.all_cons, List.all_cons, List.all_nil, Bool.and_true, Bool.and_eq_true, Bool.and_eq_true] at hs
  have zz : ∀ c : Expr, notStar c = true → (match c with | .Starred .. => true | _ => false) = false := fun c h => by cases c <;> first | rfl | cases h
  have za := zz a hs.1
  have zb := zz b hs.2.1
  have zc := zz c hs.2.2
  unfold swappedStores
  have hfm : ([Expr.Name x px, Expr.Name y py, Expr.Name z pz].filterMap fun
    | .Name id pos => if env.kindOf id == some .local && pos.line == px.line then some id else none
    | _ => none) = [x, y, z] := by
    simp [List.filterMap_cons, kx, ky, kz, hl', hl2']
  simp only [List.length_cons, List.length_nil, hb, List.head?_cons, Option.map_some, Option.getD_some, Expr.pos, List.any_cons, List.any_nil, hf, hc]
  generalize hF : List.filterMap _ [Expr.Name x px, Expr.Name y py, Expr.Name z pz] = L
  have hL : L = [x, y, z] := hF.symm.trans hfm
  subst hL
  rw [ed]
  refine (if_neg (by decide)).trans ((if_neg fun h => ?_).trans ((if_neg (by simp)).trans ((if_neg (by decide)).trans ((if_neg (by decide)).trans rfl))))
  rw [Bool.or_false] at h
  rcases Bool.or_eq_true_iff.mp h with h | h
  · exact Bool.noConfusion (za.symm.trans h)
  · rcases Bool.or_eq_true_iff.mp h with h | h
    · exact Bool.noConfusion (zb.symm.trans h)
    · exact Bool.noConfusion (zc.symm.trans h)
end
end Ev

namespace Ev
open PySem PySem.Spec PyProof.Rows L2

/-! ### a, b, .. = x, y, .. stored from the left -/
def setAll : List Nat → List Vl → Rho → Option Rho
  | [], [], ρ => some ρ
  | i :: is, x :: xs, ρ => setAll is xs (ρ.set i (some x))
  | _, _, _ => none
def gsPars (is : List Nat) (g : Ev0 (List Vl)) : EvS := fun ρ M => bindS ρ (g ρ M) fun xs M1 => if xs.length ≤ sizeLine then (match setAll is xs ρ with
  | some ρ' => .nx ρ' M1
  | none => .bad) else .bad
abbrev Nms := List (Nat × Str × Pos)
def nmE (ts : Nms) : List Expr := ts.map fun t => .Name t.2.1 t.2.2
def swNone (sc : Scope) (ts : Nms) (vs : List Expr) : Bool :=
  !(ts.length == 2 || ts.length == 3) || (vs.length != ts.length || ((ts.any fun t => !(decide (sc.names.lookup t.2.1 = some .local) && t.2.2.line == ((ts.head?.map (·.2.2.line)).getD 0))) || vs.all (foldedForSure 8)))
theorem fm_all {α β : Type} (f : α → Option β) : ∀ (l : List α), (l.filterMap f).length = l.length → ∀ x ∈ l, (f x).isSome = true
  | [], _, x, h => by cases h
  | a :: l, h, x, hx => by
    rw [List.filterMap_cons] at h
    cases e : f a with
    | none =>
      rw [e] at h
      have := List.length_filterMap_le f l
      simp only [List.length_cons] at h
      omega
    | some b =>
      rw [e] at h
      rcases List.mem_cons.mp hx with rfl | hx
      · rw [e]; rfl
      · exact fm_all f l (by simpa using h) x hx
theorem sw_none {env : Env} {sc : Scope} {ts : Nms} {vs : List Expr} {kt k2 : Nat} {pt p2 : Pos} (hs : env.scope = sc) (hk : env.scope.kind = .function) (h : swNone sc ts vs = true) : swappedStores [.Tuple (nmE ts) kt pt] (.Tuple vs k2 p2) env = pure none := by
  have hb : env.blockKind = .function := by unfold Env.blockKind; rw [hk]; rfl
  have hlen : (nmE ts).length = ts.length := by simp [nmE]
  unfold swappedStores
  dsimp only [bind_assoc, pure_bind]
  rw [hlen]
  by_cases c1 : (!(ts.length == 2 || ts.length == 3) || vs.length != ts.length || env.blockKind != .function) = true
  · exact if_pos c1
  refine (if_neg c1).trans ?_
  split
  · rfl
  · split
    · rfl
    · rename_i c3
      split
      · rfl
      · rename_i c4
        exfalso
        have c1 : ¬ ((!(ts.length == 2 || ts.length == 3) || vs.length != ts.length || env.blockKind != .function) = true) := c1
        rw [hb] at c1
        unfold swNone at h
        have c4 : ¬ (vs.all (foldedForSure 8) = true) := c4
        simp only [Bool.or_eq_true] at h c1
        rcases h with h | h | h | h
        · exact c1 (.inl (.inl h))
        · exact c1 (.inl (.inr h))
        · simp only [Bool.or_eq_true, not_or, bne_iff_ne, ne_eq, Decidable.not_not] at c3
          obtain ⟨c3, _⟩ := c3
          have al := fm_all _ _ (c3.trans hlen.symm)
          obtain ⟨t, ht, hn⟩ := List.any_eq_true.mp h
          have := al (.Name t.2.1 t.2.2) (List.mem_map.mpr ⟨t, ht, rfl⟩)
          have hh : ((nmE ts).head?.map (·.pos.line)).getD 0 = ((ts.head?.map (·.2.2.line)).getD 0) := by
            cases ts <;> rfl
          have hkk : (env.kindOf t.2.1 == some .local) = decide (sc.names.lookup t.2.1 = some .local) := by
            unfold Env.kindOf
            rw [hs]
            cases List.lookup t.2.1 sc.names with
            | none => rfl
            | some k => cases k <;> rfl
          dsimp only at this
          rw [hkk, hh] at this
          cases e : (decide (sc.names.lookup t.2.1 = some .local) && t.2.2.line == ((ts.head?.map (·.2.2.line)).getD 0)) with
          | false => rw [e] at this; cases this
          | true => rw [e] at hn; cases hn
        · exact c4 h
def aGv (K : PySem.W.Frag) (is : List Nat) : TGs := fun vs σ H Q => ∃ ρ M W xs, RelM K W H M ∧ SltR K W σ ρ ∧ VlsR K W vs xs ∧ ∃ ρ', setAll is xs ρ = some ρ' ∧ ∀ σ', SltR K W σ' ρ' → Q σ' H
section
variable {X : Cx} {W0 : WX} {es : List Expr} {g : Ev0 (List Vl)} {pos : Pos}
theorem sgv : ∀ (ts : Nms), X.N.Nodup → (∀ t ∈ ts, X.N[t.1]? = some t.2.1 ∧ L2.Loc X.env.scope t.2.1 ∧ (X.fn t.2.1 = true ∨ X.env.scope.names.lookup t.2.1 = some .local)) → PGs X (nmE ts) (aGv X.K (ts.map (·.1)))
  | [], hN, _ => by
    refine PGs.mono pgs_nil fun v σ H Q h => ?_
    obtain ⟨ρ, M, W, xs, R, S, r, ρ', e, q⟩ := h
    cases r with
    | nil => cases e; exact ⟨rfl, q σ S⟩
    | cons _ _ => cases e
  | t :: ts, hN, h => by
    obtain ⟨h1, h2, h3⟩ := h t List.mem_cons_self
    have ih := sgv ts hN fun u hu => h u (List.mem_cons_of_mem _ hu)
    refine PGs.mono (pgs_cons (pg_name hN h1 h2 h3) ih rfl) fun v σ H Q h => ?_
    obtain ⟨ρ, M, W, xs, R, S, r, ρ', e, q⟩ := h
    cases r with
    | nil => cases e
    | cons r rs =>
      exact ⟨_, _, rfl, _, M, W, _, R, S.set r t.1, rs, ρ', e, q⟩
theorem nm_star : ∀ ts : Nms, (nmE ts).all notStar = true
  | [] => rfl
  | t :: ts => nm_star ts
theorem ss_pars {ts : Nms} {kt k2 : Nat} {pt p2 : Pos} (hc : X.calm = true) (hN : X.N.Nodup) (hts : ∀ t ∈ ts, X.N[t.1]? = some t.2.1 ∧ L2.Loc X.env.scope t.2.1 ∧ (X.fn t.2.1 = true ∨ X.env.scope.names.lookup t.2.1 = some .local)) (ha : SA X W0 es g)
    (hw : swappedStores [.Tuple (nmE ts) kt pt] (.Tuple es k2 p2) X.env = pure none) : SS X W0 (.Assign [.Tuple (nmE ts) kt pt] (.Tuple es k2 p2) pos) (gsPars (ts.map (·.1)) g) := by
  have hg := pg_tup (k := kt) (pos := pt) hc (sgv ts hN hts) (assign_len _ _) (assign_nostar _ _ (nm_star ts))
  refine PS.mono (ps_asg (pe_tup ha) hg rfl hw rfl) fun D σ H h => ?_
  obtain ⟨ρ, M, W, R, S, P⟩ := h
  refine ⟨ρ, M, W, R, S, postS_bind S P fun vs H1 W1 M1 xs e l1 R1 r1 P1 => ?_⟩
  by_cases hz : xs.length ≤ sizeLine
  · simp only [if_pos hz] at P1
    cases e2 : setAll (ts.map (·.1)) xs ρ with
    | none => simp only [e2] at P1; exact P1.elim
    | some ρ' =>
      simp only [e2] at P1
      have hlen : ∀ (is : List Nat) (xs : List Vl) (ρ ρ' : Rho), setAll is xs ρ = some ρ' → xs.length = is.length := by
        intro is
        induction is with
        | nil => intro xs ρ ρ' h; cases xs with
          | nil => rfl
          | cons _ _ => cases h
        | cons i is ih => intro xs ρ ρ' h; cases xs with
          | nil => cases h
          | cons x xs => exact congrArg Nat.succ (ih xs _ ρ' h)
      have hl := hlen _ _ _ _ e2
      rw [List.length_map] at hl
      refine ⟨by rw [r1.length]; exact hz, fun p hp => ?_⟩
      have hne : ∀ b u, H1 b = some u → upd H1 p (.tup vs) b = some u := same_upd hp
      refine ⟨p, vs, rfl, .inl (.inl upd_same), by rw [r1.length, hl]; simp [nmE], ρ, M1, W1, xs, R1.grow hne, S.mono l1, r1, ρ', e2, fun σ' S' => P1 σ' _ W1 (Wd.le.refl _) (R1.grow hne) S'⟩
  · simp only [if_neg hz] at P1
    exact P1.elim
end
end Ev

namespace Ev
open PySem PySem.Spec PyProof.Rows L2

/-! ### list comprehensions -/
abbrev W0n : WX := fun _ _ _ _ => False
def noX {α : Type} : Out α → Out α
  | .ok a M => .ok a M
  | _ => .bad
def wipeR (ρ : Rho) : List Nat → Rho
  | [] => ρ
  | v :: vs => (wipeR ρ vs).set v none
def addTo (n : Nat) (d : PyData) (M : Sto) : Option Sto := match M[n]? with
  | some (.lst acc) => if acc.length < sizeLine then some (M.set n (.lst (acc ++ [d]))) else none
  | _ => none
def lcE (t : TgV) (c : Ev0 Bool) (e : Ev0 Vl) (ρ0 : Rho) (n : Nat) (src : ISrc) : Nat → Nat → Sto → Out Unit
  | 0, _, _ => .bad
  | k + 1, i, M => match src.step i M with
    | none => .bad
    | some none => .ok () M
    | some (some x) => (match t x ρ0 M with
      | none => .bad
      | some ρ1 => (noX (c ρ1 M)).bind fun b M1 => if b then (noX (e ρ1 M1)).bind fun y M2 => (match toD M2 y with
          | some (d, M3) => (match addTo n d M3 with
            | some M4 => lcE t c e ρ0 n src k (i + 1) M4
            | none => .bad)
          | none => .bad)
        else lcE t c e ρ0 n src k (i + 1) M1)
/-- the new list: to change, or fixed -/
def lcFin (mu : Bool) (n : Nat) (M : Sto) : Out Vl := match M[n]? with
  | some (.lst xs) => if mu then .ok (.ref n) (M.take (n + 1)) else .ok (.d (.list xs)) (M.take n)
  | _ => .bad
def gLc (mu : Bool) (own : List Nat) (gi : Ev0S) (t : TgV) (c : Ev0 Bool) (e : Ev0 Vl) : Ev0 Vl := fun ρ M => (gi ρ M).bind fun src M1 =>
  (lcE t c e (wipeR ρ own) M1.length src (src.size M1 + 1) 0 (M1 ++ [.lst []])).bind fun _ M2 => lcFin mu M1.length M2
theorem wipe_rel {K : PySem.W.Frag} {W : Wd} {σ : L2.St} {ρ : Rho} (S : SltR K W σ ρ) : ∀ vs, SltR K W (wipe σ vs) (wipeR ρ vs)
  | [] => S
  | v :: vs => (wipe_rel S vs).unset v
def gYes : Ev0 Bool := fun _ M => .ok true M
abbrev SW1 (X : Cx) (W0 : WX) (ifs : List Expr) (c : Ev0 Bool) : Prop := PTs X ifs (aT X.K W0 c)
section
variable {X : Cx} {W0 : WX}
theorem st1_nil : SW1 X W0 [] gYes := ⟨fun pins s σ H Q I h => pts_nil.run pins s σ H Q I (by
  obtain ⟨ρ, M, W, R, S, P⟩ := h
  exact P true H W (Wd.le.refl _) R rfl)⟩
theorem st1_one {a : Expr} {c : Ev0 Bool} (h : ST X W0 a c) : SW1 X W0 [a] c := pts_one h
theorem le_take {W1 W2 Wd' : Wd} {D : Addr} (e2 : W2.μ = W1.μ ++ [D]) (l12 : Same W1.Z W2.Z) (l : W2.le Wd') {Z : Hp} (s : Same Wd'.Z Z) : W1.le ⟨Z, Wd'.μ.take W1.μ.length⟩ := by
  obtain ⟨s2, ν, e⟩ := l
  refine ⟨(l12.trans s2).trans s, [], ?_⟩
  show Wd'.μ.take W1.μ.length = W1.μ ++ []
  rw [e, e2, List.append_assoc, List.append_nil, List.take_left]
theorem le_take1 {W1 W2 Wd' : Wd} {D : Addr} (e2 : W2.μ = W1.μ ++ [D]) (l12 : Same W1.Z W2.Z) (l : W2.le Wd') : W1.le ⟨Wd'.Z, Wd'.μ.take (W1.μ.length + 1)⟩ := by
  obtain ⟨s2, ν, e⟩ := l
  refine ⟨l12.trans s2, [D], ?_⟩
  show Wd'.μ.take (W1.μ.length + 1) = W1.μ ++ [D]
  rw [e, e2, show W1.μ.length + 1 = (W1.μ ++ [D]).length by simp, List.take_left]
theorem lc_mono {own : List Nat} {gi : Ev0S} {sl : List Nat} {t : TgV} {c : Ev0 Bool} {e : Ev0 Vl} {mu : Bool} (hsl : ∀ j ∈ sl, j ∈ own) : ∀ σ H Q, aE X.K W0 (gLc mu own gi t c e) σ H Q → tLc (aIt X.K W0 gi) (aG X.K sl t) (aT X.K W0n c) (aE X.K W0n e) own σ H Q := by
  intro σ H Q h
  obtain ⟨ρ, M, W, R, S, P⟩ := h
  refine ⟨ρ, M, W, R, S, post_bind P fun J H1 W1 M1 src e0 l1 R1 r1 P1 D hD => ?_⟩
  obtain ⟨R2, l2, e2⟩ := R1.newM hD (o := .lst []) (c := .lst []) ⟨R1.Znone hD, [], upd_same, .nil⟩
  have S1 := S.mono l1
  have hlen : M1.length = W1.μ.length := R1.len.symm
  refine ⟨fun i m H => ∃ M W, Wd.le ⟨W1.Z, W1.μ ++ [D]⟩ W ∧ RelM X.K W H M ∧ Post (VlR X.K) X.K W0 W1 σ ((lcE t c e (wipeR ρ own) M1.length src m i M).bind fun _ M2 => lcFin mu M1.length M2) Q, ⟨src.size M1 + 1, M1 ++ [.lst []], _, Wd.le.refl _, R2, P1⟩, ?_⟩
  rintro i m H ⟨M, W, l, R, P⟩
  cases m with
  | zero => exact P.elim
  | succ m =>
    have hj := r1 W H M i (l2.trans l) R
    have hDat : W.μ[M1.length]? = some D := l.at e2
    simp only [lcE] at P
    cases e1 : src.step i M with
    | none => simp only [e1] at P; exact P.elim
    | some o =>
      cases o with
      | none =>
        simp only [e1] at P
        refine .inl ⟨hj.1 e1, ?_⟩
        have P : Post (VlR X.K) X.K W0 W1 σ (lcFin mu M1.length M) Q := P
        simp only [lcFin] at P
        cases e3 : M[M1.length]? with
        | none => simp only [e3] at P; exact P.elim
        | some cl =>
          cases cl with
          | dct _ => simp only [e3] at P; exact P.elim
          | frz _ => simp only [e3] at P; exact P.elim
          | ins _ _ => simp only [e3] at P; exact P.elim
          | lst xs =>
            simp only [e3] at P
            cases mu with
            | true =>
              have P : Post (VlR X.K) X.K W0 W1 σ (.ok (.ref M1.length) (M.take (M1.length + 1))) Q := P
              refine P _ H ⟨W.Z, W.μ.take (M1.length + 1)⟩ ?_ (R.trunc _) ⟨D, rfl, ?_⟩
              · rw [hlen]; exact le_take1 (W1 := W1) (W2 := ⟨W1.Z, W1.μ ++ [D]⟩) (D := D) rfl (Same.refl _) l
              · show (W.μ.take (M1.length + 1))[M1.length]? = some D
                rw [List.getElem?_take_of_lt (Nat.lt_succ_self _)]
                exact hDat
            | false =>
              have P : Post (VlR X.K) X.K W0 W1 σ (.ok (.d (.list xs)) (M.take M1.length)) Q := P
              obtain ⟨W', l', R', d'⟩ := R.freeze hDat e3
              have R2' := R'.trunc M1.length
              have em : (M.set M1.length (.frz (.list xs))).take M1.length = M.take M1.length := by
                rw [List.take_set_of_le (Nat.le_refl _)]
              rw [em] at R2'
              refine P _ H ⟨W'.Z, W'.μ.take M1.length⟩ ?_ R2' d'
              rw [hlen]
              exact le_take (W1 := W1) (W2 := ⟨W1.Z, W1.μ ++ [D]⟩) (D := D) rfl (Same.refl _) (l.trans l') (Same.refl _)
      | some x =>
        simp only [e1] at P
        obtain ⟨hgo, hy⟩ := hj.2 x e1
        refine .inr ⟨hgo, fun H => ∃ M W, Wd.le ⟨W1.Z, W1.μ ++ [D]⟩ W ∧ RelM X.K W H M ∧ Post (VlR X.K) X.K W0 W1 σ ((lcE t c e (wipeR ρ own) M1.length src m (i + 1) M).bind fun _ M2 => lcFin mu M1.length M2) Q, fun H' h => ⟨m, Nat.lt_succ_self _, h⟩, fun v H' y => ?_⟩
        obtain ⟨W2, l3, R3, r3⟩ := hy v H' y
        have Sw : SltR X.K W2 (wipe σ own) (wipeR ρ own) := wipe_rel (((S1.mono l2).mono l).mono l3) own
        cases e3 : t x (wipeR ρ own) M with
        | none => simp only [e3] at P; exact P.elim
        | some ρ1 =>
          simp only [e3] at P
          refine ⟨wipeR ρ own, M, W2, x, R3, Sw, r3, ρ1, e3, fun σ2 S2 o2 => ?_⟩
          refine ⟨(off_wipe o2 hsl).trans (off_wipe (sl := own) ?_ (fun _ h => h)), ρ1, M, W2, R3, S2, ?_⟩
          · refine ⟨wipe_length σ own, fun j hj => ?_⟩
            have key : ∀ (τ : L2.St) (vs : List Nat), j ∉ vs → (wipe τ vs)[j]? = τ[j]? := by
              intro τ vs
              induction vs with
              | nil => exact fun _ => rfl
              | cons v vs ih =>
                intro hn
                show ((wipe τ vs).set v none)[j]? = _
                rw [List.getElem?_set_ne (fun h => hn (by rw [h]; exact List.mem_cons_self))]
                exact ih fun h => hn (List.mem_cons_of_mem _ h)
            exact key σ own hj
          · cases e4 : c ρ1 M with
            | bad => rw [e4] at P; exact P.elim
            | exc _ _ => rw [e4] at P; exact P.elim
            | ok b M2 =>
              rw [e4] at P
              intro b' H3 W3 l4 R4 r4
              have r4 : b' = b := r4
              subst r4
              cases b' with
              | false => exact ⟨M2, W3, (l.trans l3).trans l4, R4, P⟩
              | true =>
                have P : Post (VlR X.K) X.K W0 W1 σ (((noX (e ρ1 M2)).bind fun y M2 => (match toD M2 y with
          | some (d, M3) => (match addTo M1.length d M3 with
            | some M4 => lcE t c e (wipeR ρ own) M1.length src m (i + 1) M4
            | none => .bad)
          | none => .bad)).bind fun _ M2 => lcFin mu M1.length M2) Q := P
                refine ⟨ρ1, M2, W3, R4, S2.mono l4, ?_⟩
                cases e5 : e ρ1 M2 with
                | bad => rw [e5] at P; exact P.elim
                | exc _ _ => rw [e5] at P; exact P.elim
                | ok y M3 =>
                  rw [e5] at P
                  intro z H4 W4 l5 R5 r5
                  have P : Post (VlR X.K) X.K W0 W1 σ ((match toD M3 y with
          | some (d, M3) => (match addTo M1.length d M3 with
            | some M4 => lcE t c e (wipeR ρ own) M1.length src m (i + 1) M4
            | none => .bad)
          | none => .bad).bind fun _ M2 => lcFin mu M1.length M2) Q := P
                  cases e6 : toD M3 y with
                  | none => rw [e6] at P; exact P.elim
                  | some q =>
                    obtain ⟨d, M4⟩ := q
                    simp only [e6] at P
                    obtain ⟨W5, l6, R6, dz⟩ := toD_dp R5 r5 e6
                    have hD5 : W5.μ[M1.length]? = some D := l6.at (l5.at (l4.at (l3.at hDat)))
                    cases e7 : addTo M1.length d M4 with
                    | none => simp only [e7] at P; exact P.elim
                    | some M5 =>
                      simp only [e7] at P
                      simp only [addTo] at e7
                      cases e8 : M4[M1.length]? with
                      | none => rw [e8] at e7; cases e7
                      | some cl =>
                        rw [e8] at e7
                        cases cl with
                        | dct _ => cases e7
                        | frz _ => cases e7
                        | ins _ _ => cases e7
                        | lst acc =>
                          simp only at e7
                          split at e7
                          · rename_i hlt
                            cases e7
                            obtain ⟨hz, vs, hH, hd⟩ := cell_lst R6 hD5 e8
                            exact ⟨vs, hH, by rw [hd.length]; exact hlt, _, W5, ((((l.trans l3).trans l4).trans l5).trans l6), set_lst R6 hD5 hz (hd.append (.cons dz .nil)), P⟩
                          · cases e7
section
variable {elt tg iter : Expr} {ifs : List Expr} {scope : Scope} {own : List (Str × Nat)} {pos : Pos} {gi : Ev0S} {sl : List Nat} {t : TgV} {c : Ev0 Bool} {e : Ev0 Vl} (mu : Bool)
theorem se_lc (hc : X.calm = true) (hN : X.N.Nodup) (hi : SIt X W0 tg iter gi) (ok : BlkOk X.N X.env.scope scope own) (hsl : ∀ j ∈ sl, j ∈ own.map (·.2))
    (hg : ∀ (s : Shared) (H : Hp) (C : Addr) (cl : List (Str × Addr)) (fp : List Addr), PG (X.blk s H scope (compEnvC scope cl C X.env) fp) tg (aG X.K sl t)) (ht : ∀ (s : Shared) (H : Hp) (C : Addr) (cl : List (Str × Addr)) (fp : List Addr), SW1 (X.blk s H scope (compEnvC scope cl C X.env) fp) W0n ifs c)
    (he : ∀ (s : Shared) (H : Hp) (C : Addr) (cl : List (Str × Addr)) (fp : List Addr), SE (X.blk s H scope (compEnvC scope cl C X.env) fp) W0n elt e) (hs : ∀ x, foldedSetIterable iter X.env x = pure x) :
    SE X W0 (.ListComp elt [⟨tg, iter, ifs, 0⟩] scope pos) (gLc mu (own.map (·.2)) gi t c e) :=
  PE.mono (pe_lc hc hN hi ok hg ht he hs) (lc_mono hsl)
theorem ss_setLc {i : Nat} {y : Str} {py spos : Pos} (hc : X.calm = true) (hN : X.N.Nodup) (hy : X.N[i]? = some y) (hyl : X.env.scope.names.lookup y = some .local)
    (hsw : swapsWith (.ListComp elt [⟨tg, iter, ifs, 0⟩] scope pos) (some (.Name y py)) spos.line X.env = pure true) (hi : SIt X W0 tg iter gi) (ok : BlkOk X.N X.env.scope scope own) (hsl : ∀ j ∈ sl, j ∈ own.map (·.2))
    (hg : ∀ (s : Shared) (H : Hp) (C : Addr) (cl : List (Str × Addr)) (fp : List Addr), PG (X.blk s H scope (compEnvC scope cl C X.env) fp) tg (aG X.K sl t)) (ht : ∀ (s : Shared) (H : Hp) (C : Addr) (cl : List (Str × Addr)) (fp : List Addr), SW1 (X.blk s H scope (compEnvC scope cl C X.env) fp) W0n ifs c)
    (he : ∀ (s : Shared) (H : Hp) (C : Addr) (cl : List (Str × Addr)) (fp : List Addr), SE (X.blk s H scope (compEnvC scope cl C X.env) fp) W0n elt e) (hs : ∀ x, foldedSetIterable iter X.env x = pure x) :
    SS X W0 (.Assign [.Name y py] (.ListComp elt [⟨tg, iter, ifs, 0⟩] scope pos) spos) (gsSet i (gLc mu (own.map (·.2)) gi t c e)) := by
  refine PS.mono (ps_setLc (te := aE X.K W0n e) (tt := aT X.K W0n c) hc hN hy hyl hsw hi ok hg ht he hs) fun D σ H h => ?_
  obtain ⟨ρ, M, W, R, S, P⟩ := h
  refine lc_mono (W0 := W0) (mu := mu) hsl σ H _ ⟨ρ, M, W, R, S, postS_bind S P fun v H1 W1 M1 x e l1 R1 r1 P1 => ?_⟩
  exact P1 _ _ W1 (Wd.le.refl _) R1 ((S.mono l1).set r1 i)
end
end
end Ev

namespace Ev
open PySem PySem.Spec PyProof.Rows L2

/-! ### the def that tells how a lambda ends -/
def outSuite (p : Nat → Pos) : List Stmt := [(Stmt.Assign (targets := [(Expr.Name "_law_kinds_now" (p 11))]) (value := (Expr.List (elts := [(Expr.Call (func := (Expr.Name "isinstance" (p 12))) (args := [(Expr.Name "e" (p 13)), (Expr.Name "InvalidPaper" (p 14))]) (keywords := []) (pos := (p 15))), (Expr.Call (func := (Expr.Name "isinstance" (p 16))) (args := [(Expr.Name "e" (p 17)), (Expr.Name "NotUsable" (p 18))]) (keywords := []) (pos := (p 19)))]) (pos := (p 20)))) (pos := (p 21))), (Stmt.Assign (targets := [(Expr.Name "_law_homes" (p 22))]) (value := (Expr.List (elts := [(Expr.Call (func := (Expr.Name "isinstance" (p 23))) (args := [(Expr.Name "e" (p 24)), (Expr.Name "PaperError" (p 25))]) (keywords := []) (pos := (p 26))), (Expr.Call (func := (Expr.Name "isinstance" (p 27))) (args := [(Expr.Name "e" (p 28)), (Expr.Name "TraceError" (p 29))]) (keywords := []) (pos := (p 30)))]) (pos := (p 31)))) (pos := (p 32))), (Stmt.Assign (targets := [(Expr.Name "_law_is_other" (p 33))]) (value := (Expr.Call (func := (Expr.Name "isinstance" (p 34))) (args := [(Expr.Name "e" (p 35)), (Expr.Tuple (elts := [(Expr.Name "BookError" (p 36)), (Expr.Name "TextError" (p 37)), (Expr.Name "NotTold" (p 38))]) (k := 0) (pos := (p 39)))]) (keywords := []) (pos := (p 40)))) (pos := (p 41))), (Stmt.If (test := (Expr.BoolOp (op := BoolOp.And) (values := [(Expr.Call (func := (Expr.Name "isinstance" (p 42))) (args := [(Expr.Name "e" (p 43)), (Expr.Name "ValueError" (p 44))]) (keywords := []) (pos := (p 45))), (Expr.UnaryOp UnaryOp.Not (Expr.Name "_law_is_other" (p 46)) (p 47)), (Expr.Compare (left := (Expr.Name "_law_homes" (p 48))) (ops := [CmpOp.Eq]) (comparators := [(Expr.Name "_law_kinds_now" (p 49))]) (pos := (p 50)))]) (pos := (p 51)))) (body := [(Stmt.If (test := (Expr.Compare (left := (Expr.Name "_law_kinds_now" (p 52))) (ops := [CmpOp.Eq]) (comparators := [(Expr.List (elts := [(Expr.Constant (Const.bool true) 0 (p 53)), (Expr.Constant (Const.bool false) 0 (p 54))]) (pos := (p 55)))]) (pos := (p 56)))) (body := [(Stmt.Assign (targets := [(Expr.Name "_law_found" (p 57))]) (value := (Expr.Tuple (elts := [(Expr.Constant (Const.str "paper") 0 (p 58)), (Expr.Attribute (Expr.Name "e" (p 59)) "word" (p 60)), (Expr.Attribute (Expr.Name "e" (p 61)) "at" (p 62))]) (k := 0) (pos := (p 63)))) (pos := (p 64)))]) (orelse := [(Stmt.If (test := (Expr.Compare (left := (Expr.Name "_law_kinds_now" (p 65))) (ops := [CmpOp.Eq]) (comparators := [(Expr.List (elts := [(Expr.Constant (Const.bool false) 0 (p 66)), (Expr.Constant (Const.bool true) 0 (p 67))]) (pos := (p 68)))]) (pos := (p 69)))) (body := [(Stmt.Assign (targets := [(Expr.Name "_law_found" (p 70))]) (value := (Expr.Tuple (elts := [(Expr.Constant (Const.str "usable") 0 (p 71)), (Expr.Attribute (Expr.Name "e" (p 72)) "word" (p 73)), (Expr.Attribute (Expr.Name "e" (p 74)) "at" (p 75))]) (k := 0) (pos := (p 76)))) (pos := (p 77)))]) (orelse := []) (pos := (p 78)))]) (pos := (p 79)))]) (orelse := []) (pos := (p 80)))]
def outBody (p : Nat → Pos) : List Stmt := [(Stmt.Assign (targets := [(Expr.Name "_law_found" (p 0))]) (value := (Expr.Tuple [(Expr.Constant (Const.str "odd") 0 (p 1))] 0 (p 2))) (pos := (p 3))), (Stmt.Try (body := [(Stmt.Assign (targets := [(Expr.Name "_law_found" (p 4))]) (value := (Expr.Tuple (elts := [(Expr.Constant (Const.str "told") 0 (p 5)), (Expr.Call (Expr.Name "_law_ask" (p 6)) [] [] (p 7))]) (k := 0) (pos := (p 8)))) (pos := (p 9)))]) (handlers := [(ExceptHandler.ExceptHandler (type := (some (Expr.Name "ThinError" (p 10)))) (name := (some "e")) (body := (outSuite p)) (pos := (p 81)))]) (orelse := []) (finalbody := []) (pos := (p 82))), (Stmt.Return (some (Expr.Name "_law_found" (p 83))) (p 84))]
def outN : List Str := ["_law_ask", "_law_found", "e", "_law_kinds_now", "_law_homes", "_law_is_other"]
def outGl : List Str := ["ThinError", "isinstance", "InvalidPaper", "NotUsable", "PaperError", "TraceError", "BookError", "TextError", "NotTold", "ValueError"]
def outCl : List Str := ["ThinError", "InvalidPaper", "NotUsable", "PaperError", "TraceError", "BookError", "TextError", "NotTold"]
/-- the def's names -/
structure OutSc (sg : Scope) : Prop where
  fs : FnScope outN ["_law_ask"] sg
  gl : ∀ x ∈ outGl, sg.names.lookup x = some .globalImplicit
  lc : ∀ x ∈ outN, sg.names.lookup x = some .local
/-- the module's names -/
structure OutM (K : PySem.W.Frag) (mg : Str → Option Value) : Prop where
  cl : ∀ c ∈ outCl, mg c = some (.ref (He.ga K c))
  b1 : mg "isinstance" = none
  b2 : mg "ValueError" = none
/-- a class whose instances are told -/
structure OutD (K : PySem.W.Frag) (D : Addr) (b1 b2 : Bool) : Prop where
  ex : ExcK K D
  i1 : PySem.W.kitOne K (.ref D) (.ref (He.ga K "InvalidPaper")) = some b1
  i2 : PySem.W.kitOne K (.ref D) (.ref (He.ga K "NotUsable")) = some b2
  i3 : PySem.W.kitOne K (.ref D) (.ref (He.ga K "PaperError")) = some b1
  i4 : PySem.W.kitOne K (.ref D) (.ref (He.ga K "TraceError")) = some b2
  i5 : PySem.W.kitAny K (.ref D) [.ref (He.ga K "BookError"), .ref (He.ga K "TextError"), .ref (He.ga K "NotTold")] = some false
  i6 : PySem.W.kitOne K (.ref D) (.type "ValueError") = some true
  em : PySem.W.exmOne K (.ref D) (.ref (He.ga K "ThinError")) = some true
  f1 : PySem.W.findIn K (.ref D) "word" = some none
  f2 : PySem.W.findIn K (.ref D) "at" = some none
/-- how an exception is told -/
def outX (x : Exn) : Option PyData := match x.fs.lookup ("word" : Str), x.fs.lookup ("at" : Str) with
  | some w, some a => if x.c = "InvalidPaper" then some (.tuple [.str "paper", w, a]) else if x.c = "NotUsable" then some (.tuple [.str "usable", w, a]) else none
  | _, _ => none
theorem gl_of {sg : Scope} (S : OutSc sg) {X : Cx} (hs : X.env.scope = sg) {x : Str} (h : x ∈ outGl) : Gl X x := by
  unfold Gl Env.kindOf
  rw [hs]
  exact S.gl x h
theorem vis_of {sg : Scope} (S : OutSc sg) {X : Cx} (hs : X.env.scope = sg) {x : Str} (h : x ∈ outN) : Vis X.env.scope x := by
  rw [hs]
  exact .inl (S.lc x h)
section
variable {X : Cx} {sg : Scope} {W0 : WX} {a d D : Addr} {oe : Obj} {pn : List (Addr × Obj)} {b1 b2 : Bool} {fs : List (Str × PyData)} {p : Nat → Pos}
/-- the suite, evaluated -/
noncomputable def suiteEv (K : PySem.W.Frag) (a d : Addr) (fs : List (Str × PyData)) (b1 b2 : Bool) : EvS :=
  gsSeq (gsSet 3 (gLst (gCons (gExn K 2 a d fs (some (.bool b1))) (gCons (gExn K 2 a d fs (some (.bool b2))) gNil))))
  (gsSeq (gsSet 4 (gLst (gCons (gExn K 2 a d fs (some (.bool b1))) (gCons (gExn K 2 a d fs (some (.bool b2))) gNil))))
  (gsSeq (gsSet 5 (gExn K 2 a d fs (some (.bool false))))
  (gsSeq (gsIf (gAndT (gTru (gExn K 2 a d fs (some (.bool true)))) (gAndT (gNotT (gTru (gVar 5))) (gB (gBin (lift2 eqD) (gVar 4) (gVar 3)))))
    (gsSeq (gsIf (gB (gBin (lift2 eqD) (gVar 3) (gLst (gCons (gCon (.bool true)) (gCons (gCon (.bool false)) gNil)))))
      (gsSeq (gsSet 1 (gTup (gCons (gCon (.str "paper")) (gCons (gExn K 2 a d fs (fs.lookup ("word" : Str))) (gCons (gExn K 2 a d fs (fs.lookup ("at" : Str))) gNil))))) gsNil)
      (gsSeq (gsIf (gB (gBin (lift2 eqD) (gVar 3) (gLst (gCons (gCon (.bool false)) (gCons (gCon (.bool true)) gNil)))))
        (gsSeq (gsSet 1 (gTup (gCons (gCon (.str "usable")) (gCons (gExn K 2 a d fs (fs.lookup ("word" : Str))) (gCons (gExn K 2 a d fs (fs.lookup ("at" : Str))) gNil))))) gsNil)
        gsNil) gsNil)) gsNil)
    gsNil) gsNil)))
theorem se_isX3 {i : Nat} {n c1 c2 c3 : Str} {pe q1 q2 q3 pf pt pos : Pos} {C1 C2 C3 : Addr} {b : Bool} (C : ExcK X.K D) (hz : Zc (.ref D) (some d) oe) (hf : ∃ vs, oe.data = .fields vs) (hi : X.N[i]? = some n) (hv : Vis X.env.scope n) (hd1 : (n == ("__debug__" : Str)) = false) (hd2 : (n == ("__classdict__" : Str)) = false)
    (hg : Gl X "isinstance") (hm : X.mg "isinstance" = none) (h1 : PE (X.suite a ((a, oe) :: pn)) (.Name c1 q1) (tC (.ref C1))) (h2 : PE (X.suite a ((a, oe) :: pn)) (.Name c2 q2) (tC (.ref C2))) (h3 : PE (X.suite a ((a, oe) :: pn)) (.Name c3 q3) (tC (.ref C3))) (e : PySem.W.kitAny X.K (.ref D) [.ref C1, .ref C2, .ref C3] = some b) :
    SE (X.suite a ((a, oe) :: pn)) W0 (.Call (.Name "isinstance" pf) [.Name n pe, .Tuple [.Name c1 q1, .Name c2 q2, .Name c3 q3] 0 pt] [] pos) (gExn X.K i a d fs (some (.bool b))) := by
  refine PE.mono (pe_callB (call_isX C hz hf) hg hm (by decide +kernel) (pa_cons (pe_var (i := i) hi hv hd1 hd2) (pa_cons (pe_tup (pa_cons h1 (pa_cons h2 (pa_cons h3 pa_nil (by rfl)) (by rfl)) (by rfl))) pa_nil (by rfl)) (by rfl)) (by decide) (by decide) (by rfl) (by rfl)) fun σ H Q h => ?_
  obtain ⟨ρ, M, W, R, S, P⟩ := h
  obtain ⟨x, ex, hr, P⟩ := gExn_post P
  cases ex
  obtain ⟨v, hs, rv, W1, l1, vs, hZ, _⟩ := S.2 i _ hr
  subst rv
  refine ⟨.ref a, hs, by rw [sizeLine_eq]; show 3 ≤ _; omega, fun tp nt => ?_⟩
  exact ⟨⟨vs, by rw [upd_ne (ne_of_none (R.sub _ _ (l1.1 _ _ hZ)) nt)]; exact R.sub _ _ (l1.1 _ _ hZ)⟩, .inr ⟨tp, [.ref C1, .ref C2, .ref C3], [.ref C1, .ref C2, .ref C3], b, rfl, upd_same, .cons (.own C1) (.cons (.own C2) (.cons (.own C3) .nil)), e, P (.bl b) _ W (Wd.le.refl W) (R.grow (same_upd nt)) (.bl b)⟩⟩
theorem suite_ok (S : OutSc sg) (Mm : OutM X.K X.mg) (C : OutD X.K D b1 b2) (hN : X.N = outN) (hs : X.env.scope = sg) (hu : X.A.units + 65 < cLine) (hz : Zc (.ref D) (some d) oe) (hf : ∃ vs, oe.data = .fields vs) :
    SSs (X.suite a ((a, oe) :: pn)) W0 (outSuite p) (suiteEv X.K a d fs b1 b2) := by
  have e2 : X.N[2]? = some ("e" : Str) := by rw [hN]; rfl
  have ve : Vis X.env.scope ("e" : Str) := vis_of S hs (by decide)
  have gi : Gl X ("isinstance" : Str) := gl_of S hs (by decide)
  have nd : X.N.Nodup := by rw [hN]; decide
  have gc : ∀ (c : Str) (q : Pos), c ∈ outCl → c ∈ outGl → (c == ("__debug__" : Str)) = false → PE (X.suite a ((a, oe) :: pn)) (.Name c q) (tC (.ref (He.ga X.K c))) := fun c q h1 h2 h3 =>
    pe_glob (X := X.suite a ((a, oe) :: pn)) (v := .ref (He.ga X.K c)) (gl_of S hs h2) (Mm.cl c h1) rfl h3
  have gv : ∀ (q : Pos), PE (X.suite a ((a, oe) :: pn)) (.Name "ValueError" q) (tC (.ty "ValueError")) := fun q => pe_bltn (X := X.suite a ((a, oe) :: pn)) (gl_of S hs (by decide)) Mm.b2 PyProof.Rows.Boot.«ValueError» rfl (by decide) (by decide)
  have is1 : ∀ {W0 : WX} {c : Str} {pf q1 q2 q3 : Pos} {b : Bool}, c ∈ outCl → c ∈ outGl → (c == ("__debug__" : Str)) = false → PySem.W.kitOne X.K (.ref D) (.ref (He.ga X.K c)) = some b → SE (X.suite a ((a, oe) :: pn)) W0 (.Call (.Name "isinstance" pf) [.Name "e" q1, .Name c q2] [] q3) (gExn X.K 2 a d fs (some (.bool b))) :=
    fun h1 h2 h3 hk => se_isX C.ex hz hf e2 ve (by decide) (by decide) gi Mm.b1 (gc _ _ h1 h2 h3) (.own _) hk
  have sv : ∀ {W0 : WX} {i : Nat} {x : Str} {q : Pos}, outN[i]? = some x → x ∈ outN → (x == ("__debug__" : Str)) = false → (x == ("__classdict__" : Str)) = false → SE (X.suite a ((a, oe) :: pn)) W0 (.Name x q) (gVar i) :=
    fun h1 h2 h3 h4 => se_var (X := X.suite a ((a, oe) :: pn)) (by show X.N[_]? = _; rw [hN]; exact h1) (vis_of S hs h2) h3 h4
  have hu2 : (X.suite a ((a, oe) :: pn)).A.units + 64 < cLine := by show X.A.units + 64 < cLine; omega
  have st : ∀ {W0 : WX} {i : Nat} {x : Str} {q : Pos} {e : Expr} {g : Ev0 Vl} {pos : Pos}, outN[i]? = some x → x ∈ outN → SE (X.suite a ((a, oe) :: pn)) W0 e g → swapsWith e (some (.Name x q)) pos.line X.env = pure false → SS (X.suite a ((a, oe) :: pn)) W0 (.Assign [.Name x q] e pos) (gsSet i g) :=
    fun h1 h2 he hw => ss_set (X := X.suite a ((a, oe) :: pn)) nd (by show X.N[_]? = _; rw [hN]; exact h1) (.inl (by show X.env.scope.names.lookup _ = _; rw [hs]; exact S.lc _ h2)) he hw (.inr (by show X.env.scope.names.lookup _ = _; rw [hs]; exact S.lc _ h2))
  refine sss_cons (st (i := 3) rfl (by decide) (se_lst (sa_cons (is1 (by decide) (by decide) (by decide) C.i1) (sa_cons (is1 (by decide) (by decide) (by decide) C.i2) sa_nil rfl) rfl)) rfl) ?_
  refine sss_cons (st (i := 4) rfl (by decide) (se_lst (sa_cons (is1 (by decide) (by decide) (by decide) C.i3) (sa_cons (is1 (by decide) (by decide) (by decide) C.i4) sa_nil rfl) rfl)) rfl) ?_
  refine sss_cons (st (i := 5) rfl (by decide) (se_isX3 C.ex hz hf e2 ve (by decide) (by decide) gi Mm.b1 (gc _ _ (by decide) (by decide) (by decide)) (gc _ _ (by decide) (by decide) (by decide)) (gc _ _ (by decide) (by decide) (by decide)) C.i5) rfl) ?_
  refine sss_cons (ss_if (PW.pt (sw_and (st_truth (se_isX C.ex hz hf e2 ve (by decide) (by decide) gi Mm.b1 (gv _) (.ty _) C.i6) rfl) (sw_and (st_not (st_truth (sv (i := 5) rfl (by decide) (by decide) (by decide)) rfl)) (sw_and1 (st_cmp (op_eqV hu2) (sv (i := 4) rfl (by decide) (by decide) (by decide)) (sv (i := 3) rfl (by decide) (by decide) (by decide)) (fun _ _ _ h => by cases h)))))) ?_ sss_nil) sss_nil
  refine sss_cons (ss_if (st_cmp (op_eqV hu2) (sv (i := 3) rfl (by decide) (by decide) (by decide)) (se_lst (sa_cons se_bl (sa_cons se_bl sa_nil rfl) rfl)) (fun _ _ _ h => by cases h)) ?_ ?_) sss_nil
  · exact sss_cons (st (i := 1) rfl (by decide) (se_tup (sa_cons se_str (sa_cons (se_xf C.ex C.f1 hz hf e2 ve (by decide) (by decide)) (sa_cons (se_xf C.ex C.f2 hz hf e2 ve (by decide) (by decide)) sa_nil rfl) rfl) rfl)) rfl) sss_nil
  · refine sss_cons (ss_if (st_cmp (op_eqV hu2) (sv (i := 3) rfl (by decide) (by decide) (by decide)) (se_lst (sa_cons se_bl (sa_cons se_bl sa_nil rfl) rfl)) (fun _ _ _ h => by cases h)) ?_ sss_nil) sss_nil
    exact sss_cons (st (i := 1) rfl (by decide) (se_tup (sa_cons se_str (sa_cons (se_xf C.ex C.f1 hz hf e2 ve (by decide) (by decide)) (sa_cons (se_xf C.ex C.f2 hz hf e2 ve (by decide) (by decide)) sa_nil rfl) rfl) rfl)) rfl) sss_nil
end
end Ev

namespace Ev
open PySem PySem.Spec PyProof.Rows L2

/-! ### the suite's and the def's outcome -/
section
variable {K : PySem.W.Frag} {a d : Addr} {fs : List (Str × PyData)} {M : Sto} {x0 x1 x3 x4 x5 : Option Vl} {w z : PyData}
theorem gExn_at {P : Wd → Prop} {v : PyData} {x0 x1 x3 x4 x5 : Option Vl} (hP : P = XdP K d fs) : gExn K 2 a d fs (some v) [x0, x1, some (.adr a P), x3, x4, x5] M = .ok (.d v) M := by
  subst hP
  unfold gExn
  exact if_pos rfl
theorem suite_ev (b : Bool) (h1 : fs.lookup ("word" : Str) = some w) (h2 : fs.lookup ("at" : Str) = some z) :
    suiteEv K a d fs (!b) b [x0, x1, some (.adr a (XdP K d fs)), x3, x4, x5] M = .nx [x0, some (.d (.tuple [.str (if b then "usable" else "paper"), w, z])), some (.adr a (XdP K d fs)), some (.d (.list [.bool (!b), .bool b])), some (.d (.list [.bool (!b), .bool b])), some (.d (.bool false))] M := by
  have q1 : ([PyData.bool (!b), PyData.bool b] : List PyData).length ≤ sizeLine := by rw [sizeLine_eq]; show 2 ≤ _; omega
  have q2 : ∀ s : Str, ([PyData.str s, w, z] : List PyData).length ≤ sizeLine := fun s => by rw [sizeLine_eq]; show 3 ≤ _; omega
  have q3 : ∀ x y : Bool, ([PyData.bool x, PyData.bool y] : List PyData).length ≤ sizeLine := fun x y => by rw [sizeLine_eq]; show 2 ≤ _; omega
  have ge : ∀ (v : PyData) (x0 x1 x3 x4 x5 : Option Vl), gExn K 2 a d fs (some v) [x0, x1, some (.adr a (XdP K d fs)), x3, x4, x5] M = .ok (.d v) M := fun v _ _ _ _ _ => gExn_at rfl
  have gl : ∀ (x y : Bool) (ρ : Rho), (gLst (gCons (gCon (.bool x)) (gCons (gCon (.bool y)) gNil))) ρ M = .ok (.d (.list [.bool x, .bool y])) M := fun x y ρ => by
    simp only [gLst, gCons, gCon, gNil, Out.bind, toDs, toD, if_pos (q3 x y)]
  have gp : ∀ (x y : Bool) (x0 x1 x3 x4 x5 : Option Vl), (gLst (gCons (gExn K 2 a d fs (some (.bool x))) (gCons (gExn K 2 a d fs (some (.bool y))) gNil))) [x0, x1, some (.adr a (XdP K d fs)), x3, x4, x5] M = .ok (.d (.list [.bool x, .bool y])) M := fun x y _ _ _ _ _ => by
    simp only [gLst, gCons, gNil, ge, Out.bind, toDs, toD, if_pos (q3 x y)]
  have gt : ∀ (s : Str) (x0 x1 x3 x4 x5 : Option Vl), (gTup (gCons (gCon (.str s)) (gCons (gExn K 2 a d fs (fs.lookup ("word" : Str))) (gCons (gExn K 2 a d fs (fs.lookup ("at" : Str))) gNil)))) [x0, x1, some (.adr a (XdP K d fs)), x3, x4, x5] M = .ok (.d (.tuple [.str s, w, z])) M := fun s _ _ _ _ _ => by
    simp only [gTup, gCons, gCon, gNil, h1, h2, ge, Out.bind, toDs, toD, if_pos (q2 s)]
  have eqd : ∀ (p q r t : Bool), eqD (.list [.bool p, .bool q]) (.list [.bool r, .bool t]) = some (.bool ((p == r) && (q == t))) := by
    intro p q r t
    cases p <;> cases q <;> cases r <;> cases t <;> rfl
  cases b
  · simp only [suiteEv, gsSeq, gsSet, gsIf, gsNil, gp, ge, bindS, OutS.then, List.set_cons_succ, List.set_cons_zero, gAndT, gTru, gNotT, gB, gBin, gVar, Out.bind, truV, peek, truD, PyData.truthy, lift2, asBool, give, gl, gt, eqd, List.getElem?_cons_succ, List.getElem?_cons_zero, Bool.not_false, Bool.not_true, if_true, Bool.false_eq_true, if_false, BEq.rfl, Bool.and_self]
    try rfl
  · simp only [suiteEv, gsSeq, gsSet, gsIf, gsNil, gp, ge, bindS, OutS.then, List.set_cons_succ, List.set_cons_zero, gAndT, gTru, gNotT, gB, gBin, gVar, Out.bind, truV, peek, truD, PyData.truthy, lift2, asBool, give, gl, gt, eqd, List.getElem?_cons_succ, List.getElem?_cons_zero, Bool.not_false, Bool.not_true, if_true, Bool.false_eq_true, if_false, BEq.rfl, Bool.and_self]
    try rfl
end
end Ev

namespace Ev
open PySem PySem.Spec PyProof.Rows L2

/-! ### x(lambda: e), x the def that tells how it ends -/
def outR (gl : Sto → Out Vl) : Sto → Out Vl := fun M => match gl M with
  | .ok v M1 => (match toD M1 v with
    | some (d, M2) => .ok (.d (.tuple [.str "told", d])) M2
    | none => .bad)
  | .exc x M1 => (match outX x with
    | some d => .ok (.d d) M1
    | none => .bad)
  | .bad => .bad
/-- the classes that are told -/
structure OutK (K : PySem.W.Frag) : Prop where
  u : OutD K (He.ga K "NotUsable") false true
  i : OutD K (He.ga K "InvalidPaper") true false
theorem outX_some {K : PySem.W.Frag} (O : OutK K) {x : Exn} {d : PyData} (h : outX x = some d) : ∃ (b : Bool) (w z : PyData), OutD K (He.ga K x.c) (!b) b ∧ x.fs.lookup ("word" : Str) = some w ∧ x.fs.lookup ("at" : Str) = some z ∧ d = .tuple [.str (if b then "usable" else "paper"), w, z] := by
  unfold outX at h
  cases e1 : x.fs.lookup ("word" : Str) with
  | none => rw [e1] at h; cases h
  | some w =>
    cases e2 : x.fs.lookup ("at" : Str) with
    | none => rw [e1, e2] at h; cases h
    | some z =>
      rw [e1, e2] at h
      simp only at h
      by_cases c1 : x.c = "InvalidPaper"
      · rw [if_pos c1] at h
        cases h
        exact ⟨false, w, z, by rw [c1]; exact O.i, rfl, rfl, rfl⟩
      · rw [if_neg c1] at h
        by_cases c2 : x.c = "NotUsable"
        · rw [if_pos c2] at h
          cases h
          exact ⟨true, w, z, by rw [c2]; exact O.u, rfl, rfl, rfl⟩
        · rw [if_neg c2] at h
          cases h
theorem toD_dd (M : Sto) (x : PyData) : toD M (.d x) = some (x, M) := rfl
theorem SltR.weak {K : PySem.W.Frag} {W : Wd} {σ : L2.St} {ρ ρ' : Rho} (S : SltR K W σ ρ) (hl : ρ'.length = ρ.length) (h : ∀ (i : Nat) (x : Vl), ρ'[i]? = some (some x) → ρ[i]? = some (some x)) : SltR K W σ ρ' := ⟨by rw [S.1, hl], fun i x e => S.2 i x (h i x e)⟩
section
variable {X : Cx} {pins : List (Addr × Obj)} {σ : L2.St} {H : Hp} {s : Shared} {ρ : Rho} {f c' g : Addr} {pm ctv cdg : Value} {params : Arguments} {body : Expr} {scope : Scope} {gb : Ev0 Vl} {qg : Str} {sg : Scope} {p : Nat → Pos} {P : Wd → Prop} {gl : Sto → Out Vl}
abbrev rho0 (f : Addr) (P : Wd → Prop) (v : Option Vl) : Rho := [some (.adr f P), v, none, none, none, none]
def odd : PyData := .tuple [.str "odd"]
/-- the body's reading -/
def tOut (K : PySem.W.Frag) (f : Addr) (P : Wd → Prop) (gl : Sto → Out Vl) : TS := fun D σ H => ∃ M W, RelM K W H M ∧ SltR K W σ (rho0 f P none) ∧ Post (VlR K) K (fun _ _ _ _ => False) W σ (outR gl M) D.rt
theorem ps_outBody (S : OutSc sg) (Mm : OutM X.K X.mg) (O : OutK X.K) (hu : X.A.units + 100 < cLine)
    (act : ∀ (W : WX) (pn : List (Addr × Obj)) (xe : Value → Shared → Prop) (p1 p2 : Pos), Takes ((gotCx X outN qg sg g cdg s H).tr pn xe) W → SE ((gotCx X outN qg sg g cdg s H).tr pn xe) W (.Call (.Name "_law_ask" p1) [] [] p2) (gAsk f P gl)) :
    PSs (gotCx X outN qg sg g cdg s H) (outBody p) (tOut X.K f P gl) := by
  have nd : (outN : List Str).Nodup := S.fs.nd
  have kl : ∀ {x : Str}, x ∈ outN → sg.names.lookup x = some .local := fun h => S.lc _ h
  have s1 : SS (gotCx X outN qg sg g cdg s H) (fun _ _ _ _ => False) (.Assign [.Name "_law_found" (p 0)] (.Tuple [.Constant (.str "odd") 0 (p 1)] 0 (p 2)) (p 3)) (gsSet 1 (gTup (gCons (gCon (.str "odd")) gNil))) :=
    ss_set (X := gotCx X outN qg sg g cdg s H) nd rfl (.inl (kl (by decide))) (se_tup (sa_cons se_str sa_nil rfl)) rfl (.inl rfl)
  have W2 : ∀ {a b : Str}, ([PyData.str a, PyData.str b] : List PyData).length ≤ sizeLine := by intros; rw [sizeLine_eq]; show 2 ≤ _; omega
  have two : ∀ x : PyData, ([PyData.str "told", x] : List PyData).length ≤ sizeLine := fun x => by rw [sizeLine_eq]; show 2 ≤ _; omega
  have one : ([PyData.str "odd"] : List PyData).length ≤ sizeLine := by rw [sizeLine_eq]; show 1 ≤ _; omega
  have hNm : Names (gotCx X outN qg sg g cdg s H) "ThinError" (.ref (He.ga X.K "ThinError")) := ⟨S.gl _ (by decide), by decide, .inl (Mm.cl _ (by decide))⟩
  have body : ∀ (W : WX) (pn : List (Addr × Obj)) (xe : Value → Shared → Prop), Takes ((gotCx X outN qg sg g cdg s H).tr pn xe) W → PassesOwn (model X.prog X.w) (gotCx X outN qg sg g cdg s H).A (gotCx X outN qg sg g cdg s H).env xe →
      PSs ((gotCx X outN qg sg g cdg s H).tr pn xe) [.Assign [.Name "_law_found" (p 4)] (.Tuple [.Constant (.str "told") 0 (p 5), .Call (.Name "_law_ask" (p 6)) [] [] (p 7)] 0 (p 8)) (p 9)]
        (aS X.K W (gsSeq (gsSet 1 (gTup (gCons (gCon (.str "told")) (gCons (gAsk f P gl) gNil)))) gsNil)) := fun W pn xe tk _ =>
    sss_cons (ss_set (X := (gotCx X outN qg sg g cdg s H).tr pn xe) nd rfl (.inl (kl (by decide))) (se_tup (sa_cons se_str (sa_cons (act W pn xe _ _ tk) sa_nil rfl) rfl)) rfl (.inl rfl)) sss_nil
  have suite : ∀ (a : Addr) (oe : Obj) (cls : Value) (d : Option Addr) (pn : List (Addr × Obj)), Zc cls d oe → (∃ vs, oe.data = .fields vs) → PSs ((gotCx X outN qg sg g cdg s H).suite a ((a, oe) :: pn)) (outSuite p)
      (fun D σ H1 => ∃ (b : Bool) (c : Str) (dd : Addr) (fs : List (Str × PyData)), OutD X.K (He.ga X.K c) (!b) b ∧ cls = .ref (He.ga X.K c) ∧ d = some dd ∧ aS X.K (fun _ _ _ _ => False) (suiteEv X.K a dd fs (!b) b) D σ H1) := by
    intro a oe cls d pn hz hf
    refine ⟨fun pins s' σ' H' D I h => ?_⟩
    obtain ⟨b, c, dd, fs, hO, rfl, rfl, h⟩ := h
    exact (suite_ok (X := gotCx X outN qg sg g cdg s H) (p := p) S Mm hO rfl rfl (by show (X.A.deeper _).units + 65 < cLine; have : (X.A.deeper (envOfC qg sg s.heap.objs.size g cdg)).units = X.A.units + 3 := rfl; omega) hz hf).run pins s' σ' H' D I h
  refine PSs.mono (pss_cons s1 (pss_cons (ps_try_as (X := gotCx X outN qg sg g cdg s H) (i := 2) (Wout := fun _ _ _ _ => False) rfl rfl nd rfl (kl (by decide)) hNm LamX.takes0 body suite) (pss_one (ss_ret (W0 := fun _ _ _ _ => False) (se_var (X := gotCx X outN qg sg g cdg s H) (i := 1) rfl (.inl (kl (by decide))) (by decide) (by decide)))))) fun D σ H h => ?_
  obtain ⟨M, W, R, Sl, Po⟩ := h
  have Go : ∀ (σ1 : L2.St) (H1 : Hp) (W1 : Wd) (M1 : Sto) (ρ1 : Rho) (v : PyData), W.le W1 → RelM X.K W1 H1 M1 → SltR X.K W1 σ1 ρ1 → ρ1[1]? = some (some (.d v)) → Post (VlR X.K) X.K (fun _ _ _ _ => False) W σ (.ok (.d v) M1) D.rt → aS X.K (fun _ _ _ _ => False) (gsRet (gVar 1)) D σ1 H1 := by
    intro σ1 H1 W1 M1 ρ1 v l1 R1 S1 h1 hp
    refine ⟨ρ1, M1, W1, R1, S1, ?_⟩
    have e : gsRet (gVar 1) ρ1 M1 = .rt (.d v) M1 := by simp only [gsRet, gVar, h1, bindS]
    rw [e]
    exact fun u H2 W2 l2 R2 r2 => hp u H2 W2 (l1.trans l2) R2 r2
  refine ⟨rho0 f P none, M, W, R, Sl, ?_⟩
  have e1 : gsSet 1 (gTup (gCons (gCon (.str "odd")) gNil)) (rho0 f P none) M = .nx (rho0 f P (some (.d odd))) M := by
    simp only [gsSet, gTup, gCons, gCon, gNil, Out.bind, toDs, toD, if_pos one, bindS, List.set_cons_succ, List.set_cons_zero, odd]
  rw [e1]
  intro σ1 H1 W1 l1 R1 S1
  refine ⟨rho0 f P (some (.d odd)), M, W1, R1, S1, ?_⟩
  have ea : gAsk f P gl (rho0 f P (some (.d odd))) M = gl M := if_pos rfl
  cases eg : gl M with
  | bad =>
    unfold outR at Po
    rw [eg] at Po
    exact Po.elim
  | ok v M1 =>
    unfold outR at Po
    rw [eg] at Po
    simp only at Po
    cases ed : toD M1 v with
    | none => rw [ed] at Po; exact Po.elim
    | some q =>
      obtain ⟨d, M2⟩ := q
      rw [ed] at Po
      simp only at Po
      have e2 : gsSeq (gsSet 1 (gTup (gCons (gCon (.str "told")) (gCons (gAsk f P gl) gNil)))) gsNil (rho0 f P (some (.d odd))) M = .nx (rho0 f P (some (.d (.tuple [.str "told", d])))) M2 := by
        simp only [gsSeq, gsSet, gTup, gCons, gCon, gNil, ea, eg, Out.bind, toDs, toD_dd, ed, if_pos (two d), bindS, OutS.then, gsNil, List.set_cons_succ, List.set_cons_zero]
      rw [e2]
      intro σ2 H2 W2 l2 R2 S2
      exact Go σ2 H2 W2 M2 _ _ (l1.trans l2) R2 S2 rfl Po
  | exc x M1 =>
    unfold outR at Po
    rw [eg] at Po
    simp only at Po
    cases ex : outX x with
    | none => rw [ex] at Po; exact Po.elim
    | some d =>
      rw [ex] at Po
      simp only at Po
      have e2 : gsSeq (gsSet 1 (gTup (gCons (gCon (.str "told")) (gCons (gAsk f P gl) gNil)))) gsNil (rho0 f P (some (.d odd))) M = .exc x (rho0 f P (some (.d odd))) M1 := by
        simp only [gsSeq, gsSet, gTup, gCons, gCon, gNil, ea, eg, Out.bind, bindS, OutS.then]
      rw [e2]
      obtain ⟨b, w, z, hO, k1, k2, rfl⟩ := outX_some O ex
      intro cls dx σ2 H2 W2 l2 R2 S2 hx
      obtain ⟨rfl, dd, vs, rfl, hd, hp⟩ := hx
      refine ⟨true, hO.em, fun _ a na => ?_, fun z => by cases z⟩
      refine ⟨b, x.c, dd, x.fs, hO, rfl, rfl, ?_⟩
      obtain ⟨W3, l3, R3, hZ⟩ := R2.adopt hd (fun _ z => by cases z) (fun _ z => by cases z) (fun _ z => by cases z) (fun _ _ _ z => by cases z)
      have va : VlR X.K W3 (.ref a) (.adr a (XdP X.K dd x.fs)) := ⟨rfl, W3, Wd.le.refl W3, vs, hZ, paired_mono hp fun p q r => ⟨r.1, Dq.mono l3.1 r.2⟩⟩
      refine ⟨[some (.adr f P), some (.d odd), some (.adr a (XdP X.K dd x.fs)), none, none, none], M1, W3, R3, (S2.mono l3).set va 2, ?_⟩
      rw [suite_ev b k1 k2]
      intro σ4 H4 W4 l4 R4 S4
      exact Go (σ4.set 2 none) H4 W4 M1 _ _ (((l1.trans l2).trans l3).trans l4) R4 (S4.unset 2) rfl Po
end
end Ev

namespace Ev
open PySem PySem.Spec PyProof.Rows L2

/-! ### x(lambda: e) as one form -/
def outT (k : Nat) : Out Vl → Out Vl
  | .ok (.d x) M => .ok (.d x) (M.take k)
  | _ => .bad
def gOut (g : Ev0 Vl) : Ev0 Vl := fun ρ M => outT M.length (outR (fun M1 => g ρ M1) M)
section
variable {K : PySem.W.Frag} {W W1 W' : Wd} {H : Hp} {M : Sto}
theorem le_trim (l : W.le W') : W.le ⟨W'.Z, W'.μ.take W.μ.length⟩ := by
  obtain ⟨s, ν, e⟩ := l
  exact ⟨s, [], by show W'.μ.take W.μ.length = W.μ ++ []; rw [e, List.append_nil, List.take_left]⟩
theorem outT_post {W0 : WX} {σ σ2 : L2.St} {o : Out Vl} {Q : VK} (hl : W.μ.length = M.length) (l : W.le W1) (P : Post (VlR K) K W0 W σ (outT M.length o) Q) : Post (VlR K) K (fun _ _ _ _ => False) W1 σ2 o Q := by
  cases o with
  | bad => exact P.elim
  | exc x M1 => exact P.elim
  | ok v M1 =>
    cases v with
    | d x => exact fun u H' W2 l2 R r => P u H' _ (le_trim (l.trans l2)) (by rw [hl]; exact R.trunc _) r
    | ref n => exact P.elim
    | adr _ _ => exact P.elim
end
section
variable {X : Cx} {W0 : WX} {x : Str} {g c P : Addr} {fd : FuncData} {pg params : Arguments} {sg scope : Scope} {body : Expr} {gb : Ev0 Vl} {p : Nat → Pos} {pf lp pos : Pos}
theorem codeO_ne' {c : Addr} {q : Str} : (∀ ps, LamX.CodeO c q ≠ .tbl ps) ∧ (∀ ws, LamX.CodeO c q ≠ .lst ws) ∧ (∀ ws, LamX.CodeO c q ≠ .dK ws) ∧ ∀ C dx ws, LamX.CodeO c q ≠ .ins C dx ws := by
  refine ⟨?_, ?_, ?_, ?_⟩ <;> intros <;> intro z <;> unfold LamX.CodeO at z <;> cases z
theorem se_outc (hgx : Gl X x) (hm : X.mg x = some (.ref g)) (hk : PySem.W.keepIn X.K (.ref g) = true) (F : FunD X.K x x pg (outBody p) sg [] [] g fd) (hb : Binds X.K fd ["_law_ask"] []) (S : OutSc sg) (Mm : OutM X.K X.mg) (O : OutK X.K)
    (TB : LamX.TabB X.base X.mg c P) (hcode : X.env.code = .ref c) (hmT : (P, X.env.qual ++ "<lambda>") ∈ tabsF X.K) (hun : ∀ q ∈ tabsF X.K, q.1 = P → q.2 = X.env.qual ++ "<lambda>") (hr : Room 2 X.A) (L : LamX.LamS X.env.scope scope) (hdef : defaultsOf params X.env = ([], []))
    (hbind : ∀ (q : Str) (cl : List (Str × Addr)) (pm cv ctv : Value), bindArgs (PySem.W.kla_fn "<lambda>" q params body scope cl pm cv ctv) ⟨[], []⟩ = pure []) (hdb : (x == ("__debug__" : Str)) = false)
    (hbody : ∀ (env : Env) (out : List Env) (s1 : Shared) (H1 : Hp) (E : XK) (f c' : Addr), SE (LamX.lamCx X (X.A.deeper env) out s1 H1 E scope f c') (fun c d _ H => E c d H) body gb) :
    SE X W0 (.Call (.Name x pf) [.Lambda params body scope lp] [] pos) (gOut gb) := by
  obtain ⟨oc, od, dV, kV, doc, pm, an, cdv, ct, osl, rfl, lk, hcd, _, _⟩ := F.ex
  refine ⟨fun pins s σ H Q I h => ?_⟩
  obtain ⟨ρ, M, W, R, Sl, Po⟩ := h
  refine wpAny_Call_Name_kw (ld_glob I hgx hm ?_ hdb)
  refine PySem.W.callWith_K (h₀ := X.base) I.ok.mod.kin hk ?_ (by rfl) (by rfl)
  refine (show wpAny _ _ (spliced ((false, eval (.Lambda params body scope lp) X.env) :: backTo pos (starEach [] X.env))) _ _ s from ?_)
  refine Calls.spliced_cons (LamX.lam_make2 (T := tabsF X.K) I TB hcode hmT hun R.tab hdef (L.has I.ok) fun f c' pm' ctv H1 s' I1 eN T1 hf hfn hfr hco => ?_)
  refine Calls.spliced_nil ⟨I1.kIn, ?_⟩
  obtain ⟨k1, k2, k3, k4⟩ := @codeO_ne' c' (X.env.qual ++ "<lambda>")
  obtain ⟨W1, l1, R1, hZ⟩ := (R.extN eN T1).adopt hco k1 k2 k3 k4
  have called : codeAny (model X.prog X.w) X.A (.call (.ref g) ⟨[.ref f], []⟩) (CR C8.CX0 X.stack X.prog X.w H1 s' Q C8.E0) s' := by
    refine LamX.run_ofS (N := outN) (ps := ["_law_ask"]) (us := [.ref f]) (vs := [.ref f]) (k := 1) lk hcd S.fs hr I1.env0 (hb s' [.ref f] I1.kIn rfl) (.cons rfl .nil) rfl fun hr1 => ?_
    refine ⟨_, ps_outBody (X := X) (f := f) (P := LamP X.K σ ρ c' (X.env.qual ++ "<lambda>")) (gl := fun M1 => gb ρ M1) S Mm O (by have := hr.un; omega) (fun W2 pn xe p1 p2 tk => ?_), M, W1, R1, ⟨rfl, fun i y e => ?_⟩, outT_post R.len l1 Po⟩
    · exact se_act I1 L hf hfn hfr (hbind _ _ _ _ _) tk hr1 (fun A out s1 H2 E eA => by subst eA; exact hbody _ out s1 H2 E f c') rfl (.inl (S.lc _ (by decide))) (by decide) (by decide)
    · match i, e with
      | 0, e =>
        cases e
        exact ⟨.ref f, rfl, rfl, W1, Wd.le.refl W1, Sl.mono l1, hZ⟩
      | 1, e => cases e
      | 2, e => cases e
      | 3, e => cases e
      | 4, e => cases e
      | 5, e => cases e
      | n + 6, e => cases e
  refine wpAny_call (codeAny_mono called fun r s2 hq => ?_)
  cases r with
  | error e => exact hq.elim
  | ok fl => cases fl <;> first | exact I1.after hq | exact hq.elim
end
end Ev

namespace Ev
open PySem PySem.Spec PyProof.Rows L2

/-! ### xs[::-1] of lists and tuples -/
def revD : PyData → Option PyData
  | .list xs => some (.list xs.reverse)
  | .tuple xs => some (.tuple xs.reverse)
  | _ => none
theorem dq_reverse {K : PySem.W.Frag} {H : Hp} : ∀ {vs : List V} {ds : List PyData}, DqAll K H vs ds → DqAll K H vs.reverse ds.reverse
  | _, _, .nil => .nil
  | _, _, .cons h t => by
    rw [List.reverse_cons, List.reverse_cons]
    exact (dq_reverse t).append (.cons h .nil)
section
variable {prog : Program} {w : World} {A : Around} {E : Value → Shared → Prop} {s : Shared}
theorem rev_places (n : Nat) : Builtin.Slice.slicePlaces ((n : Int) - 1) (-1) (-1) = n := by
  unfold Builtin.Slice.slicePlaces
  rw [if_neg (by omega)]
  by_cases h : (n : Int) - 1 > -1
  · rw [if_pos h]
    have : ((n : Int) - 1 - -1 - 1) / (- -1) + 1 = (n : Int) := by
      rw [show (- -1 : Int) = 1 from rfl, Int.ediv_one]
      omega
    rw [this]
    rfl
  · rw [if_neg h]
    omega
theorem rev_pick (xs : Array Value) : ((List.range xs.size).filterMap fun (k : Nat) => xs[((xs.size : Int) - 1 + (k : Int) * -1).toNat]?).toArray = xs.toList.reverse.toArray := by
  have e : (fun (k : Nat) => xs[((xs.size : Int) - 1 + (k : Int) * -1).toNat]?) = (fun j => xs[j]?) ∘ fun k => xs.size - 1 - k := by
    funext k
    have : ((xs.size : Int) - 1 + (k : Int) * -1).toNat = xs.size - 1 - k := by omega
    rw [this]
    rfl
  rw [e, ← List.filterMap_map, PySem.W.krv_range, List.filterMap_reverse, PySem.W.krv_all]
theorem getItem_tuple_rev {t sl : Addr} {items : Array Value} {vs : Value} {Q : Value → Shared → Prop} (ht : IsTup s.heap t items) (hs : s.heap.IsSliceOf sl .none .none vs) (ps : IsPart vs (some (-1)))
    (h : Q (.ref s.heap.objs.size) { s with heap := s.heap.push { cls := .type "tuple", data := .seq items.toList.reverse.toArray } }) (hsz : items.size ≤ sizeLine) : wpAny (model prog w) A (getItem (.ref t) (.ref sl)) Q E s := by
  have fits : sizeOk (.seq items.toList.reverse.toArray) := by
    show items.toList.reverse.toArray.size ≤ sizeLine
    rw [List.size_toArray, List.length_reverse, Array.length_toList]
    exact hsz
  obtain ⟨os, hos, hcs, hds⟩ := id hs
  have hTs : s.TypeIs (.ref sl) "slice" := ⟨os, hos, hcs⟩
  unfold getItem
  try with_reducible refine wpAny_holding ?_
  first | refine wpAny_bind (wpAny_pure ?_) | skip
  refine wpAny_bind (wpAny_sequenceKey ht.typeIs (by decide) ?_)
  refine wpAny_bind (wpAny_callSpecial?_slot (name := Str.ofString "__getitem__") ht.typeIs PyProof.Rows.slot_tuple_getitem
    (wpAny_call_entry PyProof.Rows.slot_tuple_getitem ht.typeIs PyProof.Rows.entry_tuple_getitem ?_ (PyProof.Rows.args_tuple_getitem _ _)))
  refine (show wpAny _ _ (Builtin.Tuple.tupleItemsOf (.ref t) >>= _) _ _ s from ?_)
  refine wpAny_bind (PyProof.Rows.tupleItemsOf_ ht (wpAny_bind (wpAny_typeOf hTs ?_)))
  rw [if_pos (by decide)]
  unfold Builtin.Slice.sliceApplied Builtin.Slice.sliceFields
  refine wpAny_bind (wpAny_bind (wpAny_bind (wpAny_field hos hds (x := .none) rfl (wpAny_bind (wpAny_field hos hds (x := .none) rfl (wpAny_bind (wpAny_field hos hds (x := vs) rfl (wpAny_pure ?_))))))))
  refine wpAny_bind (HT.slicePart_ ps ?_)
  refine (show wpAny _ _ (if ((-1 : Int) == 0) = true then _ else _) _ _ s from ?_)
  rw [if_neg (by decide)]
  refine wpAny_bind (HT.slicePart_ .none (wpAny_bind (HT.slicePart_ .none (wpAny_bind (wpAny_pure ?_)))))
  refine (show wpAny _ _ (pure ((items.size : Int) - 1, (-1 : Int), Builtin.Slice.slicePlaces ((items.size : Int) - 1) (-1) (-1))) _ _ s from ?_)
  rw [rev_places]
  refine wpAny_pure ?_
  have no1 : ¬ (((items.size : Int) - 1 == 0 && (-1 : Int) == 1 && items.size == items.size) = true) := by
    rw [show ((-1 : Int) == 1) = false from rfl, Bool.and_false, Bool.false_and]
    exact Bool.false_ne_true
  refine (show wpAny _ _ (if ((items.size : Int) - 1 == 0 && (-1 : Int) == 1 && items.size == items.size) = true then _ else _) _ _ s from ?_)
  rw [if_neg no1, rev_pick]
  first
    | exact wpAny_bind (m := Builtin.Tuple.tupleExact _) (wpAny_newObj_type (wpAny_pure ⟨_, rfl, wpAny_pure h⟩) fits)
    | exact wpAny_bind (m := Builtin.Tuple.tupleExact _) (wpAny_newObj_type (wpAny_bind (wpAny_pure (wpAny_pure ⟨_, rfl, wpAny_pure h⟩))) fits)
    | exact wpAny_bind (wpAny_bind (m := Builtin.Tuple.tupleExact _) (wpAny_newObj_type (wpAny_pure (wpAny_pure ⟨_, rfl, wpAny_pure h⟩)) fits))
    | exact wpAny_bind (wpAny_bind (m := Builtin.Tuple.tupleExact _) (wpAny_newObj_type (wpAny_pure ⟨_, rfl, wpAny_pure h⟩) fits))
end
section
variable {X : Cx} {W0 : WX} {a : Expr} {ga : Ev0 Vl} {k : Nat} {p1 p2 p3 pos : Pos}
theorem se_rev (ha : SE X W0 a ga) : SE X W0 (.Subscript a (.Slice none none (some (.UnaryOp .USub (.Constant (.int 1) k p1) p2)) p3) pos) (gUn (lift1 revD) ga) := by
  refine ⟨fun pins s σ H Q I h => ?_⟩
  obtain ⟨ρ, M, W, R, S, P⟩ := h
  have P2 := post_bind P fun v H1 W1 M1 x e l1 R1 r1 P1 => (⟨W1, M1, x, R1, r1, P1⟩ : (fun (v : V) (H1 : Hp) => ∃ W1 M1 x, RelM X.K W1 H1 M1 ∧ VlR X.K W1 v x ∧ Post (VlR X.K) X.K W0 W1 σ (lift1 revD x M1) Q) v H1)
  refine Subscript_ (thn (ha.run pins s σ H _ I ⟨ρ, M, W, R, S, P2⟩) fun u s1 hh => ?_)
  obtain ⟨v, H1, I1, rv, W1, M1, x, R1, r1, P1⟩ := hh
  obtain ⟨y, z, pk, e, q⟩ := lift1_post R1 r1 P1
  have st : PO X (some (.UnaryOp .USub (.Constant (.int 1) k p1) p2)) (tPart (tUn (rU fun i => .int (-i)) (tC (.int 1)))) := po_some (pe_un un_neg pe_int)
  refine wpAny_Slice (thn (po_none.run pins s1 σ H1 (fun o H2 => o = none ∧ H2 = H1) I1 ⟨rfl, rfl⟩) fun vl s2 ⟨l, H2, I2, pl, el, e2⟩ => ?_)
  subst el e2
  refine thn (po_none.run pins s2 σ H2 (fun o H3 => o = none ∧ H3 = H2) I2 ⟨rfl, rfl⟩) fun vu s3 ⟨u', H3, I3, pu, eu, e3⟩ => ?_
  subst eu e3
  refine thn (st.run pins s3 σ H3 (fun o H4 => o = some (-1) ∧ H4 = H3) I3 ⟨1, rfl, -1, rfl, rfl, rfl⟩) fun vs s4 ⟨o, H4, I4, ps, eo, e4⟩ => ?_
  subst eo e4
  have I5 : Inv X pins σ H4 { s4 with heap := s4.heap.push { cls := .type "slice", data := .fields #[vl, vu, vs] } } := I4.kept (t' := s4.toks) fun b ob q => Heap.get?_push_of_some _ q
  cases y with
  | list xs =>
    cases e
    obtain ⟨p, ws, rfl, hp, hd⟩ := pk.list R1
    obtain rfl : u = Value.ref p := rv
    obtain ⟨its, r, ht, hz⟩ := I5.list hp
    have hlen := r.length
    refine tail_any (ops := [.ref p, .ref s4.heap.objs.size]) ht.isList.typeIs (PySem.slot_list_getitem.lookup) ?_ (by with_unfolding_all rfl)
    refine wpAny_getItem_list_slice ht.isList (Heap.IsSliceOf.new _ vl vu vs) pl pu ps (by decide) ?_ (by rw [List.size_toArray]; omega)
    rw [PySem.W.krv_pick]
    have hf := I5.hok.fresh (Nat.le_refl _)
    refine ⟨.ref _, _, I5.laid (t' := s4.toks) (o := .lst ws.reverse) (fun b ob q => Heap.get?_push_of_some _ q) (Nat.le_refl _) ?_, rfl, ?_⟩
    · exact ⟨by rw [List.length_reverse]; exact hz, _, 0, r.reverse, Heap.get?_push_size _ rfl⟩
    · obtain ⟨R3, l3, d⟩ := R1.mkL hf (dq_reverse hd)
      exact q _ _ _ l3 R3 d
  | tuple xs =>
    cases e
    obtain ⟨p, ws, rfl, hp0, hp, hd⟩ := pk.tuple R1
    obtain rfl : u = Value.ref p := rv
    obtain ⟨us, r, ht, hz⟩ := I5.tuple hp
    have el : vl = .none := by cases pl; rfl
    have eu : vu = .none := by cases pu; rfl
    subst el eu
    refine tail_any (ops := [.ref p, .ref s4.heap.objs.size]) ht.typeIs PyProof.Rows.slot_tuple_getitem.lookup ?_ (by with_unfolding_all rfl)
    refine getItem_tuple_rev ht (Heap.IsSliceOf.new _ .none .none vs) ps ?_ (by rw [List.size_toArray, ← r.length]; exact hz)
    have hf := I5.hok.fresh (Nat.le_refl _)
    obtain ⟨H', n', I'⟩ := inv_pushT I5 (xs := ws.reverse) (us := us.reverse) r.reverse (by rw [List.length_reverse]; exact hz)
    obtain ⟨W3, l3, R3, d⟩ := R1.mkT hf n' (dq_reverse hd)
    exact ⟨.ref _, H', I', rfl, q _ _ _ l3 R3 d⟩
  | _ => cases e
end
end Ev

namespace Ev
open PySem PySem.Spec PyProof.Rows L2

/-! ### own classes: made, read, stored, their methods and properties (promises FnG) -/
theorem under_gd {A : Around} {C : Addr} {us : List Value} {kw : List (Str × Value)} (h : A.guards = some []) : (A.under (.builtin "type.__call__" ⟨.ref C :: us, kw⟩)).guards = some [] := by
  first | exact h | simpa [Around.under, Code.isGuard, guardIds] using h
section
variable {X : Cx} {CX : CXT} {k : Nat} {f C p g : Addr} {fd : FuncData} {ps : List Str} {sp : Sp} {E : L2.St → XK} {x m : Str} {np pos apos : Pos} {e o : Expr} {es : List Expr} {kws : List Keyword} {ta : TE} {t tk : TA} {q : Nat × List Str × List Nat}
theorem run_makeG {pins : List (Addr × Obj)} {σ : L2.St} {H : Hp} {s : Shared} {Q : VK} {us : List Value} {vs : List V} (M : Mk X.K C f) (F : FnG X.prog X.w X.K X.mg X.base CX k f fd ps sp) (hr : Room (k + 1) X.A) (hgd : X.A.guards = some []) (hb : Binds X.K fd ps [])
    (hx : PassesAt CX X σ (E σ)) (I : Inv X pins σ H s) (r : Vals vs us)
    (h : ∀ x dx, H x = none → H dx = none → dx ≠ x → sp (.ref x :: vs) (upd (upd H dx (.own x)) x (.ins C dx [])) (fun v H2 => v = .non ∧ Q (.ref x) H2) (E σ)) :
    wpAny (model X.prog X.w) X.A (call (.ref C) us) (EP X pins σ Q) X.xe s := by
  have hq := h (s.heap.objs.size + 1) s.heap.objs.size (I.hok.fresh (Nat.le_succ _)) (I.hok.fresh (Nat.le_refl _)) (Nat.ne_of_lt (Nat.lt_succ_self _))
  have I2 := Inv.made (C := C) I
  have r2 : Vals (V.ref (s.heap.objs.size + 1) :: vs) (Value.ref (s.heap.objs.size + 1) :: us) := .cons rfl r
  have hl : ((Value.ref (s.heap.objs.size + 1) :: us) ++ []).length = ps.length := by
    have e := r2.length
    rw [F.len _ _ _ _ hq] at e
    rw [List.append_nil]
    exact e.symm
  have hbt := hb _ (Value.ref (s.heap.objs.size + 1) :: us) I2.kIn hl
  rw [List.append_nil] at hbt
  refine wpAny_call (make_map (f := f) I.kIn M.makes M.init (beq_iff_eq.mp M.fn) (codeAny_mono (F.run _ X.stack _ _ ⟨Value.ref (s.heap.objs.size + 1) :: us, []⟩ (Value.ref (s.heap.objs.size + 1) :: us) _ _ (E σ) (hr.make C us []) (under_gd hgd)
    (I2.env0.make C us []) hbt r2 hq) fun r s' hq' => ?_))
  cases r with
  | error e => exact hx pins _ _ e s' I2 hq'
  | ok fl =>
    cases fl with
    | ret u =>
      obtain ⟨v, H', I3, rv, ev, q3⟩ := I2.after hq'
      subst ev
      exact ⟨rv, ⟨V.ref (s.heap.objs.size + 1), H', I3, rfl, q3⟩⟩
    | next => exact False.elim hq'
    | brk => exact False.elim hq'
    | cont => exact False.elim hq'
/-- C(e, ..) -/
theorem pe_makeG (M : Mk X.K C f) (F : FnG X.prog X.w X.K X.mg X.base CX k f fd ps sp) (hr : Room (k + 1) X.A) (hgd : X.A.guards = some []) (hg : Gl X x) (hm : X.mg x = some (.ref C)) (hb : Binds X.K fd ps []) (hx : ∀ σ, PassesAt CX X σ (E σ))
    (ha : PA X (e :: es) t) (hdb : (x == ("__debug__" : Str)) = false) (he : starEach (e :: es) X.env = (false, eval e X.env) :: starEach es X.env) (hpl : (backTo pos (starEach es X.env)).any (·.1) = false) :
    PE X (.Call (.Name x np) (e :: es) [] pos) (fun σ H Q => t σ H fun vs H1 => ∀ x dx, H1 x = none → H1 dx = none → dx ≠ x → sp (.ref x :: vs) (upd (upd H1 dx (.own x)) x (.ins C dx [])) (fun v H2 => v = .non ∧ Q (.ref x) H2) (E σ)) := by
  refine ⟨fun pins s σ H Q I h => ?_⟩
  refine wpAny_Call_Name_kw (ld_glob I hg hm ?_ hdb)
  refine PySem.W.callWith_K (h₀ := X.base) I.ok.mod.kin M.kp (thn (ha.run pos pins s σ H _ I h) fun us s1 ⟨vs, H1, I1, r, q⟩ => ⟨I1.kIn, ?_⟩) he hpl
  exact run_makeG M F hr hgd hb (hx σ) I1 r q
/-- the tree of a method call -/
def MTree (X : Cx) (o : Expr) (m : Str) (es : List Expr) (kws : List Keyword) (apos pos : Pos) : Prop := ∃ pl : Sem Bool, eval (.Call (.Attribute o m apos) es kws pos) X.env = (do
      let ov ← eval o X.env
      standAt apos.atName
      let (f, first) ← holding [ov] (getMethod ov m pl)
      callWith pos f first (backTo pos (starEach es X.env)) (backToKw pos (keywordEach kws X.env)))
/-- o.m(e, ..) -/
theorem pe_methG (he : PE X o ta) (c : Cls X.K C) (hm : Meth X.K C m f) (F : FnG X.prog X.w X.K X.mg X.base CX k f fd ps sp) (hr : Room k X.A) (hgd : X.A.guards = some []) (hb : Binds X.K fd ps []) (hx : ∀ σ, PassesAt CX X σ (E σ)) (ha : PA X (e :: es) t)
    (hst : starEach (e :: es) X.env = (false, eval e X.env) :: starEach es X.env) (hpl : (backTo pos (starEach es X.env)).any (·.1) = false) (ht : MTree X o m (e :: es) [] apos pos) :
    PE X (.Call (.Attribute o m apos) (e :: es) [] pos) (fun σ H Q => ta σ H fun x H1 => ∃ a dx fs, x = .ref a ∧ H1 a = some (.ins C dx fs) ∧ fs.lookup m = none ∧ t σ H1 fun vs H2 => sp (x :: vs) H2 Q (E σ)) := by
  obtain ⟨pl, ht⟩ := ht
  refine ⟨fun pins s σ H Q I h => ?_⟩
  refine PySem.W.methodCall_KW (pl := pl) (thn (he.run pins s σ H _ I h) fun u s1 ⟨x, H1, I1, rx, a, dx, fs, ex, ea, l, q⟩ => ?_) ht
  subst ex
  obtain rfl : u = Value.ref a := rx
  refine getmeth_ok I1 ea c hm l ?_
  refine PySem.W.callWith_K (first := [.ref a]) (h₀ := X.base) I.ok.mod.kin hm.kp (thn (ha.run pos pins s1 σ H1 _ I1 q) fun us s2 ⟨vs, H2, I2, r, q2⟩ => ⟨I2.kIn, ?_⟩) hst hpl
  exact run_G (us := .ref a :: us) (vs := .ref a :: vs) F hr hgd hb (hx σ) I2 (.cons rfl r) q2
/-- o.m(k = v, ..): keywords alone -/
theorem pe_methGk (he : PE X o ta) (c : Cls X.K C) (hm : Meth X.K C m f) (F : FnG X.prog X.w X.K X.mg X.base CX k f fd ps sp) (hr : Room k X.A) (hgd : X.A.guards = some []) (hb : KwB X.K fd ps q) (hx : ∀ σ, PassesAt CX X σ (E σ)) (hkw : PK X kws tk)
    (hn : kws.map (·.arg) = q.2.1.map some) (ht : MTree X o m [] kws apos pos) :
    PE X (.Call (.Attribute o m apos) [] kws pos) (fun σ H Q => ta σ H fun x H1 => ∃ a dx fs, x = .ref a ∧ H1 a = some (.ins C dx fs) ∧ fs.lookup m = none ∧ tk σ H1 fun zs H2 => q.1 = 1 ∧ zs.length = q.2.1.length ∧ ∃ as, pick q.2.2 (x :: zs) = some as ∧ sp as H2 Q (E σ)) := by
  obtain ⟨pl, ht⟩ := ht
  obtain ⟨a1, a2, a3⟩ := all_some _ _ ((kw_names pos X.env kws).trans hn)
  refine ⟨fun pins s σ H Q I h => ?_⟩
  refine PySem.W.methodCall_KW (pl := pl) (thn (he.run pins s σ H _ I h) fun u s1 ⟨x, H1, I1, rx, a, dx, fs, ex, ea, l, q⟩ => ?_) ht
  subst ex
  obtain rfl : u = Value.ref a := rx
  refine getmeth_ok I1 ea c hm l ?_
  refine PySem.W.callWith_KW0 (first := [.ref a]) (h₀ := X.base) I.ok.mod.kin hm.kp a1 ?_ (by rw [a2]; rfl)
  refine thn (hkw.run pos pins s1 σ H1 _ I1 q) fun ws s2 h2 => ?_
  obtain ⟨zs, H2, I2, rz, l1, l2, as, hp, h3⟩ := h2
  rw [a3]
  exact ⟨I2.kIn, run_Gk (us := [.ref a]) (vs := [.ref a]) F hr hgd hb (hx σ) I2 (.cons rfl .nil) rz l1.symm l2 hp h3⟩
/-- e.f, a property -/
theorem pe_propG (he : PE X e ta) (c : Cls X.K C) (hp : PropOf X.K C m p g) (F : FnG X.prog X.w X.K X.mg X.base CX k g fd ps sp) (hr : Room (k + 1) X.A) (hgd : X.A.guards = some []) (hb : Binds X.K fd ps []) (hx : ∀ σ, PassesAt CX X.nox σ (E σ))
    (hab : attributeBase e m X.env (eval e X.env) = eval e X.env) :
    PE X (.Attribute e m pos) (fun σ H Q => ta σ H fun x H1 => ∃ a dx fs, x = .ref a ∧ H1 a = some (.ins C dx fs) ∧ sp [.ref a] H1 Q (E σ)) := by
  refine ⟨fun pins s σ H Q I h => ?_⟩
  refine attr_of hab (thn (he.run pins s σ H _ I h) fun u s1 ⟨x, H1, I1, rx, a, dx, fs, ex, ea, h⟩ => ?_)
  subst ex
  obtain rfl : u = Value.ref a := rx
  obtain ⟨mA, O, _, _, _, _⟩ := ins_get I1.hok ea
  obtain ⟨od, J, _⟩ := O.look
  obtain ⟨rest, hrec⟩ := hp.rec_
  have I2 := I1.tok (s1.toks + 1)
  have hl : ([Value.ref a] ++ []).length = ps.length := by
    rw [← F.len _ _ _ _ h]
    rfl
  have hc : (PySem.W.clsIn X.K C).isSome = true := by
    obtain ⟨cd, hc, _⟩ := PySem.W.any_some c.hd
    rw [hc]
    rfl
  refine PySem.W.get_bind I1.kIn J (PySem.W.plainGet_of (c.get m)).1 (PySem.W.findObj_data hc hp.at_ hp.get hp.tak) (PySem.W.plainGet_of (c.get m)).2 (wpAny_call (PySem.W.prop_get (s := { s1 with toks := s1.toks + 1 }) I1.kIn hrec ?_))
  refine codeAny_mono (F.run X.A.in1 X.stack { s1 with toks := s1.toks + 1 } H1 ⟨[.ref a], []⟩ [.ref a] [.ref a] Q (E σ) hr.in1 hgd I2.env0.in1 (hb _ [.ref a] I2.kIn hl) (.cons rfl .nil) h) fun r s' hq => ?_
  cases r with
  | error er => exact False.elim (hx σ pins H1 { s1 with toks := s1.toks + 1 } er s' (I2.wish _) hq)
  | ok fl =>
    cases fl with
    | ret u =>
      obtain ⟨v, H', I3, rv, q3⟩ := I2.after hq
      show wpAny _ _ (handedOut u) _ _ _
      rw [PySem.W.handedOut_of (handed_of rv)]
      exact wpAny_pure ⟨v, H', I3, rv, q3⟩
    | next => exact False.elim hq
    | brk => exact False.elim hq
    | cont => exact False.elim hq
end
end Ev

namespace Ev
open PySem PySem.Spec PyProof.Rows L2

/-! ### instances of own classes as cells -/
def insAt (M : Sto) (c : Str) : Vl → Option (Nat × List (Str × PyData))
  | .ref n => match M[n]? with
    | some (.ins c' fs) => if c' = c then some (n, fs) else none
    | _ => none
  | _ => none
def putS (f : Str) (d : PyData) : List (Str × PyData) → List (Str × PyData)
  | [] => [(f, d)]
  | (g, x) :: r => if g = f then (g, d) :: r else (g, x) :: putS f d r
abbrev InsR (K : PySem.W.Frag) (Z : Hp) : List (Str × V) → List (Str × PyData) → Prop := Paired (fun (p : Str × V) (q : Str × PyData) => p.1 = q.1 ∧ Dq K Z p.2 q.2)
section
variable {K : PySem.W.Frag} {W : Wd} {H : Hp} {M : Sto} {Z : Hp}
theorem insAt_ok (R : RelM K W H M) {v : V} {x : Vl} {c : Str} {n : Nat} {fs : List (Str × PyData)} (r : VlR K W v x) (e : insAt M c x = some (n, fs)) : ∃ a, x = .ref n ∧ v = .ref a ∧ W.μ[n]? = some a ∧ M[n]? = some (.ins c fs) ∧ W.Z a = none ∧ ∃ dx vs, H a = some (.ins (He.ga K c) dx vs) ∧ InsR K W.Z vs fs := by
  cases x with
  | d y => cases e
  | adr _ _ => cases e
  | ref m =>
    unfold insAt at e
    simp only at e
    cases h : M[m]? with
    | none => rw [h] at e; cases e
    | some cl =>
      rw [h] at e
      cases cl with
      | ins c' gs =>
        simp only at e
        by_cases hc : c' = c
        · rw [if_pos hc] at e
          cases e
          subst hc
          obtain ⟨a, rfl, hm⟩ := r
          obtain ⟨z, dx, vs, h1, h2⟩ := R.cell _ a _ hm h
          exact ⟨a, rfl, rfl, hm, h, z, dx, vs, h1, h2⟩
        · rw [if_neg hc] at e
          cases e
      | lst _ => cases e
      | dct _ => cases e
      | frz _ => cases e
theorem ins_look {f : Str} : ∀ {vs : List (Str × V)} {fs : List (Str × PyData)}, InsR K Z vs fs → (∀ d, fs.lookup f = some d → ∃ v, vs.lookup f = some v ∧ Dq K Z v d) ∧ (fs.lookup f = none → vs.lookup f = none)
  | _, _, .nil => ⟨fun d h => (by cases h), fun _ => rfl⟩
  | (g, v) :: vs, (g', x) :: fs, .cons h t => by
    obtain ⟨e, q⟩ := h
    have e : g = g' := e
    subst e
    obtain ⟨i1, i2⟩ := ins_look (f := f) t
    rw [List.lookup_cons, List.lookup_cons]
    cases e : f == g with
    | true => exact ⟨fun d h => by cases h; exact ⟨v, rfl, q⟩, fun h => by cases h⟩
    | false => exact ⟨i1, i2⟩
theorem ins_put {f : Str} {v : V} {d : PyData} (q : Dq K Z v d) : ∀ {vs : List (Str × V)} {fs : List (Str × PyData)}, InsR K Z vs fs → InsR K Z (putF f v vs) (putS f d fs)
  | _, _, .nil => .cons ⟨rfl, q⟩ .nil
  | (g, w) :: vs, (g', x) :: fs, .cons h t => by
    obtain ⟨e, r⟩ := h
    have e : g = g' := e
    subst e
    unfold putF putS
    by_cases hg : g = f
    · rw [if_pos hg, if_pos hg]
      exact .cons ⟨rfl, q⟩ t
    · rw [if_neg hg, if_neg hg]
      exact .cons ⟨rfl, r⟩ (ins_put q t)
theorem ins_len {vs : List (Str × V)} {fs : List (Str × PyData)} (h : InsR K Z vs fs) : vs.length = fs.length := Paired.length h
end
def fldV (c f : Str) (x : Vl) (M : Sto) : Out Vl := match insAt M c x with
  | some (_, fs) => (match fs.lookup f with
    | some d => .ok (.d d) M
    | none => .bad)
  | none => .bad
/-- C(e, ..) -/
def gMake (c : Str) (op : Op1) (g : Ev0 (List Vl)) : Ev0 Vl := fun ρ M => (g ρ M).bind fun xs M1 => (op (.ref M1.length :: xs) (M1 ++ [.ins c []])).bind fun v M2 => match v with
  | .d .none => .ok (.ref M1.length) M2
  | _ => .bad
/-- o.m(e, ..) -/
def gMCall (c m : Str) (op : Op1) (g : Ev0 Vl) (h : Ev0 (List Vl)) : Ev0 Vl := fun ρ M => (g ρ M).bind fun x M1 => match insAt M1 c x with
  | some (_, fs) => (match fs.lookup m with
    | none => (h ρ M1).bind fun xs M2 => op (x :: xs) M2
    | some _ => .bad)
  | none => .bad
/-- o.m(k = v, ..) -/
def gMCallK (c m : Str) (op : Op1) (pm : List Nat) (g : Ev0 Vl) (h : Ev0 (List Vl)) : Ev0 Vl := fun ρ M => (g ρ M).bind fun x M1 => match insAt M1 c x with
  | some (_, fs) => (match fs.lookup m with
    | none => (h ρ M1).bind fun zs M2 => (match pick pm (x :: zs) with
      | some as => op as M2
      | none => .bad)
    | some _ => .bad)
  | none => .bad
/-- o.p, a property -/
def gProp (c : Str) (op : Op1) (g : Ev0 Vl) : Ev0 Vl := fun ρ M => (g ρ M).bind fun x M1 => match insAt M1 c x with
  | some _ => (match op [x] M1 with
    | .ok v M2 => .ok v M2
    | _ => .bad)
  | none => .bad
/-- o.f = e -/
def gsFld (c f : Str) (o e : Ev0 Vl) : EvS := fun ρ M => bindS ρ (e ρ M) fun z M1 => bindS ρ (o ρ M1) fun x M2 => match toD M2 z with
  | some (d, M3) => (match insAt M3 c x with
    | some (n, fs) => if fs.length < 1000 then .nx ρ (M3.set n (.ins c (putS f d fs))) else .bad
    | none => .bad)
  | none => .bad
section
variable {X : Cx} {W0 : WX} {c f m x : Str} {o a : Expr} {es : List Expr} {go ga : Ev0 Vl} {g h : Ev0 (List Vl)} {k : Nat} {fa p : Addr} {fd : FuncData} {ps : List Str} {op : Op1} {np pos apos pos' : Pos} {q : Nat × List Str × List Nat} {kws : List Keyword}
abbrev spE (K : PySem.W.Frag) (ps : List Str) (op : Op1) : Sp := fun vs H Q E => vs.length = ps.length ∧ ∃ W M σ xs, RelM K W H M ∧ VlsR K W vs xs ∧ Post (VlR K) K (fun c d _ H => E c d H) W σ (op xs M) Q
theorem post_E {σ : L2.St} {W : Wd} {o : Out Vl} {Q : VK} (P : Post (VlR X.K) X.K W0 W σ o Q) : Post (VlR X.K) X.K (fun c d _ H => W0 c d σ H) W σ o Q := by
  cases o with
  | ok v M => exact P
  | exc y M => exact P
  | bad => exact P
theorem se_fld (cl : Cls X.K (He.ga X.K c)) (nf : NoAttr X.K (He.ga X.K c) f) (ho : SE X W0 o go) (hb : attributeBase o f X.env (eval o X.env) = eval o X.env) : SE X W0 (.Attribute o f pos) (gUn (fldV c f) go) := by
  refine PE.mono (pe_fld ho hb) fun σ H Q h => ?_
  obtain ⟨ρ, M, W, R, S, P⟩ := h
  refine ⟨ρ, M, W, R, S, post_bind P fun v H1 W1 M1 x e l1 R1 r1 P1 => ?_⟩
  unfold fldV at P1
  cases e1 : insAt M1 c x with
  | none => rw [e1] at P1; exact P1.elim
  | some nf' =>
    obtain ⟨n, fs⟩ := nf'
    simp only [e1] at P1
    obtain ⟨b, rfl, rfl, hm, hM, z, dx, vs, h1, h2⟩ := insAt_ok R1 r1 e1
    cases e2 : fs.lookup f with
    | none => simp only [e2] at P1; exact P1.elim
    | some d =>
      simp only [e2] at P1
      obtain ⟨w, hw, dw⟩ := (ins_look h2).1 d e2
      exact ⟨b, _, dx, vs, w, rfl, h1, cl, nf, hw, P1 w H1 W1 (Wd.le.refl _) R1 dw⟩
theorem se_make (Mk' : Mk X.K (He.ga X.K c) fa) (F : FnG X.prog X.w X.K X.mg X.base (L2.CX X.prog X.w) k fa fd ps (spE X.K ps op)) (hr : Room (k + 1) X.A) (hgd : X.A.guards = some []) (hg : Gl X c) (hm : X.mg c = some (.ref (He.ga X.K c))) (hb : Binds X.K fd ps []) (tk : Takes X W0)
    (hl : ∀ ρ M xs M', g ρ M = .ok xs M' → xs.length + 1 = ps.length) (ha : SA X W0 (a :: es) g) (hdb : (c == ("__debug__" : Str)) = false) (hs : (a :: es).all notStar = true) : SE X W0 (.Call (.Name c np) (a :: es) [] pos) (gMake c op g) := by
  have h2 : notStar a = true ∧ es.all notStar = true := by simpa [List.all_cons] using hs
  refine PE.mono (pe_makeG (E := fun σ c d H => W0 c d σ H) Mk' F hr hgd hg hm hb (fun σ pins H s e s' I h => tk e s' (XE.of_call I (fun cls d H' h => h) h)) ha hdb (star_one h2.1 _ _) (star_none _ _ _ h2.2)) fun σ H Q h => ?_
  obtain ⟨ρ, M, W, R, S, P⟩ := h
  refine ⟨ρ, M, W, R, S, post_bind P fun vs H1 W1 M1 xs e l1 R1 r1 P1 => ?_⟩
  intro y dx hy hdx hne
  have hy2 : (upd H1 dx (.own y)) y = none := by rw [upd_ne (fun z => hne z.symm)]; exact hy
  have R1' : RelM X.K W1 (upd H1 dx (.own y)) M1 := R1.grow (same_upd hdx)
  obtain ⟨R2, l2, hat⟩ := R1'.newM hy2 (o := .ins (He.ga X.K c) dx []) (c := .ins c []) ⟨R1'.Znone hy2, dx, [], upd_same, .nil⟩
  refine ⟨by rw [List.length_cons, r1.length]; exact hl _ _ _ _ e, _, M1 ++ [.ins c []], σ, .ref M1.length :: xs, R2, .cons ⟨y, rfl, hat⟩ (r1.mono l2), ?_⟩
  have P2 : Post (VlR X.K) X.K W0 W1 σ ((op (.ref M1.length :: xs) (M1 ++ [.ins c []])).bind fun v M2 => match v with | .d .none => .ok (.ref M1.length) M2 | _ => .bad) Q := P1
  cases eo : op (.ref M1.length :: xs) (M1 ++ [.ins c []]) with
  | bad => rw [eo] at P2; exact P2.elim
  | exc z M2 =>
    rw [eo] at P2
    exact fun cls d H' W' l' R' q => P2 cls d H' W' (l2.trans l') R' q
  | ok v M2 =>
    rw [eo] at P2
    intro u H' W' l' R' r'
    cases v with
    | ref n => exact P2.elim
    | adr _ _ => exact P2.elim
    | d y2 =>
      cases y2 with
      | none =>
        cases r'
        exact ⟨rfl, P2 (.ref y) H' W' (l2.trans l') R' ⟨y, rfl, l'.at hat⟩⟩
      | _ => exact P2.elim
theorem se_mcall (cl : Cls X.K (He.ga X.K c)) (mt : Meth X.K (He.ga X.K c) m fa) (F : FnG X.prog X.w X.K X.mg X.base (L2.CX X.prog X.w) k fa fd ps (spE X.K ps op)) (hr : Room k X.A) (hgd : X.A.guards = some []) (hb : Binds X.K fd ps []) (tk : Takes X W0)
    (hl : ∀ ρ M xs M', g ρ M = .ok xs M' → xs.length + 1 = ps.length) (ho : SE X W0 o go) (ha : SA X W0 (a :: es) g) (hs : (a :: es).all notStar = true) (ht : MTree X o m (a :: es) [] apos pos) : SE X W0 (.Call (.Attribute o m apos) (a :: es) [] pos) (gMCall c m op go g) := by
  have h2 : notStar a = true ∧ es.all notStar = true := by simpa [List.all_cons] using hs
  refine PE.mono (pe_methG (E := fun σ c d H => W0 c d σ H) ho cl mt F hr hgd hb (fun σ pins H s e s' I h => tk e s' (XE.of_call I (fun cls d H' h => h) h)) ha (star_one h2.1 _ _) (star_none _ _ _ h2.2) ht) fun σ H Q h => ?_
  obtain ⟨ρ, M, W, R, S, P⟩ := h
  refine ⟨ρ, M, W, R, S, post_bind P fun v H1 W1 M1 x e l1 R1 r1 P1 => ?_⟩
  cases e1 : insAt M1 c x with
  | none => simp only [e1] at P1; exact P1.elim
  | some nf' =>
    obtain ⟨n, fs⟩ := nf'
    simp only [e1] at P1
    obtain ⟨b, rfl, rfl, hm, hM, z, dx, vs, h1, h2⟩ := insAt_ok R1 r1 e1
    cases e2 : fs.lookup m with
    | some _ => simp only [e2] at P1; exact P1.elim
    | none =>
      simp only [e2] at P1
      refine ⟨b, dx, vs, rfl, h1, (ins_look h2).2 e2, ρ, M1, W1, R1, S.mono l1, post_bind P1 fun ws H2 W2 M2 xs e3 l2 R2 r2 P2 => ?_⟩
      exact ⟨by rw [List.length_cons, r2.length]; exact hl _ _ _ _ e3, W2, M2, σ, .ref n :: xs, R2, .cons ⟨b, rfl, l2.at hm⟩ r2, post_E P2⟩
theorem pick_vls' {K : PySem.W.Frag} {W : Wd} : ∀ (pm : List Nat) {vs : List V} {xs as : List Vl}, VlsR K W vs xs → pick pm xs = some as → ∃ bs, pick pm vs = some bs ∧ VlsR K W bs as ∧ bs.length = pm.length
  | [], _, _, _, _, h => by cases h; exact ⟨[], rfl, .nil, rfl⟩
  | i :: pm, vs, xs, as, r, h => by
    simp only [pick] at h ⊢
    cases e1 : xs[i]? with
    | none => rw [e1] at h; cases h
    | some v =>
      cases e2 : pick pm xs with
      | none => rw [e1, e2] at h; cases h
      | some l =>
        rw [e1, e2] at h
        cases h
        obtain ⟨u, hu, ru⟩ := r.get e1
        obtain ⟨bs, hb, rb, hl⟩ := pick_vls' pm r e2
        exact ⟨u :: bs, by rw [hu, hb], .cons ru rb, by rw [List.length_cons, List.length_cons, hl]⟩
theorem se_mcallk (cl : Cls X.K (He.ga X.K c)) (mt : Meth X.K (He.ga X.K c) m fa) (F : FnG X.prog X.w X.K X.mg X.base (L2.CX X.prog X.w) k fa fd ps (spE X.K ps op)) (hr : Room k X.A) (hgd : X.A.guards = some []) (hb : KwB X.K fd ps q) (tk : Takes X W0) (hq : q.1 = 1) (hpm : q.2.2.length = ps.length)
    (l2 : ∀ ρ M xs M', h ρ M = .ok xs M' → xs.length = q.2.1.length) (ho : SE X W0 o go) (hk : PK X kws (aA X.K W0 h)) (hn : kws.map (·.arg) = q.2.1.map some) (ht : MTree X o m [] kws apos pos) : SE X W0 (.Call (.Attribute o m apos) [] kws pos) (gMCallK c m op q.2.2 go h) := by
  refine PE.mono (pe_methGk (E := fun σ c d H => W0 c d σ H) ho cl mt F hr hgd hb (fun σ pins H s e s' I h => tk e s' (XE.of_call I (fun cls d H' h => h) h)) hk hn ht) fun σ H Q hh => ?_
  obtain ⟨ρ, M, W, R, S, P⟩ := hh
  refine ⟨ρ, M, W, R, S, post_bind P fun v H1 W1 M1 x e l1 R1 r1 P1 => ?_⟩
  cases e1 : insAt M1 c x with
  | none => simp only [e1] at P1; exact P1.elim
  | some nf' =>
    obtain ⟨n, fs⟩ := nf'
    simp only [e1] at P1
    obtain ⟨b, rfl, rfl, hm, hM, z, dx, vs, h1, h2⟩ := insAt_ok R1 r1 e1
    cases e2 : fs.lookup m with
    | some _ => simp only [e2] at P1; exact P1.elim
    | none =>
      simp only [e2] at P1
      refine ⟨b, dx, vs, rfl, h1, (ins_look h2).2 e2, ρ, M1, W1, R1, S.mono l1, post_bind P1 fun ws H2 W2 M2 zs e3 l3 R2 r2 P2 => ?_⟩
      refine ⟨hq, by rw [r2.length]; exact l2 _ _ _ _ e3, ?_⟩
      cases e4 : pick q.2.2 (Vl.ref n :: zs) with
      | none => simp only [e4] at P2; exact P2.elim
      | some as =>
        simp only [e4] at P2
        obtain ⟨bs, hb1, hb2, hb3⟩ := pick_vls' q.2.2 (VlsR.cons (v := .ref b) (x := .ref n) ⟨b, rfl, l3.at hm⟩ r2) e4
        exact ⟨bs, hb1, by rw [hb3]; exact hpm, W2, M2, σ, as, R2, hb2, post_E P2⟩
theorem se_prop (cl : Cls X.K (He.ga X.K c)) (pr : PropOf X.K (He.ga X.K c) m p fa) (F : FnG X.prog X.w X.K X.mg X.base (L2.CX X.prog X.w) k fa fd ps (spE X.K ps op)) (hr : Room (k + 1) X.A) (hgd : X.A.guards = some []) (hb : Binds X.K fd ps []) (hps : ps.length = 1)
    (ho : SE X W0 o go) (hab : attributeBase o m X.env (eval o X.env) = eval o X.env) : SE X W0 (.Attribute o m pos) (gProp c op go) := by
  refine PE.mono (pe_propG (E := fun σ c d H => False) ho cl pr F hr hgd hb (fun σ pins H s e s' I h => ?_) hab) fun σ H Q hh => ?_
  · have hx := XE.of_call (W := fun _ _ _ _ => False) I (fun cls d H' h => h) h
    obtain ⟨_, _, _, _, _, _, _, _, _, _, _, _, _, _, _, _, z⟩ := hx
    exact z.elim
  obtain ⟨ρ, M, W, R, S, P⟩ := hh
  refine ⟨ρ, M, W, R, S, post_bind P fun v H1 W1 M1 x e l1 R1 r1 P1 => ?_⟩
  cases e1 : insAt M1 c x with
  | none => simp only [e1] at P1; exact P1.elim
  | some nf' =>
    obtain ⟨n, fs⟩ := nf'
    simp only [e1] at P1
    obtain ⟨b, rfl, rfl, hm, hM, z, dx, vs, h1, h2⟩ := insAt_ok R1 r1 e1
    refine ⟨b, dx, vs, rfl, h1, by rw [hps]; rfl, W1, M1, σ, [.ref n], R1, .cons ⟨b, rfl, hm⟩ .nil, ?_⟩
    cases eo : op [.ref n] M1 with
    | bad => rw [eo] at P1; exact P1.elim
    | exc y M2 => rw [eo] at P1; exact P1.elim
    | ok y M2 => rw [eo] at P1; exact P1
theorem ss_fld (cl : Cls X.K (He.ga X.K c)) (nf : NoAttr X.K (He.ga X.K c) f) (ho : SE X W0 o go) (ha : SE X W0 a ga) (hs : swapsWith a (some (.Attribute o f pos')) pos.line X.env = pure false) : SS X W0 (.Assign [.Attribute o f pos'] a pos) (gsFld c f go ga) := by
  refine PS.mono (ps_fld ho ha hs) fun D σ H h => ?_
  obtain ⟨ρ, M, W, R, S, P⟩ := h
  refine ⟨ρ, M, W, R, S, postS_bind S P fun v H1 W1 M1 z e l1 R1 r1 P1 => ?_⟩
  refine ⟨ρ, M1, W1, R1, S.mono l1, postS_bind (S.mono l1) P1 fun ov H2 W2 M2 x e2 l2 R2 r2 P2 => ?_⟩
  cases e3 : toD M2 z with
  | none => simp only [e3] at P2; exact P2.elim
  | some dM =>
    obtain ⟨d, M3⟩ := dM
    simp only [e3] at P2
    obtain ⟨W3, l3, R3, dz⟩ := toD_dp R2 (r1.mono l2) e3
    cases e4 : insAt M3 c x with
    | none => simp only [e4] at P2; exact P2.elim
    | some nf' =>
      obtain ⟨n, fs⟩ := nf'
      simp only [e4] at P2
      obtain ⟨b, rfl, rfl, hm, hM, zz, dx, vs, h1, h2⟩ := insAt_ok R3 (r2.mono l3) e4
      by_cases hlen : fs.length < 1000
      · rw [if_pos hlen] at P2
        refine ⟨b, _, dx, vs, rfl, h1, cl, nf, by rw [ins_len h2]; exact hlen, ?_⟩
        have R4 : RelM X.K W3 (upd H2 b (.ins (He.ga X.K c) dx (putF f v vs))) (M3.set n (.ins c (putS f d fs))) := R3.setM hm zz ⟨zz, dx, _, upd_same, ins_put dz h2⟩
        exact P2 σ _ W3 l3 R4 (((S.mono l1).mono l2).mono l3)
      · rw [if_neg hlen] at P2
        exact P2.elim
theorem mtree {kws : List Keyword} (hb : attributeBase o m X.env (eval o X.env) = eval o X.env) (hform : methodCallForm (es.length + kws.length) (backTo pos (starEach es X.env)) (backToKw pos (keywordEach kws X.env)) = true) (hline : (apos.endLine == pos.line) = true) : MTree X o m es kws apos pos := by
  refine ⟨do return (← importBound o X.env).getD true, mcall_of hb fun ov => ?_⟩
  unfold methodCall
  rw [hform]
  have e1 : methodCallPos true o X.env apos pos = pure pos := by
    unfold methodCallPos
    rw [if_pos (by rw [hline]; rfl)]
  rw [e1]
  simp only [calleeOf, if_true]
  rfl
end
end Ev

namespace Ev
open PySem PySem.Spec PyProof.Rows L2 PySem.W
def isNon : PyData → Bool
  | .none => true
  | _ => false
/-- a <= b: ints, alike data, tuples that can be told apart early -/
def leD : PyData → PyData → Option PyData
  | .int i, .int j => some (.bool (decide (i ≤ j)))
  | a, b => if ((alike a b && !isNon a) || wkB a b) = true ∧ min a.depth b.depth ≤ 60 then some (.bool (!dataLt b a)) else none
theorem leD_int (i j : Int) : leD (.int i) (.int j) = some (.bool (decide (i ≤ j))) := rfl
section
variable {X : Cx} {W0 : WX}
theorem op_leV (hu : X.A.units + 65 < cLine) : OpR X (compareOp .LtE) (aO X.K W0 (lift2 leD)) := by
  intro pins s σ H x y v u Q I rx ry h
  obtain ⟨W, M, σ', v1, v2, R, r1, r2, P⟩ := h
  obtain ⟨a, b, c, pa, pb, e, q⟩ := lift2_post R r1 r2 P
  have gen : ∀ k : Bool, c = .bool k → (((alike a b && !isNon a) || wkB a b) = true ∧ min a.depth b.depth ≤ 60 ∧ k = !dataLt b a) → wpAny (model X.prog X.w) X.A (compareOp .LtE v u) (EP X pins σ Q) X.xe s := by
    intro k hc hk
    obtain ⟨h1, h2, rfl⟩ := hk
    subst hc
    obtain ⟨⟨as, ra⟩, ha⟩ := inv_dp I (pa.dp R) rx
    obtain ⟨⟨bs, rb⟩, hb⟩ := inv_dp I (pb.dp R) ry
    rcases Bool.or_eq_true_iff.mp h1 with h1 | h1
    · obtain ⟨h3, h4⟩ := Bool.and_eq_true_iff.mp h1
      refine le_data ra rb h3 (fun z => ?_) (by omega) ⟨.bl _, H, I, rfl, q _ _ W (Wd.le.refl W) R (.bl _)⟩
      subst z
      cases h4
    · unfold wkB at h1
      split at h1
      · simp only [PyData.depth] at h2
        exact rcLe_weak ra rb h1 (by omega) X.prog X.w _ _ ⟨.bl _, H, I, rfl, q _ _ W (Wd.le.refl W) R (.bl _)⟩
      · cases h1
  by_cases hi : ∃ i j, a = .int i ∧ b = .int j
  · obtain ⟨i, j, rfl, rfl⟩ := hi
    obtain rfl := pa.int
    obtain rfl := pb.int
    cases e
    exact op_le pins s σ H _ _ v u Q I rx ry ⟨i, j, rfl, rfl, q _ _ W (Wd.le.refl W) R (.bl _)⟩
  · have e2 : (if ((alike a b && !isNon a) || wkB a b) = true ∧ min a.depth b.depth ≤ 60 then some (PyData.bool (!dataLt b a)) else none) = some c := by
      have : leD a b = if ((alike a b && !isNon a) || wkB a b) = true ∧ min a.depth b.depth ≤ 60 then some (PyData.bool (!dataLt b a)) else none := by
        unfold leD
        split
        · exact (hi ⟨_, _, rfl, rfl⟩).elim
        · rfl
      rw [← this]
      exact e
    split at e2
    · rename_i hc
      cases e2
      exact gen _ rfl ⟨hc.1, hc.2, rfl⟩
    · cases e2
end
end Ev

namespace Ev
open PySem PySem.Spec PyProof.Rows L2

/-! ### the syntax -/
inductive BOp where
  | add | sub | mul | div | mod | pow
def BOp.op : BOp → Operator
  | .add => .Add
  | .sub => .Sub
  | .mul => .Mult
  | .div => .FloorDiv
  | .mod => .Mod
  | .pow => .Pow
def BOp.ev : BOp → PyData → PyData → Option PyData
  | .add => addD
  | .sub => subD
  | .mul => mulD
  | .div => divD
  | .mod => modD
  | .pow => powD
inductive COp where
  | eq | ne | lt | le | gt | ge | isin | notin
def COp.op : COp → CmpOp
  | .eq => .Eq
  | .ne => .NotEq
  | .lt => .Lt
  | .le => .LtE
  | .gt => .Gt
  | .ge => .GtE
  | .isin => .In
  | .notin => .NotIn
/-- x in d too -/
def inV (neg : Bool) (x y : Vl) (M : Sto) : Out Vl := match dctAt M y with
  | some kvs => (match peek M x with
    | some k => (match keyD k with
      | some q => .ok (.d (.bool (neg ^^ (getP kvs q).isSome))) M
      | none => .bad)
    | none => .bad)
  | none => lift2 (inD neg) x y M
def COp.ev : COp → Vl → Vl → Sto → Out Vl
  | .eq => lift2 eqD
  | .ne => lift2 neD
  | .lt => lift2 (cmpI fun i j => decide (i < j))
  | .le => lift2 leD
  | .gt => lift2 (cmpI fun i j => decide (j < i))
  | .ge => lift2 (cmpI fun i j => decide (j ≤ i))
  | .isin => inV false
  | .notin => inV true
inductive Blt where
  | len | abs | int | list | listM | tuple | sum | all | any | repr | sorted | dict
def Blt.nm : Blt → Str
  | .len => "len"
  | .abs => "abs"
  | .int => "int"
  | .list => "list"
  | .listM => "list"
  | .tuple => "tuple"
  | .sum => "sum"
  | .all => "all"
  | .any => "any"
  | .repr => "repr"
  | .sorted => "sorted"
  | .dict => "dict"
def Blt.ev : Blt → Op1
  | .len => lenV
  | .abs => liftC1 absD
  | .int => liftC1 intD
  | .list => liftC1 listD
  | .listM => Ev.listM
  | .tuple => liftC1 tupleD
  | .sum => liftC1 sumD
  | .all => liftC1 allD
  | .any => liftC1 anyD
  | .repr => liftC1 reprD
  | .sorted => liftC1 sortD
  | .dict => dictV
inductive Mth where
  | append | count | extend | insert | get
def Mth.nm : Mth → Str
  | .append => "append"
  | .count => "count"
  | .extend => "extend"
  | .insert => "insert"
  | .get => "get"
def Mth.ty : Mth → MT
  | .append => .list
  | .count => .list
  | .extend => .list
  | .insert => .list
  | .get => .dict
def Mth.ev : Mth → OpM
  | .append => appendV
  | .count => countV
  | .extend => extendV
  | .insert => insertV
  | .get => getV
/-- *x, .. -/
def gStar (g : Ev0 Vl) (h : Ev0 (List Vl)) : Ev0 (List Vl) := fun ρ M => (g ρ M).bind fun x M1 => match peek M1 x with
  | some d => (match itemsOf d with
    | some ds => (h ρ M1).bind fun xs M2 => .ok (ds.map Vl.d ++ xs) M2
    | none => .bad)
  | none => .bad
/-- where a def lies: at the top, in a class, a property's getter -/
inductive FnP where
  | top
  | meth (c : Str)
  | prop (c : Str)
deriving DecidableEq
mutual
inductive CT where
  | nm (i : Nat) (x : Str) (p : Pos)
  | tup (ts : CTs) (k : Nat) (p : Pos)
inductive CTs where
  | nil
  | cons (t : CT) (ts : CTs)
end
mutual
inductive CE where
  | var (i : Nat) (x : Str) (p : Pos)
  | int (n : Int) (j : Nat) (p : Pos)
  | bl (b : Bool) (j : Nat) (p : Pos)
  | non (j : Nat) (p : Pos)
  | str (s : Str) (j : Nat) (p : Pos)
  | bin (op : BOp) (a b : CE) (p : Pos)
  | neg (a : CE) (p : Pos)
  | not (a : CE) (p : Pos)
  | and (a : CE) (es : CEs) (p : Pos)
  | or (a : CE) (es : CEs) (p : Pos)
  | cmp (op : COp) (a b : CE) (p : Pos)
  | chain (op op' : COp) (a b c : CE) (p : Pos)
  | isN (neg : Bool) (a : CE) (j : Nat) (pn p : Pos)
  | ife (c a b : CE) (p : Pos)
  | tup (es : CEs) (k : Nat) (p : Pos)
  | lst (mu : Bool) (es : CEs) (p : Pos)
  | disp (ks : List (Str × Nat × Pos)) (es : CEs) (p : Pos)
  | ix (a b : CE) (p : Pos)
  | sl (a : CE) (lo hi : CO) (p2 p : Pos)
  | blt (f : Blt) (a : CE) (es : CEs) (pf p : Pos)
  | isa (T : Ty) (a : CE) (pT pf p : Pos)
  | meth (m : Mth) (a b : CE) (es : CEs) (apos cpos : Pos)
  | call (j : Nat) (x : Str) (a : CE) (es : CEs) (pf p : Pos)
  | call0 (j : Nat) (x : Str) (pf p : Pos)
  | callk (j : Nat) (x : Str) (es : CEs) (ks : List (Str × Pos)) (kws : CEs) (pm : List Nat) (pf p : Pos)
  | sset (a : CE) (pf p2 q p : Pos)
  | glo (x : Str) (d : PyData) (p : Pos)
  | disp0 (p : Pos)
  | fld (c f : Str) (a : CE) (p : Pos)
  | prop (c f : Str) (j : Nat) (a : CE) (p : Pos)
  | mk (c : Str) (j : Nat) (a : CE) (es : CEs) (pf p : Pos)
  | mcall (c m : Str) (j : Nat) (o a : CE) (es : CEs) (apos cpos : Pos)
  | mcallk (c m : Str) (j : Nat) (o : CE) (ks : List (Str × Pos)) (kws : CEs) (pm : List Nat) (apos cpos : Pos)
  | outc (x : Str) (b : CE) (sc : Scope) (lp pf p : Pos)
  | rev (a : CE) (k : Nat) (p1 p2 p3 p : Pos)
  | lc (mu : Bool) (elt : CE) (tg : CT) (it : CI) (c : CO) (sc : Scope) (own : List (Str × Nat)) (p : Pos)
  | bad (e : Expr)
inductive CEs where
  | nil
  | cons (a : CE) (es : CEs)
  | star (a : CE) (p : Pos) (es : CEs)
inductive CO where
  | none
  | some (a : CE)
inductive CI where
  | val (a : CE)
  | rng1 (a : CE) (pf p : Pos)
  | rng2 (a b : CE) (pf p : Pos)
  | zip (a b : CE) (pf p : Pos)
  | zips (a b : CE) (j : Nat) (jp kp pf p : Pos)
  | enu (a : CE) (pf p : Pos)
end
inductive CS where
  | set (i : Nat) (x : Str) (px : Pos) (e : CE) (p : Pos)
  | tgt (t : CT) (e : CE) (p : Pos)
  | par (i j : Nat) (x y : Str) (px py : Pos) (kt : Nat) (pt : Pos) (a b : CE) (k2 : Nat) (p2 p : Pos)
  | par3 (i j l : Nat) (x y z : Str) (px py pz : Pos) (kt : Nat) (pt : Pos) (a b c : CE) (k2 : Nat) (p2 p : Pos)
  | pars (ts : Nms) (kt : Nat) (pt : Pos) (es : CEs) (k2 : Nat) (p2 p : Pos)
  | put (o i e : CE) (ps p : Pos)
  | fld (c f : Str) (o : CE) (p' : Pos) (e : CE) (p : Pos)
  | raise (c f1 f2 : Str) (a : CE) (es : CEs) (pf p ps : Pos)
  | exp (e : CE) (p : Pos)
  | ret (e : CE) (p : Pos)
  | retN (p : Pos)
  | ife (c : CE) (a b : List CS) (p : Pos)
  | wh (c : CE) (b : List CS) (p : Pos)
  | forr (t : CT) (it : CI) (b : List CS) (p : Pos)
  | pass (p : Pos)
  | brk (p : Pos)
  | cont (p : Pos)
  | bad (st : Stmt)

/-! ### as the program's own -/
/-- no parameters -/
def noArgs : Arguments := { posonlyargs := [], args := [], vararg := none, kwonlyargs := [], kw_defaults := [], kwarg := none, defaults := [] }
def kwE (ks : List (Str × Pos)) (es : List Expr) : List Keyword := List.zipWith (fun k e => ⟨some k.1, e, k.2⟩) ks es
mutual
def CT.toE : CT → Expr
  | .nm _ x p => .Name x p
  | .tup ts k p => .Tuple ts.toEs k p
def CTs.toEs : CTs → List Expr
  | .nil => []
  | .cons t ts => t.toE :: ts.toEs
end
mutual
def CE.toE : CE → Expr
  | .var _ x p => .Name x p
  | .int n j p => .Constant (.int n) j p
  | .bl b j p => .Constant (.bool b) j p
  | .non j p => .Constant .none j p
  | .str s j p => .Constant (.str s) j p
  | .bin op a b p => .BinOp a.toE op.op b.toE p
  | .neg a p => .UnaryOp .USub a.toE p
  | .not a p => .UnaryOp .Not a.toE p
  | .and a es p => .BoolOp .And (a.toE :: es.toEs) p
  | .or a es p => .BoolOp .Or (a.toE :: es.toEs) p
  | .cmp op a b p => .Compare a.toE [op.op] [b.toE] p
  | .chain op op' a b c p => .Compare a.toE [op.op, op'.op] [b.toE, c.toE] p
  | .isN neg a j pn p => .Compare a.toE [if neg then .IsNot else .Is] [.Constant .none j pn] p
  | .ife c a b p => .IfExp c.toE a.toE b.toE p
  | .tup es k p => .Tuple es.toEs k p
  | .lst _ es p => .List es.toEs p
  | .disp ks es p => .Dict (ks.map fun k => some (.Constant (.str k.1) k.2.1 k.2.2)) es.toEs p
  | .ix a b p => .Subscript a.toE b.toE p
  | .sl a lo hi p2 p => .Subscript a.toE (.Slice lo.toO hi.toO none p2) p
  | .blt f a es pf p => .Call (.Name f.nm pf) (a.toE :: es.toEs) [] p
  | .isa T a pT pf p => .Call (.Name "isinstance" pf) [a.toE, .Name (Str.ofString T.nm) pT] [] p
  | .meth m a b es apos cpos => .Call (.Attribute a.toE m.nm apos) (b.toE :: es.toEs) [] cpos
  | .call _ x a es pf p => .Call (.Name x pf) (a.toE :: es.toEs) [] p
  | .call0 _ x pf p => .Call (.Name x pf) [] [] p
  | .callk _ x es ks kws _ pf p => .Call (.Name x pf) es.toEs (kwE ks kws.toEs) p
  | .sset a pf p2 q p => .Call (.Name "sorted" pf) [.Call (.Name "set" p2) [a.toE] [] q] [] p
  | .glo x _ p => .Name x p
  | .disp0 p => .Dict [] [] p
  | .fld _ f a p => .Attribute a.toE f p
  | .prop _ f _ a p => .Attribute a.toE f p
  | .mk c _ a es pf p => .Call (.Name c pf) (a.toE :: es.toEs) [] p
  | .mcall _ m _ o a es apos cpos => .Call (.Attribute o.toE m apos) (a.toE :: es.toEs) [] cpos
  | .mcallk _ m _ o ks kws _ apos cpos => .Call (.Attribute o.toE m apos) [] (kwE ks kws.toEs) cpos
  | .rev a k p1 p2 p3 p => .Subscript a.toE (.Slice none none (some (.UnaryOp .USub (.Constant (.int 1) k p1) p2)) p3) p
  | .outc x b sc lp pf p => .Call (.Name x pf) [.Lambda noArgs b.toE sc lp] [] p
  | .lc _ elt tg it c sc _ p => .ListComp elt.toE [⟨tg.toE, it.toE, c.toL, 0⟩] sc p
  | .bad e => e
def CEs.toEs : CEs → List Expr
  | .nil => []
  | .cons a es => a.toE :: es.toEs
  | .star a p es => .Starred a.toE p :: es.toEs
def CO.toO : CO → Option Expr
  | .none => none
  | .some a => some a.toE
def CO.toL : CO → List Expr
  | .none => []
  | .some a => [a.toE]
def CI.toE : CI → Expr
  | .val a => a.toE
  | .rng1 a pf p => .Call (.Name "range" pf) [a.toE] [] p
  | .rng2 a b pf p => .Call (.Name "range" pf) [a.toE, b.toE] [] p
  | .zip a b pf p => .Call (.Name "zip" pf) [a.toE, b.toE] [] p
  | .zips a b j jp kp pf p => .Call (.Name "zip" pf) [a.toE, b.toE] [⟨some "strict", .Constant (.bool true) j jp, kp⟩] p
  | .enu a pf p => .Call (.Name "enumerate" pf) [a.toE] [] p
end
mutual
def CS.toS : CS → Stmt
  | .set _ x px e p => .Assign [.Name x px] e.toE p
  | .tgt t e p => .Assign [t.toE] e.toE p
  | .par _ _ x y px py kt pt a b k2 p2 p => .Assign [.Tuple [.Name x px, .Name y py] kt pt] (.Tuple [a.toE, b.toE] k2 p2) p
  | .par3 _ _ _ x y z px py pz kt pt a b c k2 p2 p => .Assign [.Tuple [.Name x px, .Name y py, .Name z pz] kt pt] (.Tuple [a.toE, b.toE, c.toE] k2 p2) p
  | .pars ts kt pt es k2 p2 p => .Assign [.Tuple (nmE ts) kt pt] (.Tuple es.toEs k2 p2) p
  | .put o i e ps p => .Assign [.Subscript o.toE i.toE ps] e.toE p
  | .fld _ f o p' e p => .Assign [.Attribute o.toE f p'] e.toE p
  | .raise c _ _ a es pf p ps => .Raise (some (.Call (.Name c pf) (a.toE :: es.toEs) [] p)) none ps
  | .exp e p => .Expr e.toE p
  | .ret e p => .Return (some e.toE) p
  | .retN p => .Return none p
  | .ife c a b p => .If c.toE (toSs a) (toSs b) p
  | .wh c b p => .While c.toE (toSs b) [] p
  | .forr t it b p => .For t.toE it.toE (toSs b) [] p
  | .pass p => .Pass p
  | .brk p => .Break p
  | .cont p => .Continue p
  | .bad st => st
def toSs : List CS → List Stmt
  | [] => []
  | s :: r => s.toS :: toSs r
end

/-! ### what it computes; fn: the calls of the module's own defs -/
abbrev Fn := Option (Nat → Op1)
def callE (fn : Fn) (j : Nat) (g : Ev0 (List Vl)) : Ev0 Vl := match fn with
  | some r => gCall (r j) g
  | none => fun _ _ => .bad
/-- f(e, .., k = v, ..) -/
def gCallK (op : Op1) (pm : List Nat) (g h : Ev0 (List Vl)) : Ev0 Vl := fun ρ M => (g ρ M).bind fun xs M1 => (h ρ M1).bind fun zs M2 => match pick pm (xs ++ zs) with
  | some as => op as M2
  | none => .bad
def callK (fn : Fn) (j : Nat) (pm : List Nat) (g h : Ev0 (List Vl)) : Ev0 Vl := match fn with
  | some r => gCallK (r j) pm g h
  | none => fun _ _ => .bad
def propE (fn : Fn) (c : Str) (j : Nat) (g : Ev0 Vl) : Ev0 Vl := match fn with
  | some r => gProp c (r j) g
  | none => fun _ _ => .bad
def mkE (fn : Fn) (c : Str) (j : Nat) (g : Ev0 (List Vl)) : Ev0 Vl := match fn with
  | some r => gMake c (r j) g
  | none => fun _ _ => .bad
def mcE (fn : Fn) (c m : Str) (j : Nat) (g : Ev0 Vl) (h : Ev0 (List Vl)) : Ev0 Vl := match fn with
  | some r => gMCall c m (r j) g h
  | none => fun _ _ => .bad
def mckE (fn : Fn) (c m : Str) (j : Nat) (pm : List Nat) (g : Ev0 Vl) (h : Ev0 (List Vl)) : Ev0 Vl := match fn with
  | some r => gMCallK c m (r j) pm g h
  | none => fun _ _ => .bad
/-- raise c(a, b) -/
def gsRaise (c f1 f2 : Str) (g : Ev0 (List Vl)) : EvS := fun ρ M => bindS ρ (g ρ M) fun xs M1 => match toDs M1 xs with
  | some ([d1, d2], M2) => .exc ⟨c, [(f2, d2), (f1, d1)]⟩ ρ M2
  | _ => .bad
def CTs.len : CTs → Nat
  | .nil => 0
  | .cons _ ts => ts.len + 1
mutual
def CT.slots : CT → List Nat
  | .nm i _ _ => [i]
  | .tup ts _ _ => ts.slots
def CTs.slots : CTs → List Nat
  | .nil => []
  | .cons t ts => t.slots ++ ts.slots
end
mutual
def CT.ev : CT → TgV
  | .nm i _ _ => tgName i
  | .tup ts _ _ => tgTup ts.len ts.ev
def CTs.ev : CTs → TgVs
  | .nil => tgNil
  | .cons t ts => tgCons t.ev ts.ev
end
mutual
def CE.ev (fn : Fn) : CE → Ev0 Vl
  | .var i _ _ => gVar i
  | .int n _ _ => gCon (.int n)
  | .bl b _ _ => gCon (.bool b)
  | .non _ _ => gCon .none
  | .str s _ _ => gCon (.str s)
  | .bin op a b _ => gBin (lift2 op.ev) (a.ev fn) (b.ev fn)
  | .neg a _ => gUn (lift1 negD) (a.ev fn)
  | .not a _ => gNot (a.ev fn)
  | .and a es _ => evAnd fn (a.ev fn) es
  | .or a es _ => evOr fn (a.ev fn) es
  | .cmp op a b _ => gBin op.ev (a.ev fn) (b.ev fn)
  | .chain op op' a b c _ => gChain op.ev op'.ev (a.ev fn) (b.ev fn) (c.ev fn)
  | .isN neg a _ _ _ => gUn (isNoneV neg) (a.ev fn)
  | .ife c a b _ => gIf (c.evT fn) (a.ev fn) (b.ev fn)
  | .tup es _ _ => gTup (es.ev fn)
  | .lst mu es _ => if mu then gLstM (es.ev fn) else gLst (es.ev fn)
  | .disp ks es _ => gDisp (ks.map (·.1)) (es.ev fn)
  | .ix a b _ => gBin ixV (a.ev fn) (b.ev fn)
  | .sl a lo hi _ _ => gSl (a.ev fn) (lo.evI fn) (hi.evI fn)
  | .blt f a es _ _ => gCall f.ev (gCons (a.ev fn) (es.ev fn))
  | .isa T a _ _ _ => gUn (lift1 (isaD T)) (a.ev fn)
  | .meth m a b es _ _ => gMeth m.ty m.ev (a.ev fn) (gCons (b.ev fn) (es.ev fn))
  | .call j _ a es _ _ => callE fn j (gCons (a.ev fn) (es.ev fn))
  | .call0 j _ _ _ => callE fn j gNil
  | .callk j _ es _ kws pm _ _ => callK fn j pm (es.ev fn) (kws.ev fn)
  | .sset a _ _ _ _ => gUn (lift1 ssetD) (a.ev fn)
  | .glo _ d _ => gCon d
  | .disp0 _ => gDisp0
  | .fld c f a _ => gUn (fldV c f) (a.ev fn)
  | .prop c _ j a _ => propE fn c j (a.ev fn)
  | .mk c j a es _ _ => mkE fn c j (gCons (a.ev fn) (es.ev fn))
  | .mcall c m j o a es _ _ => mcE fn c m j (o.ev fn) (gCons (a.ev fn) (es.ev fn))
  | .mcallk c m j o _ kws pm _ _ => mckE fn c m j pm (o.ev fn) (kws.ev fn)
  | .outc _ b _ _ _ _ => gOut (b.ev fn)
  | .rev a _ _ _ _ _ => gUn (lift1 revD) (a.ev fn)
  | .lc mu elt tg it c _ own _ => gLc mu (own.map (·.2)) (it.ev fn) tg.ev (c.evC fn) (elt.ev fn)
  | .bad _ => fun _ _ => .bad
def CE.evT (fn : Fn) : CE → Ev0 Bool
  | .not a _ => gNotT (a.evT fn)
  | .and a es _ => evAndT fn (a.evT fn) es
  | .or a es _ => evOrT fn (a.evT fn) es
  | .cmp op a b _ => gB (gBin op.ev (a.ev fn) (b.ev fn))
  | .chain op op' a b c _ => gB (gChain op.ev op'.ev (a.ev fn) (b.ev fn) (c.ev fn))
  | .isN neg a _ _ _ => gB (gUn (isNoneV neg) (a.ev fn))
  | .ife c a b _ => gIf (c.evT fn) (a.evT fn) (b.evT fn)
  | .var i _ _ => gTru (gVar i)
  | .int n _ _ => gTru (gCon (.int n))
  | .bl b _ _ => gTru (gCon (.bool b))
  | .non _ _ => gTru (gCon .none)
  | .str s _ _ => gTru (gCon (.str s))
  | .bin op a b _ => gTru (gBin (lift2 op.ev) (a.ev fn) (b.ev fn))
  | .neg a _ => gTru (gUn (lift1 negD) (a.ev fn))
  | .tup es _ _ => gTru (gTup (es.ev fn))
  | .lst mu es _ => gTru (if mu then gLstM (es.ev fn) else gLst (es.ev fn))
  | .disp ks es _ => gTru (gDisp (ks.map (·.1)) (es.ev fn))
  | .ix a b _ => gTru (gBin ixV (a.ev fn) (b.ev fn))
  | .sl a lo hi _ _ => gTru (gSl (a.ev fn) (lo.evI fn) (hi.evI fn))
  | .blt f a es _ _ => gTru (gCall f.ev (gCons (a.ev fn) (es.ev fn)))
  | .isa T a _ _ _ => gTru (gUn (lift1 (isaD T)) (a.ev fn))
  | .meth m a b es _ _ => gTru (gMeth m.ty m.ev (a.ev fn) (gCons (b.ev fn) (es.ev fn)))
  | .call j _ a es _ _ => gTru (callE fn j (gCons (a.ev fn) (es.ev fn)))
  | .call0 j _ _ _ => gTru (callE fn j gNil)
  | .callk j _ es _ kws pm _ _ => gTru (callK fn j pm (es.ev fn) (kws.ev fn))
  | .sset a _ _ _ _ => gTru (gUn (lift1 ssetD) (a.ev fn))
  | .glo _ d _ => gTru (gCon d)
  | .disp0 _ => gTru gDisp0
  | .fld c f a _ => gTru (gUn (fldV c f) (a.ev fn))
  | .prop c _ j a _ => gTru (propE fn c j (a.ev fn))
  | .mk c j a es _ _ => gTru (mkE fn c j (gCons (a.ev fn) (es.ev fn)))
  | .mcall c m j o a es _ _ => gTru (mcE fn c m j (o.ev fn) (gCons (a.ev fn) (es.ev fn)))
  | .mcallk c m j o _ kws pm _ _ => gTru (mckE fn c m j pm (o.ev fn) (kws.ev fn))
  | .outc _ b _ _ _ _ => gTru (gOut (b.ev fn))
  | .rev a _ _ _ _ _ => gTru (gUn (lift1 revD) (a.ev fn))
  | .lc mu elt tg it c _ own _ => gTru (gLc mu (own.map (·.2)) (it.ev fn) tg.ev (c.evC fn) (elt.ev fn))
  | .bad _ => fun _ _ => .bad
def CEs.ev (fn : Fn) : CEs → Ev0 (List Vl)
  | .nil => gNil
  | .cons a es => gCons (a.ev fn) (es.ev fn)
  | .star a _ es => gStar (a.ev fn) (es.ev fn)
def evAnd (fn : Fn) (g : Ev0 Vl) : CEs → Ev0 Vl
  | .nil => g
  | .cons a es => gAnd g (evAnd fn (a.ev fn) es)
  | .star _ _ _ => fun _ _ => .bad
def evOr (fn : Fn) (g : Ev0 Vl) : CEs → Ev0 Vl
  | .nil => g
  | .cons a es => gOr g (evOr fn (a.ev fn) es)
  | .star _ _ _ => fun _ _ => .bad
def evAndT (fn : Fn) (g : Ev0 Bool) : CEs → Ev0 Bool
  | .nil => g
  | .cons a es => gAndT g (evAndT fn (a.evT fn) es)
  | .star _ _ _ => fun _ _ => .bad
def evOrT (fn : Fn) (g : Ev0 Bool) : CEs → Ev0 Bool
  | .nil => g
  | .cons a es => gOrT g (evOrT fn (a.evT fn) es)
  | .star _ _ _ => fun _ _ => .bad
def CO.evI (fn : Fn) : CO → Ev0I
  | .none => gNoPart
  | .some a => gPart (a.ev fn)
def CO.evC (fn : Fn) : CO → Ev0 Bool
  | .none => gYes
  | .some a => a.evT fn
def CI.ev (fn : Fn) : CI → Ev0S
  | .val a => giVal (a.ev fn)
  | .rng1 a _ _ => giRng1 (gCons (a.ev fn) gNil)
  | .rng2 a b _ _ => giRng2 (gCons (a.ev fn) (gCons (b.ev fn) gNil))
  | .zip a b _ _ => giZip (gCons (a.ev fn) (gCons (b.ev fn) gNil))
  | .zips a b _ _ _ _ _ => giZipS (gCons (a.ev fn) (gCons (b.ev fn) gNil))
  | .enu a _ _ => giEnu (gCons (a.ev fn) gNil)
end
mutual
def CS.ev (fn : Fn) : CS → EvS
  | .set i _ _ e _ => gsSet i (e.ev fn)
  | .tgt t e _ => gsTgt t.ev (e.ev fn)
  | .par i j _ _ _ _ _ _ a b _ _ _ => gsPar i j (gCons (a.ev fn) (gCons (b.ev fn) gNil))
  | .par3 i j l _ _ _ _ _ _ _ _ a b c _ _ _ => gsPar3 i j l (gCons (a.ev fn) (gCons (b.ev fn) (gCons (c.ev fn) gNil)))
  | .pars ts _ _ es _ _ _ => gsPars (ts.map (·.1)) (es.ev fn)
  | .put o i e _ _ => gsPut (o.ev fn) (i.ev fn) (e.ev fn)
  | .fld c f o _ e _ => gsFld c f (o.ev fn) (e.ev fn)
  | .raise c f1 f2 a es _ _ _ => gsRaise c f1 f2 (gCons (a.ev fn) (es.ev fn))
  | .exp e _ => gsExp (e.ev fn)
  | .ret e _ => gsRet (e.ev fn)
  | .retN _ => gsRetN
  | .ife c a b _ => gsIf (c.evT fn) (evSs fn a) (evSs fn b)
  | .wh c b _ => gsWh (c.evT fn) (evSs fn b)
  | .forr t it b _ => gsFor (it.ev fn) t.ev (evSs fn b)
  | .pass _ => gsNil
  | .brk _ => gsBrk
  | .cont _ => gsCont
  | .bad _ => gsBad
def evSs (fn : Fn) : List CS → EvS
  | [] => gsNil
  | s :: r => gsSeq (s.ev fn) (evSs fn r)
end
end Ev

namespace Ev
open PySem PySem.Spec PyProof.Rows L2

/-! ### in, of a dict too -/
section
variable {X : Cx} {W0 : WX}
theorem op_inG (hu : X.A.units + 65 < cLine) : OpR X (compareOp .In) (aO X.K W0 (inV false)) := by
  intro pins s σ H x y v u Q I rx ry h
  obtain ⟨W, M, σ', v1, v2, R, r1, r2, P⟩ := h
  unfold inV at P
  cases e : dctAt M v2 with
  | none =>
    simp only [e] at P
    exact op_inV (W0 := W0) hu pins s σ H x y v u Q I rx ry ⟨W, M, σ', v1, v2, R, r1, r2, P⟩
  | some kvs =>
    simp only [e] at P
    obtain ⟨n, a, vs, rfl, rfl, hm, z, h1, h2⟩ := dctAt_ok R r2 e
    cases e2 : peek M v1 with
    | none => rw [e2] at P; exact P.elim
    | some k =>
      rw [e2] at P
      cases e3 : keyD k with
      | none => simp only [e3] at P; exact P.elim
      | some q =>
        simp only [e3] at P
        obtain rfl := keyD_ok (peek_pk R r1 e2) e3
        obtain rfl : u = Value.ref a := ry
        refine d_in (by omega) I (DGet.k (k := q) h1) rx fun s' I' => ⟨.bl _, H, I', rfl, ?_⟩
        have : (valV vs q).isSome = (getP kvs q).isSome := by
          cases e4 : getP kvs q with
          | none => rw [(kv_get q h2).2 e4]; rfl
          | some d => obtain ⟨w, hw, _⟩ := (kv_get q h2).1 d e4; rw [hw]; rfl
        rw [this]
        simpa using P (.bl (false ^^ (getP kvs q).isSome)) H W (Wd.le.refl _) R (.bl _)
theorem op_notInG (hu : X.A.units + 65 < cLine) : OpR X (compareOp .NotIn) (aO X.K W0 (inV true)) := by
  intro pins s σ H x y v u Q I rx ry h
  obtain ⟨W, M, σ', v1, v2, R, r1, r2, P⟩ := h
  unfold inV at P
  cases e : dctAt M v2 with
  | none =>
    simp only [e] at P
    exact op_notInV (W0 := W0) hu pins s σ H x y v u Q I rx ry ⟨W, M, σ', v1, v2, R, r1, r2, P⟩
  | some kvs =>
    simp only [e] at P
    obtain ⟨n, a, vs, rfl, rfl, hm, z, h1, h2⟩ := dctAt_ok R r2 e
    cases e2 : peek M v1 with
    | none => rw [e2] at P; exact P.elim
    | some k =>
      rw [e2] at P
      cases e3 : keyD k with
      | none => simp only [e3] at P; exact P.elim
      | some q =>
        simp only [e3] at P
        obtain rfl := keyD_ok (peek_pk R r1 e2) e3
        obtain rfl : u = Value.ref a := ry
        refine d_notIn (by omega) I (DGet.k (k := q) h1) rx fun s' I' => ⟨.bl _, H, I', rfl, ?_⟩
        have : (valV vs q).isSome = (getP kvs q).isSome := by
          cases e4 : getP kvs q with
          | none => rw [(kv_get q h2).2 e4]; rfl
          | some d => obtain ⟨w, hw, _⟩ := (kv_get q h2).1 d e4; rw [hw]; rfl
        rw [this]
        simpa using P (.bl (true ^^ (getP kvs q).isSome)) H W (Wd.le.refl _) R (.bl _)
end

/-! ### the checker -/
structure Gam where
  N : List Str
  sc : Scope
  fb : Bool
  fns : Nat → Option (Str × Nat)
  glo : Str → Option PyData
  kwf : Nat → List (Nat × List Str × List Nat)
  mts : Nat → Option (FnP × Str × Nat) := fun _ => none
  cls : List (Str × List Str) := []
  xcs : List (Str × Str × Str) := []
  out : Option Str := none
  lam : Bool := false
  top : Bool := false
def visB (sc : Scope) (x : Str) : Bool := match sc.names.lookup x with
  | some .local => true
  | some .cell => true
  | some .free => true
  | _ => false
def locB (Γ : Gam) (x : Str) : Bool := match Γ.sc.names.lookup x with
  | some .local => true
  | some .cell => Γ.fb
  | _ => false
def isLocal (sc : Scope) (x : Str) : Bool := decide (sc.names.lookup x = some .local)
def glB (sc : Scope) (x : Str) : Bool := decide (sc.names.lookup x = some .globalImplicit)
def bltNames : List Str := ["len", "abs", "int", "list", "tuple", "sum", "all", "any", "isinstance", "range", "zip", "enumerate", "bool", "str", "dict", "set", "sorted", "min", "max", "repr", "reversed", "frozenset", "type", "ValueError", "super"]
def plainE : Expr → Bool
  | .Starred _ _ => false
  | .Slice _ _ _ _ => false
  | .Set _ _ _ => false
  | _ => true
def isLc : Expr → Bool
  | .ListComp _ _ _ _ => true
  | .SetComp _ _ _ _ => true
  | .DictComp _ _ _ _ _ => true
  | _ => false
def noCall0 : Expr → Bool
  | .Call _ [] _ _ => false
  | _ => true
def isTup : Expr → Bool
  | .Tuple _ _ _ => true
  | _ => false
def CEs.len : CEs → Nat
  | .nil => 0
  | .cons _ es => es.len + 1
  | .star _ _ es => es.len + 1
def CEs.noStar : CEs → Bool
  | .nil => true
  | .cons _ es => es.noStar
  | .star _ _ _ => false
def gloB (Γ : Gam) (x : Str) (d : PyData) : Bool := match Γ.glo x, d with
  | some (.int i), .int j => decide (i = j)
  | some (.str i), .str j => decide (i = j)
  | _, _ => false
mutual
def CT.ok (Γ : Gam) : CT → Bool
  | .nm i x _ => decide (Γ.N[i]? = some x) && locB Γ x
  | .tup ts _ _ => ts.ok Γ
def CTs.ok (Γ : Gam) : CTs → Bool
  | .nil => true
  | .cons t ts => t.ok Γ && ts.ok Γ
end
def fldB (Γ : Gam) (c f : Str) : Bool := Γ.cls.any fun q => decide (q.1 = c) && q.2.contains f
def clsB (Γ : Gam) (c : Str) : Bool := Γ.cls.any fun q => decide (q.1 = c)
def inner (Γ : Gam) (sc : Scope) : Gam := { Γ with sc := relS sc Γ.sc, fb := false, lam := false, top := false }
/-- a lambda's body -/
def lamG (Γ : Gam) (sc : Scope) : Gam := { Γ with sc := sc, fb := false, lam := false, top := false }
mutual
def CE.ok (Γ : Gam) : CE → Bool
  | .var i x _ => decide (Γ.N[i]? = some x) && visB Γ.sc x && !(x == ("__debug__" : Str)) && !(x == ("__classdict__" : Str))
  | .int _ _ _ => true
  | .bl _ _ _ => true
  | .non _ _ => true
  | .str _ _ _ => true
  | .bin _ a b _ => a.ok Γ && b.ok Γ
  | .neg a _ => a.ok Γ
  | .not a _ => a.ok Γ
  | .and a es _ => a.ok Γ && es.ok Γ
  | .or a es _ => a.ok Γ && es.ok Γ
  | .cmp _ a b _ => a.ok Γ && b.ok Γ
  | .chain _ _ a b c _ => a.ok Γ && (b.ok Γ && c.ok Γ)
  | .isN _ a _ _ _ => a.ok Γ
  | .ife c a b _ => c.ok Γ && (a.ok Γ && b.ok Γ)
  | .tup es _ _ => es.ok Γ
  | .lst _ es _ => es.ok Γ
  | .disp ks es _ => es.ok Γ && es.noStar && (decide (ks.length = es.len) && (decide (ks ≠ []) && decide (ks.length ≤ 15)))
  | .ix a b _ => a.ok Γ && b.ok Γ
  | .sl a lo hi _ _ => a.ok Γ && (lo.ok Γ && hi.ok Γ)
  | .blt f a es _ _ => glB Γ.sc f.nm && (a.ok Γ && (es.ok Γ && es.noStar))
  | .isa T a _ _ _ => glB Γ.sc "isinstance" && (glB Γ.sc (Str.ofString T.nm) && a.ok Γ)
  | .meth _ a b es apos cpos => (apos.endLine == cpos.line) && (decide (es.len < 20) && (noCall0 a.toE && (a.ok Γ && (b.ok Γ && (es.ok Γ && es.noStar)))))
  | .call j x a es _ _ => glB Γ.sc x && (!(x == ("__debug__" : Str)) && (decide (Γ.fns j = some (x, es.len + 1)) && (a.ok Γ && (es.ok Γ && es.noStar))))
  | .call0 j x _ _ => glB Γ.sc x && (!(x == ("__debug__" : Str)) && decide (Γ.fns j = some (x, 0)))
  | .callk j x es ks kws pm _ _ => glB Γ.sc x && (!(x == ("__debug__" : Str)) && (decide (Γ.fns j = some (x, pm.length)) && ((Γ.kwf j).any (fun q => decide (q = (es.len, ks.map (·.1), pm))) && (decide (ks.length = kws.len) && (es.ok Γ && es.noStar && (kws.ok Γ && kws.noStar))))))
  | .sset a _ _ _ _ => glB Γ.sc "sorted" && (glB Γ.sc "set" && a.ok Γ)
  | .glo x d _ => glB Γ.sc x && (!(x == ("__debug__" : Str)) && gloB Γ x d)
  | .disp0 _ => true
  | .fld c f a _ => noCall0 a.toE && (fldB Γ c f && a.ok Γ)
  | .prop c f j a _ => noCall0 a.toE && (clsB Γ c && (decide (Γ.mts j = some (FnP.prop c, f, 1)) && a.ok Γ))
  | .mk c j a es _ _ => glB Γ.sc c && (!(c == ("__debug__" : Str)) && (clsB Γ c && (decide (Γ.mts j = some (FnP.meth c, ("__init__" : Str), es.len + 2)) && (a.ok Γ && (es.ok Γ && es.noStar)))))
  | .mcall c m j o a es apos cpos => (apos.endLine == cpos.line) && (decide (es.len < 20) && (noCall0 o.toE && (clsB Γ c && (decide (Γ.mts j = some (FnP.meth c, m, es.len + 2)) && (o.ok Γ && (a.ok Γ && (es.ok Γ && es.noStar)))))))
  | .mcallk c m j o ks kws pm apos cpos => (apos.endLine == cpos.line) && (decide (kws.len < 20) && (noCall0 o.toE && (clsB Γ c && (decide (Γ.mts j = some (FnP.meth c, m, pm.length)) && ((Γ.kwf j).any (fun q => decide (q = (1, ks.map (·.1), pm))) && (decide (ks.length = kws.len) && (o.ok Γ && (kws.ok Γ && kws.noStar))))))))
  | .rev a _ _ _ _ _ => a.ok Γ
  | .outc x b sc _ _ _ => Γ.lam && (Γ.top && (decide (Γ.out = some x) && (glB Γ.sc x && (!(x == ("__debug__" : Str)) && (LamX.lamSB Γ.sc sc && b.ok (lamG Γ sc))))))
  | .lc _ elt tg it c sc own _ => blkC Γ.N Γ.sc sc own && (tg.slots.all (fun j => (own.map (·.2)).contains j) && (tg.ok (inner Γ sc) && (it.ok Γ tg && (c.ok (inner Γ sc) && elt.ok (inner Γ sc)))))
  | .bad e => plainE e
def CEs.ok (Γ : Gam) : CEs → Bool
  | .nil => true
  | .cons a es => a.ok Γ && es.ok Γ
  | .star a _ es => a.ok Γ && es.ok Γ
def CO.ok (Γ : Gam) : CO → Bool
  | .none => true
  | .some a => a.ok Γ
def CI.ok (Γ : Gam) (tg : CT) : CI → Bool
  | .val a => a.ok Γ
  | .rng1 a _ _ => glB Γ.sc "range" && a.ok Γ
  | .rng2 a b _ _ => glB Γ.sc "range" && (a.ok Γ && b.ok Γ)
  | .zip a b _ _ => isTup tg.toE && (glB Γ.sc "zip" && (a.ok Γ && b.ok Γ))
  | .zips a b _ _ _ _ _ => isTup tg.toE && (glB Γ.sc "zip" && (a.ok Γ && b.ok Γ))
  | .enu a _ _ => isTup tg.toE && (glB Γ.sc "enumerate" && a.ok Γ)
end
/-! ### what is promised -/
def spOf (K : PySem.W.Frag) (ps : List Str) (op : Op1) : Sp := fun vs H Q E => vs.length = ps.length ∧ ∃ W M σ xs, RelM K W H M ∧ VlsR K W vs xs ∧ Post (VlR K) K (fun c d _ H => E c d H) W σ (op xs M) Q
/-- a def's place -/
def WhereP (K : PySem.W.Frag) (mg : Str → Option Value) : FnP → Str → Addr → Prop
  | .top, x, f => mg x = some (.ref f)
  | .meth c, x, f => Meth K (He.ga K c) x f
  | .prop c, x, f => ∃ p, PropOf K (He.ga K c) x p f
def ClsAt (K : PySem.W.Frag) (mg : Str → Option Value) (q : Str × List Str) : Prop := Cls K (He.ga K q.1) ∧ mg q.1 = some (.ref (He.ga K q.1)) ∧ (∃ f, Mk K (He.ga K q.1) f) ∧ ∀ f ∈ q.2, NoAttr K (He.ga K q.1) f
def FnAtP (P : Program) (w : World) (K : PySem.W.Frag) (mg : Str → Option Value) (base : Heap) (n : Nat) (pl : FnP) (x : Str) (ps : List Str) (kws : List (Nat × List Str × List Nat)) (op : Op1) (f : Addr) (fd : FuncData) : Prop :=
  WhereP K mg pl x f ∧ PySem.W.keepIn K (.ref f) = true ∧ Binds K fd ps [] ∧ (∀ q ∈ kws, KwB K fd ps q) ∧ FnG P w K mg base (L2.CX P w) n f fd ps (spOf K ps op)
def FnAt (P : Program) (w : World) (K : PySem.W.Frag) (mg : Str → Option Value) (base : Heap) (n : Nat) (pl : FnP) (x : Str) (k : Nat) (kws : List (Nat × List Str × List Nat)) (op : Op1) : Prop :=
  ∃ f fd ps, List.length ps = k ∧ FnAtP P w K mg base n pl x ps kws op f fd
/-- the def that tells how a lambda ends -/
def OutAt (K : PySem.W.Frag) (mg : Str → Option Value) (x : Str) : Prop := ∃ g fd pg sg p, mg x = some (.ref g) ∧ PySem.W.keepIn K (.ref g) = true ∧ FunD K x x pg (outBody p) sg [] [] g fd ∧ Binds K fd ["_law_ask"] [] ∧ OutSc sg ∧ OutM K mg ∧ OutK K
structure Good (Γ : Gam) (fn : Fn) (X : Cx) (W0 : WX) : Prop where
  N : X.N = Γ.N
  nd : X.N.Nodup
  sc : X.env.scope = Γ.sc
  fb : Γ.fb = true → ∀ x, X.fn x = true
  calm : X.calm = true
  un : X.A.units + 65 < cLine
  gd : X.A.guards = some []
  gv : ∀ x d, Γ.glo x = some d → (∃ i, d = .int i ∧ ∃ t, X.mg x = some (.int i t)) ∨ ∃ z, d = .str z ∧ ∃ t, X.mg x = some (.str z t)
  blt : ∀ x ∈ bltNames, X.mg x = none
  tk : Takes X W0
  calls : ∀ r, fn = some r → ∃ n, Room n X.A ∧ (Γ.top = true → Room (n + 2) X.A) ∧ ∀ j x k, Γ.fns j = some (x, k) → FnAt X.prog X.w X.K X.mg X.base n .top x k (Γ.kwf j) (r j)
  mths : ∀ r, fn = some r → ∃ n, Room (n + 1) X.A ∧ (Γ.top = true → Room (n + 3) X.A) ∧ ∀ j pl x k, Γ.mts j = some (pl, x, k) → FnAt X.prog X.w X.K X.mg X.base n pl x k (Γ.kwf j) (r j)
  cls : ∀ q ∈ Γ.cls, ClsAt X.K X.mg q
  xcs : ∀ q ∈ Γ.xcs, ∃ fI, X.mg q.1 = some (.ref (He.ga X.K q.1)) ∧ RaiC X.prog X.K (He.ga X.K q.1) fI q.2.1 q.2.2
  out : ∀ x, Γ.out = some x → OutAt X.K X.mg x
  hun : ∀ q ∈ tabsF X.K, ∀ q' ∈ tabsF X.K, q.1 = q'.1 → q.2 = q'.2
  lam : Γ.lam = true → ∃ c P, X.env.code = .ref c ∧ (P, X.env.qual ++ "<lambda>") ∈ tabsF X.K ∧ LamX.TabB X.base X.mg c P
  top : Γ.top = true → Room 3 X.A
section
variable {Γ : Gam} {fn : Fn} {X : Cx} {W0 : WX}
theorem Good.blk (G : Good Γ fn X W0) (sc : Scope) (s : Shared) (H : Hp) (C : Addr) (cl : List (Str × Addr)) (fp : List Addr) : Good (inner Γ sc) fn (X.blk s H sc (compEnvC sc cl C X.env) fp) W0n where
  N := G.N
  nd := G.nd
  sc := by show relS sc X.env.scope = relS sc Γ.sc; rw [G.sc]
  fb := fun h => by cases h
  calm := G.calm
  un := G.un
  gd := G.gd
  gv := G.gv
  blt := G.blt
  tk := fun u s' h => by obtain ⟨_, _, _, _, _, _, _, _, _, _, _, _, _, _, _, _, h⟩ := h; exact h
  calls := fun r hr => let ⟨n, h1, _, h3⟩ := G.calls r hr; ⟨n, h1, (fun z => by cases z), h3⟩
  mths := fun r hr => let ⟨n, h1, _, h3⟩ := G.mths r hr; ⟨n, h1, (fun z => by cases z), h3⟩
  cls := G.cls
  xcs := G.xcs
  out := G.out
  hun := G.hun
  lam := fun z => by cases z
  top := fun z => by cases z
/-- in a lambda's body -/
theorem Good.lamb (G : Good Γ fn X W0) (ht : Γ.top = true) (sc : Scope) (env : Env) (out : List Env) (s1 : Shared) (H1 : Hp) (E : XK) (f c' : Addr) : Good (lamG Γ sc) fn (LamX.lamCx X (X.A.deeper env) out s1 H1 E sc f c') (fun c d _ H => E c d H) where
  N := G.N
  nd := G.nd
  sc := rfl
  fb := fun h => by cases h
  calm := rfl
  un := by
    have := (G.top ht).un
    show X.A.units + 3 + 3 + 65 < cLine
    omega
  gd := G.gd
  gv := G.gv
  blt := G.blt
  tk := takes_of rfl rfl rfl rfl
  calls := fun r hr => let ⟨n, _, h2, h3⟩ := G.calls r hr; ⟨n, ((h2 ht).deeper _).deeper _, (fun z => by cases z), h3⟩
  mths := fun r hr => let ⟨n, _, h2, h3⟩ := G.mths r hr; ⟨n, ((h2 ht).deeper _).deeper _, (fun z => by cases z), h3⟩
  cls := G.cls
  xcs := G.xcs
  out := G.out
  hun := G.hun
  lam := fun z => by cases z
  top := fun z => by cases z
theorem Good.vis (G : Good Γ fn X W0) {x : Str} (h : visB Γ.sc x = true) : Vis X.env.scope x := by
  unfold Vis
  rw [G.sc]
  unfold visB at h
  split at h <;> simp_all
theorem Good.loc (G : Good Γ fn X W0) {x : Str} (h : locB Γ x = true) : Loc X.env.scope x ∧ (X.fn x = true ∨ X.env.scope.names.lookup x = some .local) := by
  unfold L2.Loc
  rw [G.sc]
  unfold locB at h
  split at h
  · rename_i e; exact ⟨.inl e, .inr e⟩
  · rename_i e; exact ⟨.inr e, .inl (G.fb h x)⟩
  · cases h
theorem Good.gl (G : Good Γ fn X W0) {x : Str} (h : glB Γ.sc x = true) : Gl X x := by
  unfold Gl Env.kindOf
  rw [G.sc]
  exact of_decide_eq_true h
theorem Good.at (G : Good Γ fn X W0) {i : Nat} {x : Str} (h : decide (Γ.N[i]? = some x) = true) : X.N[i]? = some x := by
  rw [G.N]
  exact of_decide_eq_true h
theorem not_true {b : Bool} (h : (!b) = true) : b = false := by cases b <;> simp_all
theorem CE.plain (Γ : Gam) : ∀ c : CE, c.ok Γ = true → plainE c.toE = true
  | .bad e, h => h
  | .var .., _ | .int .., _ | .bl .., _ | .non .., _ | .str .., _ | .bin .., _ | .neg .., _ | .not .., _ | .and .., _ | .or .., _ | .cmp .., _ | .chain .., _ | .isN .., _ | .ife .., _ | .tup .., _ | .lst .., _ | .disp .., _ | .ix .., _ | .sl .., _ | .blt .., _ | .isa .., _ | .meth .., _ | .call .., _ | .call0 .., _ | .callk .., _ | .sset .., _ | .glo .., _ | .disp0 .., _ | .fld .., _ | .prop .., _ | .mk .., _ | .mcall .., _ | .mcallk .., _ | .outc .., _ | .rev .., _ | .lc .., _ => rfl
theorem plain_star {e : Expr} (h : plainE e = true) : notStar e = true := by cases e <;> first | rfl | cases h
theorem plain_ix {e : Expr} (h : plainE e = true) : plainIx e = true := by cases e <;> first | rfl | cases h
theorem plain_set {e : Expr} (h : plainE e = true) : ∀ es k p, e ≠ .Set es k p := by intro es k p he; subst he; cases h
theorem plain_fold {e : Expr} (h : plainE e = true) (env : Env) : ∀ x, foldedSetIterable e env x = pure x := by cases e <;> first | (intro x; rfl) | cases h
theorem base_ok {e : Expr} (h : noCall0 e = true) (nm : Str) (env : Env) : attributeBase e nm env (eval e env) = eval e env := by
  cases e with
  | Call f as ks p =>
    cases as with
    | nil => cases h
    | cons a as => cases f <;> rfl
  | _ => rfl
theorem bin_ok (op : BOp) : OpR X (binaryOp op.op) (aO X.K W0 (lift2 op.ev)) := by
  cases op
  · exact op_addV
  · exact op_subV
  · exact op_mulV
  · exact op_divV
  · exact op_modV
  · exact op_powV
theorem cmp_ok (hu : X.A.units + 65 < cLine) (op : COp) : OpR X (compareOp op.op) (aO X.K W0 op.ev) := by
  cases op
  · exact op_eqV (by omega)
  · exact op_neV (by omega)
  · exact op_cmpI op_lt
  · exact op_leV hu
  · exact op_cmpI op_gt
  · exact op_cmpI op_ge
  · exact op_inG hu
  · exact op_notInG hu
theorem blt_ok (G : Good Γ fn X W0) (f : Blt) {a : Expr} {es : List Expr} {g : Ev0 (List Vl)} {pf p : Pos} (hg : glB Γ.sc f.nm = true) (ha : SA X W0 (a :: es) g) (hs : (a :: es).all notStar = true) : SE X W0 (.Call (.Name f.nm pf) (a :: es) [] p) (gCall f.ev g) := by
  have hg := G.gl hg
  cases f
  · exact se_callB call_lenV hg (G.blt _ (by decide +kernel)) (by decide +kernel) ha hs (by decide +kernel) (by decide +kernel)
  · exact se_callB call_absV hg (G.blt _ (by decide +kernel)) (by decide +kernel) ha hs (by decide +kernel) (by decide +kernel)
  · exact se_callTy call_intV hg (G.blt _ (by decide +kernel)) (by decide +kernel) ha hs (by decide +kernel) (by decide +kernel)
  · exact se_callTy call_listV hg (G.blt _ (by decide +kernel)) (by decide +kernel) ha hs (by decide +kernel) (by decide +kernel)
  · exact se_callTy call_listMV hg (G.blt _ (by decide +kernel)) (by decide +kernel) ha hs (by decide +kernel) (by decide +kernel)
  · exact se_callTy call_tupleV hg (G.blt _ (by decide +kernel)) (by decide +kernel) ha hs (by decide +kernel) (by decide +kernel)
  · exact se_callB (call_sumV G.calm) hg (G.blt _ (by decide +kernel)) (by decide +kernel) ha hs (by decide +kernel) (by decide +kernel)
  · exact se_callB (call_allV G.calm) hg (G.blt _ (by decide +kernel)) (by decide +kernel) ha hs (by decide +kernel) (by decide +kernel)
  · exact se_callB (call_anyV G.calm) hg (G.blt _ (by decide +kernel)) (by decide +kernel) ha hs (by decide +kernel) (by decide +kernel)
  · exact se_callB (call_reprV G.gd G.un) hg (G.blt _ (by decide +kernel)) (by decide +kernel) ha hs (by decide +kernel) (by decide +kernel)
  · exact se_callB (call_sortV G.un) hg (G.blt _ (by decide +kernel)) (by decide +kernel) ha hs (by decide +kernel) (by decide +kernel)
  · exact se_callTy (call_dictV G.calm) hg (G.blt _ (by decide +kernel)) (by decide +kernel) ha hs (by decide +kernel) (by decide +kernel)
theorem isa_ok (G : Good Γ fn X W0) (T : Ty) {a : Expr} {g : Ev0 Vl} {pT pf p : Pos} (hg : glB Γ.sc "isinstance" = true) (hT : glB Γ.sc (Str.ofString T.nm) = true) (ha : SE X W0 a g) (hs : notStar a = true) : SE X W0 (.Call (.Name "isinstance" pf) [a, .Name (Str.ofString T.nm) pT] [] p) (gUn (lift1 (isaD T)) g) := by
  have hT := G.gl hT
  cases T
  · exact se_isa (T := .int) (G.gl hg) (G.blt _ (by decide +kernel)) (by decide +kernel) hT (G.blt _ (by decide +kernel)) (by decide +kernel) (by decide +kernel) ha hs
  · exact se_isa (T := .bool) (G.gl hg) (G.blt _ (by decide +kernel)) (by decide +kernel) hT (G.blt _ (by decide +kernel)) (by decide +kernel) (by decide +kernel) ha hs
  · exact se_isa (T := .str) (G.gl hg) (G.blt _ (by decide +kernel)) (by decide +kernel) hT (G.blt _ (by decide +kernel)) (by decide +kernel) (by decide +kernel) ha hs
  · exact se_isa (T := .list) (G.gl hg) (G.blt _ (by decide +kernel)) (by decide +kernel) hT (G.blt _ (by decide +kernel)) (by decide +kernel) (by decide +kernel) ha hs
  · exact se_isa (T := .tuple) (G.gl hg) (G.blt _ (by decide +kernel)) (by decide +kernel) hT (G.blt _ (by decide +kernel)) (by decide +kernel) (by decide +kernel) ha hs
  · exact se_isa (T := .dict) (G.gl hg) (G.blt _ (by decide +kernel)) (by decide +kernel) hT (G.blt _ (by decide +kernel)) (by decide +kernel) (by decide +kernel) ha hs
theorem meth_ok (G : Good Γ fn X W0) (m : Mth) {a b : Expr} {es : List Expr} {ga : Ev0 Vl} {g : Ev0 (List Vl)} {apos cpos : Pos} (ho : SE X W0 a ga) (ha : SA X W0 (b :: es) g) (hb : noCall0 a = true) (hfew : es.length < 20) (hs : (b :: es).all notStar = true) (hline : (apos.endLine == cpos.line) = true) :
    SE X W0 (.Call (.Attribute a m.nm apos) (b :: es) [] cpos) (gMeth m.ty m.ev ga g) := by
  have hf : (b :: es).length < 29 := by rw [List.length_cons]; omega
  have hu := G.un
  cases m
  · exact se_meth (T := .list) PySem.F.plainAttrs_list PySem.F.slot_list_append PySem.F.type_list_append mt_appendV ho ha (base_ok hb _) hf hs hline
  · exact se_meth (T := .list) PySem.F.plainAttrs_list PySem.F.slot_list_count PySem.F.type_list_count (mt_countV hu) ho ha (base_ok hb _) hf hs hline
  · exact se_meth (T := .list) PySem.F.plainAttrs_list PySem.F.slot_list_extend PySem.F.type_list_extend mt_extendV ho ha (base_ok hb _) hf hs hline
  · exact se_meth (T := .list) PySem.F.plainAttrs_list PySem.F.slot_list_insert PySem.F.type_list_insert mt_insertV ho ha (base_ok hb _) hf hs hline
  · exact se_meth (T := .dict) PySem.F.plainAttrs_dict PySem.F.slot_dict_get PySem.F.type_dict_get (mt_getV (by omega)) ho ha (base_ok hb _) hf hs hline
theorem call_ok (G : Good Γ fn X W0) {j k : Nat} {x : Str} {a : Expr} {es : List Expr} {g : Ev0 (List Vl)} {pf p : Pos} (hg : glB Γ.sc x = true) (hdb : (x == ("__debug__" : Str)) = false) (hf : Γ.fns j = some (x, k)) (hk : (a :: es).length = k) (hl : ∀ ρ M xs M', g ρ M = .ok xs M' → xs.length = k) (ha : SA X W0 (a :: es) g) (hs : (a :: es).all notStar = true) :
    SE X W0 (.Call (.Name x pf) (a :: es) [] p) (callE fn j g) := by
  have h2 : notStar a = true ∧ es.all notStar = true := by simpa [List.all_cons] using hs
  cases hfn : fn with
  | none => exact ⟨fun _ _ _ _ _ _ ⟨_, _, _, _, _, P⟩ => P.elim⟩
  | some r =>
    obtain ⟨n, room, _, hc⟩ := G.calls r hfn
    obtain ⟨f, fd, ps, hps, hm, hk2, hb, _, F⟩ := hc j x k hf
    refine PE.mono (pe_callG (E := fun σ c d H => W0 c d σ H) F room G.gd (G.gl hg) hm hk2 hb (fun σ pins H s e s' I h => G.tk e s' (XE.of_call I (fun cls d H' h => h) h)) ha hdb (star_one h2.1 _ _) (star_none _ _ _ h2.2)) fun σ H Q h => ?_
    obtain ⟨ρ, M, W, R, S, P⟩ := h
    have P : Post (VlR X.K) X.K W0 W σ (gCall (r j) g ρ M) Q := P
    refine ⟨ρ, M, W, R, S, post_bind P fun vs H1 W1 M1 xs e l1 R1 r1 P1 => ?_⟩
    refine ⟨by rw [r1.length, hps]; exact hl _ _ _ _ e, W1, M1, σ, xs, R1, r1, ?_⟩
    cases eo : r j xs M1 with
    | ok v M2 => rw [eo] at P1; exact P1
    | exc x M2 => rw [eo] at P1; exact P1
    | bad => rw [eo] at P1; exact P1.elim
theorem call0_ok (G : Good Γ fn X W0) {j : Nat} {x : Str} {pf p : Pos} (hg : glB Γ.sc x = true) (hdb : (x == ("__debug__" : Str)) = false) (hf : Γ.fns j = some (x, 0)) : SE X W0 (.Call (.Name x pf) [] [] p) (callE fn j gNil) := by
  cases hfn : fn with
  | none => exact ⟨fun _ _ _ _ _ _ ⟨_, _, _, _, _, P⟩ => P.elim⟩
  | some r =>
    obtain ⟨n, room, _, hc⟩ := G.calls r hfn
    obtain ⟨f, fd, ps, hps, hm, hk2, hb, _, F⟩ := hc j x 0 hf
    refine PE.mono (pe_callG0 (E := fun σ c d H => W0 c d σ H) F room G.gd (G.gl hg) hm hk2 hb (fun σ pins H s e s' I h => G.tk e s' (XE.of_call I (fun cls d H' h => h) h)) hdb) fun σ H Q h => ?_
    obtain ⟨ρ, M, W, R, S, P⟩ := h
    have P : Post (VlR X.K) X.K W0 W σ (r j [] M) Q := P
    refine ⟨by rw [hps]; rfl, W, M, σ, [], R, .nil, ?_⟩
    cases eo : r j [] M with
    | ok v M2 => rw [eo] at P; exact P
    | exc x M2 => rw [eo] at P; exact P
    | bad => rw [eo] at P; exact P.elim
theorem vls_appR {K : PySem.W.Frag} {W : Wd} : ∀ {vs ws : List V} {xs ys : List Vl}, VlsR K W vs xs → VlsR K W ws ys → VlsR K W (vs ++ ws) (xs ++ ys)
  | _, _, _, _, .nil, s => s
  | _, _, _, _, .cons h t, s => .cons h (vls_appR t s)
theorem pick_vls {K : PySem.W.Frag} {W : Wd} : ∀ (pm : List Nat) {vs : List V} {xs as : List Vl}, VlsR K W vs xs → pick pm xs = some as → ∃ bs, pick pm vs = some bs ∧ VlsR K W bs as
  | [], _, _, _, _, h => by cases h; exact ⟨[], rfl, .nil⟩
  | i :: pm, vs, xs, as, r, h => by
    simp only [pick] at h ⊢
    cases e1 : xs[i]? with
    | none => rw [e1] at h; cases h
    | some v =>
      cases e2 : pick pm xs with
      | none => rw [e1, e2] at h; cases h
      | some l =>
        rw [e1, e2] at h
        cases h
        obtain ⟨u, hu, ru⟩ := r.get e1
        obtain ⟨bs, hb, rb⟩ := pick_vls pm r e2
        exact ⟨u :: bs, by rw [hu, hb], .cons ru rb⟩
theorem pick_len {α : Type} : ∀ (pm : List Nat) {xs as : List α}, pick pm xs = some as → as.length = pm.length
  | [], _, _, h => by cases h; rfl
  | i :: pm, xs, as, h => by
    simp only [pick] at h
    cases e1 : xs[i]? with
    | none => rw [e1] at h; cases h
    | some v =>
      cases e2 : pick pm xs with
      | none => rw [e1, e2] at h; cases h
      | some l => rw [e1, e2] at h; cases h; exact congrArg Nat.succ (pick_len pm e2)
theorem callk_ok (G : Good Γ fn X W0) {j k : Nat} {x : Str} {es : List Expr} {kws : List Keyword} {g h : Ev0 (List Vl)} {q : Nat × List Str × List Nat} {pf p : Pos} (hg : glB Γ.sc x = true) (hdb : (x == ("__debug__" : Str)) = false) (hf : Γ.fns j = some (x, k)) (hpm : q.2.2.length = k) (hq : q ∈ Γ.kwf j)
    (l1 : ∀ ρ M xs M', g ρ M = .ok xs M' → xs.length = q.1) (l2 : ∀ ρ M xs M', h ρ M = .ok xs M' → xs.length = q.2.1.length) (ha : SA X W0 es g) (hk : PK X kws (aA X.K W0 h)) (hn : kws.map (·.arg) = q.2.1.map some) (hs : es.all notStar = true) (h0 : es = [] → g = gNil) :
    SE X W0 (.Call (.Name x pf) es kws p) (callK fn j q.2.2 g h) := by
  cases hfn : fn with
  | none => exact ⟨fun _ _ _ _ _ _ ⟨_, _, _, _, _, P⟩ => P.elim⟩
  | some r =>
    obtain ⟨n, room, _, hc⟩ := G.calls r hfn
    obtain ⟨f, fd, ps, hps, hm, hk2, hb, hkw, F⟩ := hc j x k hf
    refine PE.mono (pe_callGk (E := fun σ c d H => W0 c d σ H) F room G.gd (G.gl hg) hm hk2 (hkw q hq) (fun σ pins H s e s' I h => G.tk e s' (XE.of_call I (fun cls d H' h => h) h)) ha hk hn hdb (fun e r he => by subst he; exact star_one (by simpa using (show notStar e = true ∧ _ by simpa [List.all_cons] using hs).1) _ _) (star_none _ _ _ hs) (fun he σ H Q hh => ?_)) fun σ H Q hh => ?_
    · obtain ⟨ρ, M, W, R, S, P⟩ := hh
      rw [h0 he] at P
      exact P [] H W (Wd.le.refl W) R .nil
    · obtain ⟨ρ, M, W, R, S, P⟩ := hh
      have P : Post (VlR X.K) X.K W0 W σ (gCallK (r j) q.2.2 g h ρ M) Q := P
      refine ⟨ρ, M, W, R, S, post_bind P fun vs H1 W1 M1 xs e l1' R1 r1 P1 => ?_⟩
      refine ⟨ρ, M1, W1, R1, S.mono l1', post_bind P1 fun ws H2 W2 M2 zs e2 l2' R2 r2 P2 => ?_⟩
      refine ⟨by rw [r1.length]; exact l1 _ _ _ _ e, by rw [r2.length]; exact l2 _ _ _ _ e2, ?_⟩
      cases e3 : pick q.2.2 (xs ++ zs) with
      | none => rw [e3] at P2; exact P2.elim
      | some as =>
        rw [e3] at P2
        obtain ⟨bs, hb1, hb2⟩ := pick_vls q.2.2 (vls_appR (r1.mono l2') r2) e3
        refine ⟨bs, hb1, by rw [pick_len _ hb1, hps]; exact hpm, W2, M2, σ, as, R2, hb2, ?_⟩
        cases eo : r j as M2 with
        | ok v M3 => simp only [eo] at P2; exact P2
        | exc x M3 => simp only [eo] at P2; exact P2
        | bad => simp only [eo] at P2; exact P2.elim
theorem Good.clsAt (G : Good Γ fn X W0) {c : Str} (h : clsB Γ c = true) : Cls X.K (He.ga X.K c) ∧ X.mg c = some (.ref (He.ga X.K c)) ∧ ∃ f, Mk X.K (He.ga X.K c) f := by
  obtain ⟨q, hq, e⟩ := List.any_eq_true.mp h
  obtain rfl := of_decide_eq_true e
  obtain ⟨h1, h2, h3, _⟩ := G.cls q hq
  exact ⟨h1, h2, h3⟩
theorem fld_at (G : Good Γ fn X W0) {c f : Str} (h : fldB Γ c f = true) : Cls X.K (He.ga X.K c) ∧ NoAttr X.K (He.ga X.K c) f := by
  obtain ⟨q, hq, e⟩ := List.any_eq_true.mp h
  obtain ⟨e1, e2⟩ := Bool.and_eq_true_iff.mp e
  obtain rfl := of_decide_eq_true e1
  obtain ⟨h1, _, _, h4⟩ := G.cls q hq
  exact ⟨h1, h4 f (by simpa using e2)⟩
theorem args_form (es : List Expr) (kws : List Keyword) (ks : List Str) (env : Env) (pos : Pos) (hs : es.all notStar = true) (hn : kws.map (·.arg) = ks.map some) (hl : es.length + kws.length < 29) : methodCallForm (es.length + kws.length) (backTo pos (starEach es env)) (backToKw pos (keywordEach kws env)) = true := by
  have h3 : ∀ (l : List (Bool × Sem Value)), l.any (·.1) = false → l.all (fun x => !x.1) = true := fun l h => by
    rw [List.all_eq_not_any_not]
    simp only [Bool.not_not]
    rw [h]
    rfl
  obtain ⟨a1, _, _⟩ := all_some _ _ ((kw_names pos env kws).trans hn)
  unfold methodCallForm
  rw [h3 _ (star_none pos env es hs), a1]
  have e : es.length + kws.length + (if (backToKw pos (keywordEach kws env)).isEmpty then 0 else 1) < 30 := by split <;> omega
  rw [decide_eq_true e]
  rfl
theorem prop_ok (G : Good Γ fn X W0) {c f : Str} {j : Nat} {a : Expr} {ga : Ev0 Vl} {p : Pos} (hb : noCall0 a = true) (hc : clsB Γ c = true) (hj : Γ.mts j = some (FnP.prop c, f, 1)) (ha : SE X W0 a ga) : SE X W0 (.Attribute a f p) (propE fn c j ga) := by
  cases hfn : fn with
  | none => exact ⟨fun _ _ _ _ _ _ ⟨_, _, _, _, _, P⟩ => P.elim⟩
  | some r =>
    obtain ⟨n, room, _, hm⟩ := G.mths r hfn
    obtain ⟨g, fd, ps, hps, ⟨q, hw⟩, _, hbd, _, F⟩ := hm j _ f 1 hj
    exact se_prop (G.clsAt hc).1 hw F room G.gd hbd hps ha (base_ok hb _ _)
theorem mk_ok (G : Good Γ fn X W0) {c : Str} {j k : Nat} {a : Expr} {es : List Expr} {g : Ev0 (List Vl)} {pf p : Pos} (hg : glB Γ.sc c = true) (hdb : (c == ("__debug__" : Str)) = false) (hc : clsB Γ c = true) (hj : Γ.mts j = some (FnP.meth c, ("__init__" : Str), k)) (hl : ∀ ρ M xs M', g ρ M = .ok xs M' → xs.length + 1 = k) (ha : SA X W0 (a :: es) g) (hs : (a :: es).all notStar = true) :
    SE X W0 (.Call (.Name c pf) (a :: es) [] p) (mkE fn c j g) := by
  cases hfn : fn with
  | none => exact ⟨fun _ _ _ _ _ _ ⟨_, _, _, _, _, P⟩ => P.elim⟩
  | some r =>
    obtain ⟨n, room, _, hm⟩ := G.mths r hfn
    obtain ⟨f, fd, ps, hps, hw, _, hbd, _, F⟩ := hm j _ _ k hj
    obtain ⟨_, hm2, f2, hmk⟩ := G.clsAt hc
    have e : f2 = f := by
      have h1 := hmk.init
      have h2 := (show Meth X.K (He.ga X.K c) "__init__" f from hw).at_
      rw [h1] at h2
      cases h2
      rfl
    subst e
    subst hps
    exact se_make hmk F room G.gd (G.gl hg) hm2 hbd G.tk hl ha hdb hs
theorem mcall_ok (G : Good Γ fn X W0) {c m : Str} {j k : Nat} {o a : Expr} {es : List Expr} {go : Ev0 Vl} {g : Ev0 (List Vl)} {apos cpos : Pos} (hline : (apos.endLine == cpos.line) = true) (hfew : es.length < 20) (hb : noCall0 o = true) (hc : clsB Γ c = true) (hj : Γ.mts j = some (FnP.meth c, m, k)) (hl : ∀ ρ M xs M', g ρ M = .ok xs M' → xs.length + 1 = k) (ho : SE X W0 o go) (ha : SA X W0 (a :: es) g) (hs : (a :: es).all notStar = true) :
    SE X W0 (.Call (.Attribute o m apos) (a :: es) [] cpos) (mcE fn c m j go g) := by
  cases hfn : fn with
  | none => exact ⟨fun _ _ _ _ _ _ ⟨_, _, _, _, _, P⟩ => P.elim⟩
  | some r =>
    obtain ⟨n, room, _, hm⟩ := G.mths r hfn
    obtain ⟨f, fd, ps, hps, hw, _, hbd, _, F⟩ := hm j _ _ k hj
    subst hps
    exact se_mcall (G.clsAt hc).1 hw F (room.mono (Nat.le_succ n)) G.gd hbd G.tk hl ho ha hs (mtree (base_ok hb _ _) (args_form (a :: es) [] [] X.env cpos hs rfl (by rw [List.length_cons]; show es.length + 1 + 0 < 29; omega)) hline)
theorem mcallk_ok (G : Good Γ fn X W0) {c m : Str} {j k : Nat} {o : Expr} {kws : List Keyword} {go : Ev0 Vl} {h : Ev0 (List Vl)} {q : Nat × List Str × List Nat} {apos cpos : Pos} (hline : (apos.endLine == cpos.line) = true) (hfew : kws.length < 20) (hb : noCall0 o = true) (hc : clsB Γ c = true) (hj : Γ.mts j = some (FnP.meth c, m, k)) (hq1 : q.1 = 1) (hpm : q.2.2.length = k) (hq : q ∈ Γ.kwf j)
    (l2 : ∀ ρ M xs M', h ρ M = .ok xs M' → xs.length = q.2.1.length) (ho : SE X W0 o go) (hk : PK X kws (aA X.K W0 h)) (hn : kws.map (·.arg) = q.2.1.map some) : SE X W0 (.Call (.Attribute o m apos) [] kws cpos) (mckE fn c m j q.2.2 go h) := by
  cases hfn : fn with
  | none => exact ⟨fun _ _ _ _ _ _ ⟨_, _, _, _, _, P⟩ => P.elim⟩
  | some r =>
    obtain ⟨n, room, _, hm⟩ := G.mths r hfn
    obtain ⟨f, fd, ps, hps, hw, _, _, hkw, F⟩ := hm j _ _ k hj
    subst hps
    exact se_mcallk (G.clsAt hc).1 hw F (room.mono (Nat.le_succ n)) G.gd (hkw q hq) G.tk hq1 hpm l2 ho hk hn (mtree (base_ok hb _ _) (args_form [] kws q.2.1 X.env cpos rfl hn (by show 0 + kws.length < 29; omega)) hline)
theorem glo_ok (G : Good Γ fn X W0) {x : Str} {d : PyData} {p : Pos} (hg : glB Γ.sc x = true) (hdb : (x == ("__debug__" : Str)) = false) (hd : gloB Γ x d = true) : SE X W0 (.Name x p) (gCon d) := by
  have hx : Γ.glo x = some d := by
    unfold gloB at hd
    split at hd
    · rename_i e; rw [e, of_decide_eq_true hd]
    · rename_i e; rw [e, of_decide_eq_true hd]
    · cases hd
  rcases G.gv x d hx with ⟨i, rfl, t, hm⟩ | ⟨z, rfl, t, hm⟩
  · exact se_tC (pe_glob (v := .int i) (G.gl hg) hm ⟨t, rfl⟩ hdb) fun _ => .int i
  · exact se_tC (pe_glob (v := .str z) (G.gl hg) hm ⟨t, rfl⟩ hdb) fun _ => .str z
theorem vls_d {K : PySem.W.Frag} {W : Wd} : ∀ {vs : List V} {ds : List PyData}, DqAll K W.Z vs ds → VlsR K W vs (ds.map Vl.d)
  | _, _, .nil => .nil
  | _, _, .cons h t => .cons h (vls_d t)
theorem vls_app {K : PySem.W.Frag} {W : Wd} : ∀ {vs ws : List V} {xs ys : List Vl}, VlsR K W vs xs → VlsR K W ws ys → VlsR K W (vs ++ ws) (xs ++ ys)
  | _, _, _, _, .nil, s => s
  | _, _, _, _, .cons h t, s => .cons h (vls_app t s)
theorem sa_star {a : Expr} {ga : Ev0 Vl} {es : List Expr} {g : Ev0 (List Vl)} {p : Pos} (ha : SE X W0 a ga) (hr : SA X W0 es g) : SA X W0 (.Starred a p :: es) (gStar ga g) := by
  refine PA.mono (StX.pa_star ha hr rfl) fun σ H Q h => ?_
  obtain ⟨ρ, M, W, R, S, P⟩ := h
  refine ⟨ρ, M, W, R, S, post_bind P fun v H1 W1 M1 x e l1 R1 r1 P1 => ?_⟩
  cases e1 : peek M1 x with
  | none => simp only [e1] at P1; exact P1.elim
  | some d =>
    simp only [e1] at P1
    have pk := peek_pk R1 r1 e1
    have fin : ∀ (q : Addr) (vs : List V) (ds : List PyData), v = .ref q → (SqT X.K H1 q vs ∨ SqL X.K H1 q vs) → DqAll X.K W1.Z vs ds → itemsOf d = some ds → ∃ q vs, v = V.ref q ∧ (SqT X.K H1 q vs ∨ SqL X.K H1 q vs) ∧ aA X.K W0 g σ H1 fun ys H2 => Q (vs ++ ys) H2 := by
      intro q vs ds ev hs hd hi
      simp only [hi] at P1
      refine ⟨q, vs, ev, hs, ρ, M1, W1, R1, S.mono l1, post_bind P1 fun ws H2 W2 M2 xs e2 l2 R2 r2 P2 => ?_⟩
      exact P2 _ _ W2 (Wd.le.refl _) R2 (vls_app (vls_d (DqAll.mono l2.1 hd)) r2)
    cases d with
    | list ds =>
      obtain ⟨q, vs, ev, hs, hd⟩ := pk.list R1
      exact fin q vs ds ev (.inr hs) hd rfl
    | tuple ds =>
      obtain ⟨q, vs, ev, _, hs, hd⟩ := pk.tuple R1
      exact fin q vs ds ev (.inl hs) hd rfl
    | _ => simp only [itemsOf] at P1; exact P1.elim
theorem CEs.toEs_len : ∀ es : CEs, es.toEs.length = es.len
  | .nil => rfl
  | .cons _ es => congrArg Nat.succ (CEs.toEs_len es)
  | .star _ _ es => congrArg Nat.succ (CEs.toEs_len es)
theorem CEs.ev_len (fn : Fn) : ∀ (es : CEs) (ρ : Rho) (M : Sto) (xs : List Vl) (M' : Sto), es.noStar = true → es.ev fn ρ M = .ok xs M' → xs.length = es.len
  | .star _ _ _, ρ, M, xs, M', hn, h => by cases hn
  | .nil, ρ, M, xs, M', hn, h => by cases h; rfl
  | .cons a es, ρ, M, xs, M', hn, h => by
    have h : ((a.ev fn ρ M).bind fun x M1 => (es.ev fn ρ M1).bind fun xs M2 => .ok (x :: xs) M2) = .ok xs M' := h
    cases e1 : a.ev fn ρ M with
    | bad => rw [e1] at h; cases h
    | exc _ _ => rw [e1] at h; cases h
    | ok x M1 =>
      rw [e1] at h
      have h : ((es.ev fn ρ M1).bind fun xs M2 => .ok (x :: xs) M2) = Out.ok xs M' := h
      cases e2 : es.ev fn ρ M1 with
      | bad => rw [e2] at h; cases h
      | exc _ _ => rw [e2] at h; cases h
      | ok ys M2 =>
        rw [e2] at h
        cases h
        exact congrArg Nat.succ (CEs.ev_len fn es ρ M1 ys _ hn e2)
theorem ct_star : ∀ t : CT, notStar t.toE = true
  | .nm .. => rfl
  | .tup .. => rfl
theorem cts_star : ∀ ts : CTs, ts.toEs.all notStar = true
  | .nil => rfl
  | .cons t ts => by
    show (t.toE :: ts.toEs).all notStar = true
    rw [List.all_cons, ct_star t, cts_star ts]
    rfl
theorem cts_len : ∀ ts : CTs, ts.toEs.length = ts.len
  | .nil => rfl
  | .cons _ ts => congrArg Nat.succ (cts_len ts)
mutual
theorem CT.snd (G : Good Γ fn X W0) : ∀ (t : CT), t.ok Γ = true → PG X t.toE (aG X.K t.slots t.ev)
  | .nm i x p, h => by
    simp only [CT.ok, Bool.and_eq_true] at h
    exact sg_name G.nd (G.at h.1) (G.loc h.2).1 (G.loc h.2).2
  | .tup ts k p, h => by
    have := sg_tup (k := k) (pos := p) G.calm (CTs.snd G ts h) (cts_star ts)
    rw [cts_len] at this
    exact this
theorem CTs.snd (G : Good Γ fn X W0) : ∀ (ts : CTs), ts.ok Γ = true → PGs X ts.toEs (aGs X.K ts.slots ts.ev)
  | .nil, _ => sgs_nil
  | .cons t ts, h => by
    simp only [CTs.ok, Bool.and_eq_true] at h
    exact sgs_cons (CT.snd G t h.1) (CTs.snd G ts h.2) (ct_star t)
end
end
end Ev

namespace Ev
open PySem PySem.Spec PyProof.Rows L2

/-! ### the checker is right -/
structure SndE (X : Cx) (W0 : WX) (e : Expr) (g : Ev0 Vl) (c : Ev0 Bool) : Prop where
  v : SE X W0 e g
  t : ST X W0 e c
structure SndEs (X : Cx) (W0 : WX) (fn : Fn) (es : CEs) : Prop where
  a : SA X W0 es.toEs (es.ev fn)
  s : es.noStar = true → es.toEs.all notStar = true
  an : ∀ a g p, SE X W0 a g → SE X W0 (.BoolOp .And (a :: es.toEs) p) (evAnd fn g es)
  orr : ∀ a g p, SE X W0 a g → SE X W0 (.BoolOp .Or (a :: es.toEs) p) (evOr fn g es)
  anT : ∀ a g p, ST X W0 a g → SW X W0 (.BoolOp .And (a :: es.toEs) p) (evAndT fn g es)
  orT : ∀ a g p, ST X W0 a g → SW X W0 (.BoolOp .Or (a :: es.toEs) p) (evOrT fn g es)
  k : ∀ (ks : List (Str × Pos)), es.noStar = true → ks.length = es.len → PK X (kwE ks es.toEs) (aA X.K W0 (es.ev fn)) ∧ (kwE ks es.toEs).map (·.arg) = (ks.map (·.1)).map some
  nl : es.toEs = [] → es.ev fn = gNil
  disp : ∀ (ks : List (Str × Nat × Pos)) p, es.noStar = true → ks.length = es.len → SP X W0 p (ks.map fun k => some (.Constant (.str k.1) k.2.1 k.2.2)) es.toEs (ks.map (·.1)) (es.ev fn)
theorem and_tt {a b : Bool} (h : (a && b) = true) : a = true ∧ b = true := by
  rw [Bool.and_eq_true] at h
  exact h
theorem slots_ok {l : List Nat} {own : List Nat} (h : (l.all fun j => own.contains j) = true) : ∀ j ∈ l, j ∈ own := fun j hj => by
  have := List.all_eq_true.mp h j hj
  simpa using this
theorem sk_nil {X : Cx} {W0 : WX} : PK X [] (aA X.K W0 gNil) := ⟨fun pos pins s σ H Q I h => by
  obtain ⟨ρ, M, W, R, S, P⟩ := h
  exact pk_nil.run pos pins s σ H Q I (P [] H W (Wd.le.refl W) R .nil)⟩
theorem sk_cons {X : Cx} {W0 : WX} {e : Expr} {kws : List Keyword} {nm : Option Str} {kp : Pos} {ga : Ev0 Vl} {g : Ev0 (List Vl)} (ha : SE X W0 e ga) (hr : PK X kws (aA X.K W0 g)) : PK X (⟨nm, e, kp⟩ :: kws) (aA X.K W0 (gCons ga g)) := ⟨fun pos pins s σ H Q I h => by
  obtain ⟨ρ, M, W, R, S, P⟩ := h
  refine (pk_cons ha hr).run pos pins s σ H Q I ⟨ρ, M, W, R, S, post_bind P fun v H1 W1 M1 x e l1 R1 r1 P1 => ?_⟩
  refine ⟨ρ, M1, W1, R1, S.mono l1, post_bind P1 fun vs H2 W2 M2 xs e2 l2 R2 r2 P2 => ?_⟩
  exact P2 _ _ W2 (Wd.le.refl _) R2 (.cons (r1.mono l2) r2)⟩
mutual
theorem CE.snd (fn : Fn) : ∀ (c : CE) (Γ : Gam) (X : Cx) (W0 : WX), c.ok Γ = true → Good Γ fn X W0 → SndE X W0 c.toE (c.ev fn) (c.evT fn)
  | .var i x p, Γ, X, W0, h, G => by
    obtain ⟨h123, h4⟩ := and_tt h
    obtain ⟨h12, h3⟩ := and_tt h123
    obtain ⟨h1, h2⟩ := and_tt h12
    have z := se_var (W0 := W0) (pos := p) (G.at h1) (G.vis h2) (not_true h3) (not_true h4)
    exact ⟨z, st_truth z rfl⟩
  | .int n j p, Γ, X, W0, h, G => ⟨se_int, st_truth se_int rfl⟩
  | .bl b j p, Γ, X, W0, h, G => ⟨se_bl, st_truth se_bl rfl⟩
  | .non j p, Γ, X, W0, h, G => ⟨se_non, st_truth se_non rfl⟩
  | .str s j p, Γ, X, W0, h, G => ⟨se_str, st_truth se_str rfl⟩
  | .bin op a b p, Γ, X, W0, h, G => by
    obtain ⟨h1, h2⟩ := and_tt h
    have z := se_op (pos := p) (bin_ok op) (CE.snd fn a Γ X W0 h1 G).v (CE.snd fn b Γ X W0 h2 G).v
    exact ⟨z, st_truth z rfl⟩
  | .neg a p, Γ, X, W0, h, G => by
    have z := se_un (pos := p) (un_negV (W0 := W0)) (CE.snd fn a Γ X W0 h G).v
    exact ⟨z, st_truth z rfl⟩
  | .not a p, Γ, X, W0, h, G => ⟨se_not (CE.snd fn a Γ X W0 h G).v, st_not (CE.snd fn a Γ X W0 h G).t⟩
  | .and a es p, Γ, X, W0, h, G => by
    obtain ⟨h1, h2⟩ := and_tt h
    have za := CE.snd fn a Γ X W0 h1 G
    have zs := CEs.snd fn es Γ X W0 h2 G
    exact ⟨zs.an _ _ p za.v, PW.pt (zs.anT _ _ p za.t)⟩
  | .or a es p, Γ, X, W0, h, G => by
    obtain ⟨h1, h2⟩ := and_tt h
    have za := CE.snd fn a Γ X W0 h1 G
    have zs := CEs.snd fn es Γ X W0 h2 G
    exact ⟨zs.orr _ _ p za.v, PW.pt (zs.orT _ _ p za.t)⟩
  | .cmp op a b p, Γ, X, W0, h, G => by
    obtain ⟨h1, h2⟩ := and_tt h
    have za := (CE.snd fn a Γ X W0 h1 G).v
    have zb := (CE.snd fn b Γ X W0 h2 G).v
    have hs := plain_set (CE.plain Γ b h2)
    exact ⟨se_cmp (cmp_ok G.un op) za zb hs, st_cmp (cmp_ok G.un op) za zb hs⟩
  | .chain op op' a b c p, Γ, X, W0, h, G => by
    obtain ⟨h1, h23⟩ := and_tt h
    obtain ⟨h2, h3⟩ := and_tt h23
    have za := (CE.snd fn a Γ X W0 h1 G).v
    have zb := (CE.snd fn b Γ X W0 h2 G).v
    have zc := (CE.snd fn c Γ X W0 h3 G).v
    have hs := plain_set (CE.plain Γ c h3)
    exact ⟨se_chain (cmp_ok G.un op) (cmp_ok G.un op') za zb zc hs, st_chain (cmp_ok G.un op) (cmp_ok G.un op') za zb zc hs⟩
  | .isN false a j pn p, Γ, X, W0, h, G => ⟨se_isN (CE.snd fn a Γ X W0 h G).v, st_isN (CE.snd fn a Γ X W0 h G).v⟩
  | .isN true a j pn p, Γ, X, W0, h, G => ⟨se_notN (CE.snd fn a Γ X W0 h G).v, st_notN (CE.snd fn a Γ X W0 h G).v⟩
  | .ife c a b p, Γ, X, W0, h, G => by
    obtain ⟨h1, h23⟩ := and_tt h
    obtain ⟨h2, h3⟩ := and_tt h23
    have zc := CE.snd fn c Γ X W0 h1 G
    have za := CE.snd fn a Γ X W0 h2 G
    have zb := CE.snd fn b Γ X W0 h3 G
    exact ⟨se_if zc.t za.v zb.v, st_if zc.t za.t zb.t⟩
  | .tup es k p, Γ, X, W0, h, G => by
    have z := se_tup (pos := p) (x1 := k) (CEs.snd fn es Γ X W0 h G).a
    exact ⟨z, st_truth z rfl⟩
  | .lst true es p, Γ, X, W0, h, G => by
    have z := se_lstM (pos := p) (CEs.snd fn es Γ X W0 h G).a
    exact ⟨z, st_truth z rfl⟩
  | .lst false es p, Γ, X, W0, h, G => by
    have z := se_lst (pos := p) (CEs.snd fn es Γ X W0 h G).a
    exact ⟨z, st_truth z rfl⟩
  | .disp ks es p, Γ, X, W0, h, G => by
    obtain ⟨h1, h234⟩ := and_tt h
    obtain ⟨h1, hns⟩ := and_tt h1
    obtain ⟨h2, h34⟩ := and_tt h234
    obtain ⟨h3, h4⟩ := and_tt h34
    have h2 := of_decide_eq_true h2
    have h3 := of_decide_eq_true h3
    have h4 := of_decide_eq_true h4
    have zs := CEs.snd fn es Γ X W0 h1 G
    have z := se_disp (zs.disp ks p hns h2) (by simp) (by rw [List.length_map, CEs.toEs_len]; exact h2) (fun e => h3 (List.map_eq_nil_iff.mp e)) (by rw [List.length_map]; exact h4)
    exact ⟨z, st_truth z rfl⟩
  | .ix a b p, Γ, X, W0, h, G => by
    obtain ⟨h1, h2⟩ := and_tt h
    have hu := G.un
    have z := se_ix (pos := p) (by omega) (CE.snd fn a Γ X W0 h1 G).v (CE.snd fn b Γ X W0 h2 G).v (plain_ix (CE.plain Γ b h2))
    exact ⟨z, st_truth z rfl⟩
  | .sl a lo hi p2 p, Γ, X, W0, h, G => by
    obtain ⟨h1, h23⟩ := and_tt h
    obtain ⟨h2, h3⟩ := and_tt h23
    have z := se_slice (pos := p) (p2 := p2) (CE.snd fn a Γ X W0 h1 G).v (CO.snd fn lo Γ X W0 h2 G).1 (CO.snd fn hi Γ X W0 h3 G).1
    exact ⟨z, st_truth z rfl⟩
  | .blt f a es pf p, Γ, X, W0, h, G => by
    obtain ⟨h1, h23⟩ := and_tt h
    obtain ⟨h2, h3⟩ := and_tt h23
    obtain ⟨h3, hns⟩ := and_tt h3
    have hp := plain_star (CE.plain Γ a h2)
    have zs := CEs.snd fn es Γ X W0 h3 G
    have z := blt_ok (pf := pf) (p := p) G f h1 (sa_cons (CE.snd fn a Γ X W0 h2 G).v zs.a hp) (by rw [List.all_cons, hp, zs.s hns]; rfl)
    exact ⟨z, st_truth z rfl⟩
  | .isa T a pT pf p, Γ, X, W0, h, G => by
    obtain ⟨h1, h23⟩ := and_tt h
    obtain ⟨h2, h3⟩ := and_tt h23
    have z := isa_ok (pf := pf) (p := p) (pT := pT) G T h1 h2 (CE.snd fn a Γ X W0 h3 G).v (plain_star (CE.plain Γ a h3))
    exact ⟨z, st_truth z rfl⟩
  | .meth m a b es apos cpos, Γ, X, W0, h, G => by
    obtain ⟨h1, h⟩ := and_tt h
    obtain ⟨h2, h⟩ := and_tt h
    obtain ⟨h3, h⟩ := and_tt h
    obtain ⟨h4, h⟩ := and_tt h
    obtain ⟨h5, h6⟩ := and_tt h
    obtain ⟨h6, hns⟩ := and_tt h6
    have hp := plain_star (CE.plain Γ b h5)
    have zs := CEs.snd fn es Γ X W0 h6 G
    have z := meth_ok (apos := apos) (cpos := cpos) G m (CE.snd fn a Γ X W0 h4 G).v (sa_cons (CE.snd fn b Γ X W0 h5 G).v zs.a hp) h3 (by rw [CEs.toEs_len]; exact of_decide_eq_true h2) (by rw [List.all_cons, hp, zs.s hns]; rfl) h1
    exact ⟨z, st_truth z rfl⟩
  | .call j x a es pf p, Γ, X, W0, h, G => by
    obtain ⟨h1, h⟩ := and_tt h
    obtain ⟨h2, h⟩ := and_tt h
    obtain ⟨h3, h⟩ := and_tt h
    obtain ⟨h4, h5⟩ := and_tt h
    obtain ⟨h5, hns⟩ := and_tt h5
    have hp := plain_star (CE.plain Γ a h4)
    have zs := CEs.snd fn es Γ X W0 h5 G
    have z := call_ok (pf := pf) (p := p) G h1 (not_true h2) (of_decide_eq_true h3) (by rw [List.length_cons, CEs.toEs_len]) (fun ρ M xs M' e => CEs.ev_len fn (.cons a es) ρ M xs M' hns e) (sa_cons (CE.snd fn a Γ X W0 h4 G).v zs.a hp) (by rw [List.all_cons, hp, zs.s hns]; rfl)
    exact ⟨z, st_truth z rfl⟩
  | .call0 j x pf p, Γ, X, W0, h, G => by
    obtain ⟨h1, h⟩ := and_tt h
    obtain ⟨h2, h3⟩ := and_tt h
    have z := call0_ok (pf := pf) (p := p) G h1 (not_true h2) (of_decide_eq_true h3)
    exact ⟨z, st_truth z rfl⟩
  | .callk j x es ks kws pm pf p, Γ, X, W0, h, G => by
    obtain ⟨h1, h⟩ := and_tt h
    obtain ⟨h2, h⟩ := and_tt h
    obtain ⟨h3, h⟩ := and_tt h
    obtain ⟨h4, h⟩ := and_tt h
    obtain ⟨h5, h⟩ := and_tt h
    obtain ⟨h6, h7⟩ := and_tt h
    obtain ⟨h6, n6⟩ := and_tt h6
    obtain ⟨h7, n7⟩ := and_tt h7
    obtain ⟨q, hq, eq⟩ := List.any_eq_true.mp h4
    have eq := of_decide_eq_true eq
    subst eq
    have hl := of_decide_eq_true h5
    have zs := CEs.snd fn es Γ X W0 h6 G
    have zk := CEs.snd fn kws Γ X W0 h7 G
    obtain ⟨k1, k2⟩ := zk.k ks n7 hl
    have z := callk_ok (pf := pf) (p := p) G h1 (not_true h2) (of_decide_eq_true h3) rfl hq (fun ρ M xs M' e => CEs.ev_len fn es ρ M xs M' n6 e) (fun ρ M xs M' e => by rw [CEs.ev_len fn kws ρ M xs M' n7 e, List.length_map]; exact hl.symm) zs.a k1 k2 (zs.s n6) zs.nl
    exact ⟨z, st_truth z rfl⟩
  | .sset a pf p2 q p, Γ, X, W0, h, G => by
    obtain ⟨h1, h⟩ := and_tt h
    obtain ⟨h2, h3⟩ := and_tt h
    have hu := G.un
    have z := se_sset (p := pf) (p2 := p2) (q := q) (pos := p) G.calm hu (G.gl h1) (G.blt _ (by decide +kernel)) (G.gl h2) (G.blt _ (by decide +kernel)) (CE.snd fn a Γ X W0 h3 G).v (plain_star (CE.plain Γ a h3))
    exact ⟨z, st_truth z rfl⟩
  | .rev a k p1 p2 p3 p, Γ, X, W0, h, G => by
    have z := se_rev (k := k) (p1 := p1) (p2 := p2) (p3 := p3) (pos := p) (CE.snd fn a Γ X W0 h G).v
    exact ⟨z, st_truth z rfl⟩
  | .outc x b sc lp pf p, Γ, X, W0, h, G => by
    obtain ⟨h1, h⟩ := and_tt h
    obtain ⟨h2, h⟩ := and_tt h
    obtain ⟨h3, h⟩ := and_tt h
    obtain ⟨h4, h⟩ := and_tt h
    obtain ⟨h5, h⟩ := and_tt h
    obtain ⟨h6, h7⟩ := and_tt h
    obtain ⟨c, P, k1, k2, k3⟩ := G.lam h1
    obtain ⟨g, fd, pg, sg, q, o1, o2, o3, o4, o5, o6, o7⟩ := G.out x (of_decide_eq_true h3)
    have L : LamX.LamS X.env.scope sc := by rw [G.sc]; exact LamX.lamS_by h6
    have z := se_outc (W0 := W0) (pf := pf) (lp := lp) (pos := p) (G.gl h4) o1 o2 o3 o4 o5 o6 o7 k3 k1 k2 (fun q hq e => G.hun q hq _ k2 e) ((G.top h2).mono (by decide)) L (params := noArgs) rfl (fun _ _ _ _ _ => rfl) (not_true h5)
      fun env out s1 H1 E f c' => (CE.snd fn b (lamG Γ sc) _ _ h7 (G.lamb h2 sc env out s1 H1 E f c')).v
    exact ⟨z, st_truth z rfl⟩
  | .disp0 p, Γ, X, W0, h, G => ⟨se_disp0, st_truth se_disp0 rfl⟩
  | .fld c f a p, Γ, X, W0, h, G => by
    obtain ⟨h1, h⟩ := and_tt h
    obtain ⟨h2, h3⟩ := and_tt h
    obtain ⟨k1, k2⟩ := fld_at G h2
    have z := se_fld (pos := p) k1 k2 (CE.snd fn a Γ X W0 h3 G).v (base_ok h1 _ _)
    exact ⟨z, st_truth z rfl⟩
  | .prop c f j a p, Γ, X, W0, h, G => by
    obtain ⟨h1, h⟩ := and_tt h
    obtain ⟨h2, h⟩ := and_tt h
    obtain ⟨h3, h4⟩ := and_tt h
    have z := prop_ok (p := p) G h1 h2 (of_decide_eq_true h3) (CE.snd fn a Γ X W0 h4 G).v
    exact ⟨z, st_truth z rfl⟩
  | .mk c j a es pf p, Γ, X, W0, h, G => by
    obtain ⟨h1, h⟩ := and_tt h
    obtain ⟨h2, h⟩ := and_tt h
    obtain ⟨h3, h⟩ := and_tt h
    obtain ⟨h4, h⟩ := and_tt h
    obtain ⟨h5, h6⟩ := and_tt h
    obtain ⟨h6, hns⟩ := and_tt h6
    have hp := plain_star (CE.plain Γ a h5)
    have zs := CEs.snd fn es Γ X W0 h6 G
    have z := mk_ok (pf := pf) (p := p) G h1 (not_true h2) h3 (of_decide_eq_true h4) (fun ρ M xs M' e => by rw [CEs.ev_len fn (.cons a es) ρ M xs M' hns e]; rfl) (sa_cons (CE.snd fn a Γ X W0 h5 G).v zs.a hp) (by rw [List.all_cons, hp, zs.s hns]; rfl)
    exact ⟨z, st_truth z rfl⟩
  | .mcall c m j o a es apos cpos, Γ, X, W0, h, G => by
    obtain ⟨h1, h⟩ := and_tt h
    obtain ⟨h2, h⟩ := and_tt h
    obtain ⟨h3, h⟩ := and_tt h
    obtain ⟨h4, h⟩ := and_tt h
    obtain ⟨h5, h⟩ := and_tt h
    obtain ⟨h6, h⟩ := and_tt h
    obtain ⟨h7, h8⟩ := and_tt h
    obtain ⟨h8, hns⟩ := and_tt h8
    have hp := plain_star (CE.plain Γ a h7)
    have zs := CEs.snd fn es Γ X W0 h8 G
    have z := mcall_ok (apos := apos) (cpos := cpos) G h1 (by rw [CEs.toEs_len]; exact of_decide_eq_true h2) h3 h4 (of_decide_eq_true h5) (fun ρ M xs M' e => by rw [CEs.ev_len fn (.cons a es) ρ M xs M' hns e]; rfl) (CE.snd fn o Γ X W0 h6 G).v (sa_cons (CE.snd fn a Γ X W0 h7 G).v zs.a hp) (by rw [List.all_cons, hp, zs.s hns]; rfl)
    exact ⟨z, st_truth z rfl⟩
  | .mcallk c m j o ks kws pm apos cpos, Γ, X, W0, h, G => by
    obtain ⟨h1, h⟩ := and_tt h
    obtain ⟨h2, h⟩ := and_tt h
    obtain ⟨h3, h⟩ := and_tt h
    obtain ⟨h4, h⟩ := and_tt h
    obtain ⟨h5, h⟩ := and_tt h
    obtain ⟨h6, h⟩ := and_tt h
    obtain ⟨h7, h⟩ := and_tt h
    obtain ⟨h8, h9⟩ := and_tt h
    obtain ⟨h9, hns⟩ := and_tt h9
    obtain ⟨q, hq, eq⟩ := List.any_eq_true.mp h6
    have eq := of_decide_eq_true eq
    subst eq
    have hl := of_decide_eq_true h7
    have zk := CEs.snd fn kws Γ X W0 h9 G
    obtain ⟨k1, k2⟩ := zk.k ks hns hl
    have hkl : (kwE ks kws.toEs).length < 20 := by
      have := of_decide_eq_true h2
      unfold kwE
      rw [List.length_zipWith, CEs.toEs_len]
      omega
    have z := mcallk_ok (apos := apos) (cpos := cpos) G h1 hkl h3 h4 (of_decide_eq_true h5) rfl rfl hq (fun ρ M xs M' e => by rw [CEs.ev_len fn kws ρ M xs M' hns e, List.length_map]; exact hl.symm) (CE.snd fn o Γ X W0 h8 G).v k1 k2
    exact ⟨z, st_truth z rfl⟩
  | .glo x d p, Γ, X, W0, h, G => by
    obtain ⟨h1, h⟩ := and_tt h
    obtain ⟨h2, h3⟩ := and_tt h
    have z := glo_ok (p := p) G h1 (not_true h2) h3
    exact ⟨z, st_truth z rfl⟩
  | .lc mu elt tg it c sc own p, Γ, X, W0, h, G => by
    obtain ⟨h1, h⟩ := and_tt h
    obtain ⟨h2, h⟩ := and_tt h
    obtain ⟨h3, h⟩ := and_tt h
    obtain ⟨h4, h⟩ := and_tt h
    obtain ⟨h5, h6⟩ := and_tt h
    have bo : BlkOk X.N X.env.scope sc own := by rw [G.N, G.sc]; exact blkOk_by h1
    have z := se_lc (W0 := W0) (pos := p) mu G.calm G.nd (CI.snd fn it Γ tg X W0 h4 G).1 bo (slots_ok h2) (fun s H C cl fp => CT.snd (G.blk sc s H C cl fp) tg h3) (fun s H C cl fp => (CO.snd fn c _ _ _ h5 (G.blk sc s H C cl fp)).2) (fun s H C cl fp => (CE.snd fn elt _ _ _ h6 (G.blk sc s H C cl fp)).v) (CI.snd fn it Γ tg X W0 h4 G).2
    exact ⟨z, st_truth z rfl⟩
  | .bad e, Γ, X, W0, h, G => ⟨⟨fun _ _ _ _ _ _ ⟨_, _, _, _, _, P⟩ => P.elim⟩, ⟨fun _ _ _ _ _ _ ⟨_, _, _, _, _, P⟩ => P.elim⟩⟩
theorem CEs.snd (fn : Fn) : ∀ (es : CEs) (Γ : Gam) (X : Cx) (W0 : WX), es.ok Γ = true → Good Γ fn X W0 → SndEs X W0 fn es
  | .nil, Γ, X, W0, h, G => ⟨sa_nil, fun _ => rfl, fun a g p z => se_one z, fun a g p z => se_one z, fun a g p z => sw_and1 z, fun a g p z => sw_or1 z, fun ks _ e => (by
    cases ks with
    | nil => exact ⟨sk_nil, rfl⟩
    | cons _ _ => cases e), fun _ => rfl, fun ks p _ e => by
    cases ks with
    | nil => exact sp_nil
    | cons _ _ => cases e⟩
  | .cons b es, Γ, X, W0, h, G => by
    obtain ⟨h1, h2⟩ := and_tt h
    have zb := CE.snd fn b Γ X W0 h1 G
    have zs := CEs.snd fn es Γ X W0 h2 G
    have hp := plain_star (CE.plain Γ b h1)
    refine ⟨sa_cons zb.v zs.a hp, ?_, fun a g p z => se_and z (zs.an _ _ p zb.v), fun a g p z => se_or z (zs.orr _ _ p zb.v), fun a g p z => sw_and z (zs.anT _ _ p zb.t), fun a g p z => sw_or z (zs.orT _ _ p zb.t), fun ks hn e => ?_, fun e => (by cases e), fun ks p hn e => ?_⟩
    · intro hn
      show (b.toE :: es.toEs).all notStar = true
      rw [List.all_cons, hp, zs.s hn]
      rfl
    · cases ks with
      | nil => cases e
      | cons k ks =>
        obtain ⟨k1, k2⟩ := zs.k ks hn (Nat.succ.inj e)
        exact ⟨sk_cons zb.v k1, congrArg (some k.1 :: ·) k2⟩
    · cases ks with
      | nil => cases e
      | cons k ks => exact sp_cons pe_str zb.v (zs.disp ks p hn (Nat.succ.inj e))
  | .star b bp es, Γ, X, W0, h, G => by
    obtain ⟨h1, h2⟩ := and_tt h
    have zb := CE.snd fn b Γ X W0 h1 G
    have zs := CEs.snd fn es Γ X W0 h2 G
    exact ⟨sa_star zb.v zs.a, fun hn => (by cases hn), fun _ _ _ _ => ⟨fun _ _ _ _ _ _ ⟨_, _, _, _, _, P⟩ => P.elim⟩, fun _ _ _ _ => ⟨fun _ _ _ _ _ _ ⟨_, _, _, _, _, P⟩ => P.elim⟩, fun _ _ _ _ => ⟨fun _ _ _ _ _ _ _ ⟨_, _, _, _, _, P⟩ => P.elim⟩, fun _ _ _ _ => ⟨fun _ _ _ _ _ _ _ ⟨_, _, _, _, _, P⟩ => P.elim⟩, fun _ hn _ => (by cases hn), fun e => (by cases e), fun _ _ hn _ => (by cases hn)⟩
theorem CO.snd (fn : Fn) : ∀ (o : CO) (Γ : Gam) (X : Cx) (W0 : WX), o.ok Γ = true → Good Γ fn X W0 → SI X W0 o.toO (o.evI fn) ∧ SW1 X W0 o.toL (o.evC fn)
  | .none, Γ, X, W0, h, G => ⟨si_none, st1_nil⟩
  | .some a, Γ, X, W0, h, G => ⟨si_some (CE.snd fn a Γ X W0 h G).v, st1_one (CE.snd fn a Γ X W0 h G).t⟩
theorem CI.snd (fn : Fn) : ∀ (it : CI) (Γ : Gam) (tg : CT) (X : Cx) (W0 : WX), it.ok Γ tg = true → Good Γ fn X W0 → SIt X W0 tg.toE it.toE (it.ev fn) ∧ ∀ x, foldedSetIterable it.toE X.env x = pure x
  | .val a, Γ, tg, X, W0, h, G => ⟨sit_val (CE.snd fn a Γ X W0 h G).v, plain_fold (CE.plain Γ a h) _⟩
  | .rng1 a pf p, Γ, tg, X, W0, h, G => by
    obtain ⟨h1, h2⟩ := and_tt h
    have hp := plain_star (CE.plain Γ a h2)
    exact ⟨sit_rng1 (G.gl h1) (G.blt _ (by decide +kernel)) (sa_cons (CE.snd fn a Γ X W0 h2 G).v sa_nil hp) hp, fun _ => rfl⟩
  | .rng2 a b pf p, Γ, tg, X, W0, h, G => by
    obtain ⟨h1, h⟩ := and_tt h
    obtain ⟨h2, h3⟩ := and_tt h
    have hp := plain_star (CE.plain Γ a h2)
    have hq := plain_star (CE.plain Γ b h3)
    exact ⟨sit_rng2 (G.gl h1) (G.blt _ (by decide +kernel)) (sa_cons (CE.snd fn a Γ X W0 h2 G).v (sa_cons (CE.snd fn b Γ X W0 h3 G).v sa_nil hq) hp) hp hq, fun _ => rfl⟩
  | .zip a b pf p, Γ, .tup ts k tp, X, W0, h, G => by
    simp only [CI.ok, CT.toE, isTup, Bool.true_and] at h
    obtain ⟨h1, h⟩ := and_tt h
    obtain ⟨h2, h3⟩ := and_tt h
    have hp := plain_star (CE.plain Γ a h2)
    have hq := plain_star (CE.plain Γ b h3)
    exact ⟨sit_zip (G.gl h1) (G.blt _ (by decide +kernel)) (sa_cons (CE.snd fn a Γ X W0 h2 G).v (sa_cons (CE.snd fn b Γ X W0 h3 G).v sa_nil hq) hp) hp hq, fun _ => rfl⟩
  | .zip a b pf p, Γ, .nm i x tp, X, W0, h, G => by
    simp [CI.ok, CT.toE, isTup] at h
  | .zips a b j jp kp pf p, Γ, .tup ts k tp, X, W0, h, G => by
    simp only [CI.ok, CT.toE, isTup, Bool.true_and] at h
    obtain ⟨h1, h⟩ := and_tt h
    obtain ⟨h2, h3⟩ := and_tt h
    have hp := plain_star (CE.plain Γ a h2)
    have hq := plain_star (CE.plain Γ b h3)
    exact ⟨sit_zipS (G.gl h1) (G.blt _ (by decide +kernel)) (sa_cons (CE.snd fn a Γ X W0 h2 G).v (sa_cons (CE.snd fn b Γ X W0 h3 G).v sa_nil hq) hp) hp hq, fun _ => rfl⟩
  | .zips a b j jp kp pf p, Γ, .nm i x tp, X, W0, h, G => by
    simp [CI.ok, CT.toE, isTup] at h
  | .enu a pf p, Γ, .tup ts k tp, X, W0, h, G => by
    simp only [CI.ok, CT.toE, isTup, Bool.true_and] at h
    obtain ⟨h1, h2⟩ := and_tt h
    have hp := plain_star (CE.plain Γ a h2)
    exact ⟨sit_enu (G.gl h1) (G.blt _ (by decide +kernel)) (sa_cons (CE.snd fn a Γ X W0 h2 G).v sa_nil hp) hp, fun _ => rfl⟩
  | .enu a pf p, Γ, .nm i x tp, X, W0, h, G => by
    simp [CI.ok, CT.toE, isTup] at h
end
end Ev

namespace Ev
open PySem PySem.Spec PyProof.Rows L2

/-! ### statements: the checker -/
/-- a comprehension stored on its own line: whether the store goes first -/
def lcSwap (Γ : Gam) (x : Str) (px : Pos) (sc : Scope) (p : Pos) : Bool :=
  isLocal Γ.sc x && (px.line == p.line) && !(sc.names.any fun (n, k) => n == x && (k == .local || k == .cell))
mutual
def CS.ok (Γ : Gam) : CS → Bool
  | .set i x _ e _ => decide (Γ.N[i]? = some x) && (locB Γ x && (e.ok Γ && decide (Γ.sc.kind = .function) && (match e with
    | .bad e => !isLc e
    | _ => true)))
  | .tgt t e _ => isTup t.toE && (t.ok Γ && (e.ok Γ && !isTup e.toE))
  | .par i j x y px py _ _ a b _ _ _ => decide (Γ.N[i]? = some x) && (decide (Γ.N[j]? = some y) && (decide (i ≠ j) && (isLocal Γ.sc x && (isLocal Γ.sc y && (a.ok Γ && (b.ok Γ && (decide (Γ.sc.kind = .function) && ((py.line == px.line) && (!(x == y)
    && (!([a.toE, b.toE].all (foldedForSure 8)) && !([a.toE, b.toE].all (constantsAlone 8))))))))))))
  | .par3 i j l x y z px py pz _ _ a b c _ _ _ => decide (Γ.N[i]? = some x) && (decide (Γ.N[j]? = some y) && (decide (Γ.N[l]? = some z) && (decide (i ≠ j ∧ i ≠ l ∧ j ≠ l) && (isLocal Γ.sc x && (isLocal Γ.sc y && (isLocal Γ.sc z && (a.ok Γ && (b.ok Γ && (c.ok Γ && (decide (Γ.sc.kind = .function)
    && ((py.line == px.line) && ((pz.line == px.line) && (([x, y, z].eraseDups == [x, y, z]) && (!([a.toE, b.toE, c.toE].all (foldedForSure 8)) && !([a.toE, b.toE, c.toE].all (constantsAlone 8))))))))))))))))
  | .pars ts _ _ es _ _ _ => (ts.all fun t => decide (Γ.N[t.1]? = some t.2.1) && locB Γ t.2.1) && (es.ok Γ && (decide (Γ.sc.kind = .function) && swNone Γ.sc ts es.toEs))
  | .put o i e _ _ => o.ok Γ && (i.ok Γ && e.ok Γ)
  | .fld c f o _ e _ => fldB Γ c f && (o.ok Γ && (e.ok Γ && !isLc e.toE))
  | .raise c f1 f2 a es _ _ _ => Γ.top && (glB Γ.sc c && (!(c == ("__debug__" : Str)) && ((Γ.xcs.any fun q => decide (q = (c, f1, f2))) && (a.ok Γ && (es.ok Γ && es.noStar)))))
  | .exp e _ => e.ok Γ && !isLc e.toE
  | .ret e _ => e.ok Γ
  | .retN _ => true
  | .ife c a b _ => c.ok Γ && (okSs Γ a && okSs Γ b)
  | .wh c b _ => c.ok Γ && okSs Γ b
  | .forr t it b _ => t.ok Γ && (it.ok Γ t && okSs Γ b)
  | .pass _ => true
  | .brk _ => true
  | .cont _ => true
  | .bad _ => true
def okSs (Γ : Gam) : List CS → Bool
  | [] => true
  | s :: r => s.ok Γ && okSs Γ r
end
section
theorem swap_no {e : Expr} (h : isLc e = false) (t : Option Expr) (l : Nat) (env : Env) : swapsWith e t l env = pure false := by
  cases e <;> first | rfl | cases h
theorem swap_lc {elt : Expr} {gs : List Comprehension} {sc : Scope} {p px : Pos} {x : Str} {l : Nat} {env : Env} (Γ : Gam) (hk : env.scope.kind = .function) (hs : env.scope = Γ.sc) : swapsWith (.ListComp elt gs sc p) (some (.Name x px)) l env = pure (lcSwap Γ x px sc p) := by
  have hb : env.blockKind = .function := by unfold Env.blockKind; rw [hk]; rfl
  have hx : (env.kindOf x == some .local) = isLocal Γ.sc x := by
    unfold isLocal Env.kindOf
    rw [hs]
    cases h : List.lookup x Γ.sc.names with
    | none => rfl
    | some k => cases k <;> rfl
  show pure (env.blockKind == .function && env.kindOf x == some .local && px.line == p.line && !(sc.names.any fun (n, k) => n == x && (k == .local || k == .cell))) = _
  rw [hb, hx]
  rfl
theorem store_no {ts : List Expr} {k : Nat} {pt : Pos} {e : Expr} (h : isTup e = false) (env : Env) : swappedStores [.Tuple ts k pt] e env = pure none := by
  cases e <;> first | rfl | cases h
theorem swapT_no {ts : List Expr} {k : Nat} {pt : Pos} (e : Expr) (l : Nat) (env : Env) : swapsWithSole [.Tuple ts k pt] e l env = pure false := by
  cases e <;> rfl
theorem swapI_no {o i : Expr} {pt : Pos} (e : Expr) (l : Nat) (env : Env) : swapsWithSole [.Subscript o i pt] e l env = pure false := by
  cases e <;> rfl
theorem sub_ok {o i : Expr} {p' : Pos} (h : plainE i = true) (env : Env) : ∀ v, assign (.Subscript o i p') env v = (do
      let ov ← holding [v] (eval o env)
      let iv ← holding [v, ov] (eval i env)
      standAt p'
      holding [v, ov, iv] (setItem ov iv v)
      release [v, ov, iv] []) := by
  cases i <;> first | (intro v; rfl) | cases h
end
section
variable {X : Cx} {W0 : WX}
theorem ss_raise {x f1 f2 : Str} {fI : Addr} {e : Expr} {es : List Expr} {g : Ev0 (List Vl)} {pf p ps : Pos} (hc : X.calm = true) (tk : Takes X W0) (hr : Room 3 X.A) (hsup : X.mg "super" = none) (hg : Gl X x) (hm : X.mg x = some (.ref (He.ga X.K x))) (T : RaiC X.prog X.K (He.ga X.K x) fI f1 f2) (ha : SA X W0 (e :: es) g) (hdb : (x == ("__debug__" : Str)) = false) (hs : (e :: es).all notStar = true) :
    SS X W0 (.Raise (some (.Call (.Name x pf) (e :: es) [] p)) none ps) (gsRaise x f1 f2 g) := by
  have h2 : notStar e = true ∧ es.all notStar = true := by simpa [List.all_cons] using hs
  refine PS.mono (ps_raise hc tk (pmk_sup (p := pf) (pos := p) T hr hsup hg hm ha hdb (star_one h2.1 _ _) (star_none _ _ _ h2.2))) fun D σ H h => ?_
  obtain ⟨ρ, M, W, R, S, P⟩ := h
  refine ⟨ρ, M, W, R, S, postS_bind S P fun vs H1 W1 M1 xs e1 l1 R1 r1 P1 => ?_⟩
  cases e2 : toDs M1 xs with
  | none => rw [e2] at P1; exact P1.elim
  | some q =>
    obtain ⟨ds, M2⟩ := q
    rw [e2] at P1
    obtain ⟨W2, l2, R2, d2⟩ := toDs_dp R1 r1 e2
    match ds, P1, d2 with
    | [d1, d2], P1, .cons (v := v1) q1 (.cons (v := v2) q2 .nil) =>
      refine ⟨v1, v2, rfl, fun d hd => ?_⟩
      exact P1 (.ref (He.ga X.K x)) (some d) σ _ W2 l2 (R2.grow (same_upd hd)) (S.mono (l1.trans l2)) ⟨rfl, d, _, rfl, upd_same, .cons ⟨rfl, q2⟩ (.cons ⟨rfl, q1⟩ .nil)⟩
    | [], P1, _ => exact P1.elim
    | [_], P1, _ => exact P1.elim
    | _ :: _ :: _ :: _, P1, _ => exact P1.elim
end
mutual
theorem CS.snd (fn : Fn) : ∀ (s : CS) (Γ : Gam) (X : Cx) (W0 : WX), s.ok Γ = true → Good Γ fn X W0 → PassesOwn (model X.prog X.w) X.A X.env X.xe → SS X W0 s.toS (s.ev fn)
  | .set i x px e p, Γ, X, W0, h, G, hp => by
    obtain ⟨h1, h⟩ := and_tt h
    obtain ⟨h2, h⟩ := and_tt h
    obtain ⟨h3, h5⟩ := and_tt h
    obtain ⟨h3, h4⟩ := and_tt h3
    have h4 : X.env.scope.kind = .function := by rw [G.sc]; exact of_decide_eq_true h4
    have ze := (CE.snd fn e Γ X W0 h3 G).v
    have hl := G.loc h2
    cases e with
    | bad e0 => exact ss_set G.nd (G.at h1) hl.1 ze (swap_no (not_true h5) _ _ _) hl.2
    | lc mu elt tg it c sc own lp =>
      cases hsw : lcSwap Γ x px sc lp with
      | false => exact ss_set G.nd (G.at h1) hl.1 ze (by rw [← hsw]; exact swap_lc Γ h4 G.sc) hl.2
      | true =>
        have hx : isLocal Γ.sc x = true := by
          unfold lcSwap at hsw
          exact (and_tt (and_tt hsw).1).1
        obtain ⟨g1, h⟩ := and_tt h3
        obtain ⟨g2, h⟩ := and_tt h
        obtain ⟨g3, h⟩ := and_tt h
        obtain ⟨g4, h⟩ := and_tt h
        obtain ⟨g5, g6⟩ := and_tt h
        have bo : BlkOk X.N X.env.scope sc own := by rw [G.N, G.sc]; exact blkOk_by g1
        exact ss_setLc mu G.calm G.nd (G.at h1) (by rw [G.sc]; exact of_decide_eq_true hx) (by rw [← hsw]; exact swap_lc Γ h4 G.sc) (CI.snd fn it Γ tg X W0 g4 G).1 bo (slots_ok g2) (fun s H C cl fp => CT.snd (G.blk sc s H C cl fp) tg g3) (fun s H C cl fp => (CO.snd fn c _ _ _ g5 (G.blk sc s H C cl fp)).2) (fun s H C cl fp => (CE.snd fn elt _ _ _ g6 (G.blk sc s H C cl fp)).v) (CI.snd fn it Γ tg X W0 g4 G).2
    | isN neg a j pn p => exact ss_set G.nd (G.at h1) hl.1 ze (swap_no rfl _ _ _) hl.2
    | _ => exact ss_set G.nd (G.at h1) hl.1 ze (swap_no rfl _ _ _) hl.2
  | .tgt (.nm i x px) e p, Γ, X, W0, h, G, hp => by simp [CS.ok, CT.toE, isTup] at h
  | .tgt (.tup ts k pt) e p, Γ, X, W0, h, G, hp => by
    simp only [CS.ok] at h
    obtain ⟨_, h⟩ := and_tt h
    obtain ⟨h1, h⟩ := and_tt (a := (CT.tup ts k pt).ok Γ) (b := e.ok Γ && !isTup e.toE) h
    obtain ⟨h2, h3⟩ := and_tt h
    exact ss_tgt (CE.snd fn e Γ X W0 h2 G).v (CT.snd G (.tup ts k pt) h1) (swapT_no _ _ _) (store_no (not_true h3) _) rfl
  | .par i j x y px py kt pt a b k2 p2 p, Γ, X, W0, h, G, hp => by
    obtain ⟨h1, h⟩ := and_tt h
    obtain ⟨h2, h⟩ := and_tt h
    obtain ⟨h3, h⟩ := and_tt h
    obtain ⟨h4, h⟩ := and_tt h
    obtain ⟨h5, h⟩ := and_tt h
    obtain ⟨h6, h⟩ := and_tt h
    obtain ⟨h7, h⟩ := and_tt h
    obtain ⟨h8, h⟩ := and_tt h
    obtain ⟨h9, h⟩ := and_tt h
    obtain ⟨h10, h⟩ := and_tt h
    obtain ⟨h11, h12⟩ := and_tt h
    have ka := plain_star (CE.plain Γ a h6)
    have kb := plain_star (CE.plain Γ b h7)
    have hx : X.env.scope.names.lookup x = some .local := by rw [G.sc]; exact of_decide_eq_true h4
    have hy : X.env.scope.names.lookup y = some .local := by rw [G.sc]; exact of_decide_eq_true h5
    have hk : X.env.scope.kind = .function := by rw [G.sc]; exact of_decide_eq_true h8
    exact ss_par G.calm G.nd (G.at h1) (G.at h2) (of_decide_eq_true h3) hx hy (sa_cons (CE.snd fn a Γ X W0 h6 G).v (sa_cons (CE.snd fn b Γ X W0 h7 G).v sa_nil kb) ka)
      (sw_par hk hx hy h9 (not_true h10) (by rw [List.all_cons, List.all_cons, ka, kb]; rfl) (not_true h11) (not_true h12))
  | .par3 i j l x y z px py pz kt pt a b c k2 p2 p, Γ, X, W0, h, G, hp => by
    obtain ⟨h1, h⟩ := and_tt h
    obtain ⟨h2, h⟩ := and_tt h
    obtain ⟨h3, h⟩ := and_tt h
    obtain ⟨h4, h⟩ := and_tt h
    obtain ⟨h5, h⟩ := and_tt h
    obtain ⟨h6, h⟩ := and_tt h
    obtain ⟨h7, h⟩ := and_tt h
    obtain ⟨h8, h⟩ := and_tt h
    obtain ⟨h9, h⟩ := and_tt h
    obtain ⟨h10, h⟩ := and_tt h
    obtain ⟨h11, h⟩ := and_tt h
    obtain ⟨h12, h⟩ := and_tt h
    obtain ⟨h13, h⟩ := and_tt h
    obtain ⟨h14, h⟩ := and_tt h
    obtain ⟨h15, h16⟩ := and_tt h
    obtain ⟨n1, n2, n3⟩ := of_decide_eq_true h4
    have ka := plain_star (CE.plain Γ a h8)
    have kb := plain_star (CE.plain Γ b h9)
    have kc := plain_star (CE.plain Γ c h10)
    have hx : X.env.scope.names.lookup x = some .local := by rw [G.sc]; exact of_decide_eq_true h5
    have hy : X.env.scope.names.lookup y = some .local := by rw [G.sc]; exact of_decide_eq_true h6
    have hz : X.env.scope.names.lookup z = some .local := by rw [G.sc]; exact of_decide_eq_true h7
    have hk : X.env.scope.kind = .function := by rw [G.sc]; exact of_decide_eq_true h11
    exact ss_par3 G.calm G.nd (G.at h1) (G.at h2) (G.at h3) n1 n2 n3 hx hy hz (sa_cons (CE.snd fn a Γ X W0 h8 G).v (sa_cons (CE.snd fn b Γ X W0 h9 G).v (sa_cons (CE.snd fn c Γ X W0 h10 G).v sa_nil kc) kb) ka)
      (sw_par3 hk hx hy hz h12 h13 h14 (by rw [List.all_cons, List.all_cons, List.all_cons, ka, kb, kc]; rfl) (not_true h15) (not_true h16))
  | .pars ts kt pt es k2 p2 p, Γ, X, W0, h, G, hp => by
    obtain ⟨h1, h⟩ := and_tt h
    obtain ⟨h2, h⟩ := and_tt h
    obtain ⟨h3, h4⟩ := and_tt h
    have hk : X.env.scope.kind = .function := by rw [G.sc]; exact of_decide_eq_true h3
    refine ss_pars G.calm G.nd (fun t ht => ?_) (CEs.snd fn es Γ X W0 h2 G).a (sw_none G.sc hk h4)
    obtain ⟨g1, g2⟩ := and_tt (List.all_eq_true.mp h1 t ht)
    exact ⟨G.at g1, (G.loc g2).1, (G.loc g2).2⟩
  | .put o i e ps p, Γ, X, W0, h, G, hp => by
    obtain ⟨h1, h⟩ := and_tt h
    obtain ⟨h2, h3⟩ := and_tt h
    have hu := G.un
    exact ss_put (by omega) (CE.snd fn o Γ X W0 h1 G).v (CE.snd fn i Γ X W0 h2 G).v (CE.snd fn e Γ X W0 h3 G).v (swapI_no _ _ _) (sub_ok (CE.plain Γ i h2) _)
  | .fld c f o p' e p, Γ, X, W0, h, G, hp => by
    obtain ⟨h1, h⟩ := and_tt h
    obtain ⟨h2, h⟩ := and_tt h
    obtain ⟨h3, h4⟩ := and_tt h
    obtain ⟨k1, k2⟩ := fld_at G h1
    exact ss_fld k1 k2 (CE.snd fn o Γ X W0 h2 G).v (CE.snd fn e Γ X W0 h3 G).v (swap_no (not_true h4) _ _ _)
  | .raise c f1 f2 a es pf p ps, Γ, X, W0, h, G, hp => by
    obtain ⟨h1, h⟩ := and_tt h
    obtain ⟨h2, h⟩ := and_tt h
    obtain ⟨h3, h⟩ := and_tt h
    obtain ⟨h4, h⟩ := and_tt h
    obtain ⟨h5, h⟩ := and_tt h
    obtain ⟨h6, hns⟩ := and_tt h
    obtain ⟨q, hq, eq⟩ := List.any_eq_true.mp h4
    have eq := of_decide_eq_true eq
    subst eq
    obtain ⟨fI, k1, k2⟩ := G.xcs _ hq
    have hpl := plain_star (CE.plain Γ a h5)
    have zs := CEs.snd fn es Γ X W0 h6 G
    exact ss_raise G.calm G.tk (G.top h1) (G.blt _ (by decide +kernel)) (G.gl h2) k1 k2 (sa_cons (CE.snd fn a Γ X W0 h5 G).v zs.a hpl) (not_true h3) (by rw [List.all_cons, hpl, zs.s hns]; rfl)
  | .exp e p, Γ, X, W0, h, G, hp => by
    obtain ⟨h1, h2⟩ := and_tt h
    exact ss_expr (CE.snd fn e Γ X W0 h1 G).v (swap_no (not_true h2) _ _ _)
  | .ret e p, Γ, X, W0, h, G, hp => ss_ret (CE.snd fn e Γ X W0 h G).v
  | .retN p, Γ, X, W0, h, G, hp => ss_retN
  | .ife c a b p, Γ, X, W0, h, G, hp => by
    obtain ⟨h1, h⟩ := and_tt h
    obtain ⟨h2, h3⟩ := and_tt h
    exact ss_if (CE.snd fn c Γ X W0 h1 G).t (sss_snd fn a Γ X W0 h2 G hp) (sss_snd fn b Γ X W0 h3 G hp)
  | .wh c b p, Γ, X, W0, h, G, hp => by
    obtain ⟨h1, h2⟩ := and_tt h
    exact ss_while hp (CE.snd fn c Γ X W0 h1 G).t (sss_snd fn b Γ X W0 h2 G hp)
  | .forr t it b p, Γ, X, W0, h, G, hp => by
    obtain ⟨h1, h⟩ := and_tt h
    obtain ⟨h2, h3⟩ := and_tt h
    have zi := CI.snd fn it Γ t X W0 h2 G
    exact ss_for hp G.calm zi.1 (CT.snd G t h1) (sss_snd fn b Γ X W0 h3 G hp) zi.2
  | .pass p, Γ, X, W0, h, G, hp => ss_pass
  | .brk p, Γ, X, W0, h, G, hp => ss_brk
  | .cont p, Γ, X, W0, h, G, hp => ss_cont
  | .bad st, Γ, X, W0, h, G, hp => ss_bad
theorem sss_snd (fn : Fn) : ∀ (l : List CS) (Γ : Gam) (X : Cx) (W0 : WX), okSs Γ l = true → Good Γ fn X W0 → PassesOwn (model X.prog X.w) X.A X.env X.xe → SSs X W0 (toSs l) (evSs fn l)
  | [], Γ, X, W0, h, G, hp => sss_nil
  | s :: l, Γ, X, W0, h, G, hp => by
    obtain ⟨h1, h2⟩ := and_tt h
    exact sss_cons (CS.snd fn s Γ X W0 h1 G hp) (sss_snd fn l Γ X W0 h2 G hp)
end

/-! ### defs -/
structure FnS where
  x : Str
  ps : List Str
  N : List Str
  sc : Scope
  body : List CS
  keep : Bool
  kws : List (Nat × List Str × List Nat) := []
  pl : FnP := .top
  lam : Bool := false
def startR (N : List Str) (xs : List Vl) : Rho := xs.map some ++ List.replicate (N.length - xs.length) none
/-- what a def hands back: its own cells are forgotten, but for a dict (a list, where keep says so) -/
def finV (keep : Bool) (k : Nat) (M : Sto) : Vl → Out Vl
  | .d x => .ok (.d x) (M.take k)
  | .ref n => if n < k then .ok (.ref n) (M.take k) else match M[n]? with
    | some (.lst xs) => if keep then .ok (.ref k) (M.take k ++ [.lst xs]) else .ok (.d (.list xs)) (M.take k)
    | some (.frz x) => .ok (.d x) (M.take k)
    | some (.dct kvs) => .ok (.ref k) (M.take k ++ [.dct kvs])
    | some (.ins c fs) => .ok (.ref k) (M.take k ++ [.ins c fs])
    | none => .bad
  | .adr _ _ => .bad
def finR (keep : Bool) (k : Nat) : OutS → Out Vl
  | .nx _ M => .ok (.d .none) (M.take k)
  | .rt v M => finV keep k M v
  | .exc x _ M => .exc x (M.take k)
  | _ => .bad
def runF (F : FnS) (fn : Fn) : Op1 := fun xs M => if xs.length = F.ps.length then finR F.keep M.length (evSs fn F.body (startR F.N xs) M) else .bad
def run (tab : List FnS) : Nat → Nat → Op1
  | 0 => fun j => match tab[j]? with
    | some F => runF F none
    | none => fun _ _ => .bad
  | n + 1 => fun j => match tab[j]? with
    | some F => runF F (some (run tab n))
    | none => fun _ _ => .bad
def gamOf (gl : List (Str × PyData)) (cls : List (Str × List Str)) (xcs : List (Str × Str × Str)) (out : Option Str) (tab : List FnS) (F : FnS) : Gam where
  N := F.N
  sc := F.sc
  fb := true
  fns := fun j => match tab[j]? with
    | some F => if F.pl = .top then some (F.x, F.ps.length) else none
    | none => none
  glo := fun x => gl.lookup x
  kwf := fun j => match tab[j]? with
    | some F => F.kws
    | none => []
  mts := fun j => match tab[j]? with
    | some F => some (F.pl, F.x, F.ps.length)
    | none => none
  cls := cls
  xcs := xcs
  out := out
  lam := F.lam
  top := true
section
variable {K : PySem.W.Frag} {W W' : Wd} {H : Hp} {M M' : Sto}
theorem le_cut (l : W.le W') : W.le ⟨W'.Z, W'.μ.take W.μ.length⟩ := by
  obtain ⟨s, ν, e⟩ := l
  refine ⟨s, [], ?_⟩
  show W'.μ.take W.μ.length = W.μ ++ []
  rw [e, List.append_nil, List.take_left]
/-- one cell of the last ones is kept -/
theorem RelM.keep (R : RelM K W' H M') (k n : Nat) (hk : k ≤ n) {a : Addr} {c : Cell} (ha : W'.μ[n]? = some a) (hc : M'[n]? = some c) : RelM K ⟨W'.Z, W'.μ.take k ++ [a]⟩ H (M'.take k ++ [c]) := by
  have hn := (List.getElem?_eq_some_iff.mp hc).1
  have hna : a ∉ W'.μ.take k := fun h => by
    obtain ⟨i, hi⟩ := List.getElem?_of_mem h
    have hik : i < k := by
      have := (List.getElem?_eq_some_iff.mp hi).1
      rw [List.length_take] at this
      omega
    rw [List.getElem?_take_of_lt hik] at hi
    obtain ⟨p1, q1⟩ := List.getElem?_eq_some_iff.mp ha
    obtain ⟨p2, q2⟩ := List.getElem?_eq_some_iff.mp hi
    have := (List.getElem_inj R.nd).mp (q1.trans q2.symm)
    omega
  refine ⟨R.ntb, R.tab, R.sub, by simp [R.len], ?_, fun m b d h1 h2 => ?_⟩
  · show (W'.μ.take k ++ [a]).Nodup
    rw [List.nodup_append]
    refine ⟨R.nd.sublist (List.take_sublist _ _), by simp, fun x hx y hy => ?_⟩
    have : y = a := by simpa using hy
    rw [this]
    exact fun z => hna (z ▸ hx)
  · have h1 : (W'.μ.take k ++ [a])[m]? = some b := h1
    have hl : (W'.μ.take k).length = (M'.take k).length := by rw [List.length_take, List.length_take, R.len]
    by_cases hm : m < (M'.take k).length
    · rw [List.getElem?_append_left (by rw [hl]; exact hm)] at h1
      rw [List.getElem?_append_left hm] at h2
      have hmk : m < k := by rw [List.length_take] at hm; omega
      rw [List.getElem?_take_of_lt hmk] at h1 h2
      exact R.cell m b d h1 h2
    · have hm2 : m < (M'.take k ++ [c]).length := (List.getElem?_eq_some_iff.mp h2).1
      have em : m = (M'.take k).length := by rw [List.length_append, List.length_singleton] at hm2; omega
      subst em
      rw [← hl, List.getElem?_append_right (Nat.le_refl _), Nat.sub_self] at h1
      rw [List.getElem?_append_right (Nat.le_refl _), Nat.sub_self] at h2
      cases h1
      cases h2
      exact R.cell n a c ha hc
theorem le_keep (l : W.le W') {a : Addr} : W.le ⟨W'.Z, W'.μ.take W.μ.length ++ [a]⟩ := by
  obtain ⟨s, ν, e⟩ := l
  refine ⟨s, [a], ?_⟩
  show W'.μ.take W.μ.length ++ [a] = W.μ ++ [a]
  rw [e, List.take_left]
theorem start_rel {N : List Str} {vs : List V} {xs : List Vl} (r : VlsR K W vs xs) : SltR K W (start N vs) (startR N xs) := by
  refine ⟨by simp [L2.start, startR, r.length], fun i x e => ?_⟩
  unfold startR at e
  by_cases hi : i < xs.length
  · rw [List.getElem?_append_left (by simpa using hi), List.getElem?_map] at e
    cases e2 : xs[i]? with
    | none => rw [e2] at e; cases e
    | some y =>
      rw [e2] at e
      cases e
      obtain ⟨v, h1, h2⟩ := r.get e2
      refine ⟨v, ?_, h2⟩
      unfold L2.start
      rw [List.getElem?_append_left (by rw [List.length_map, r.length]; exact hi), List.getElem?_map, h1]
      rfl
  · rw [List.getElem?_append_right (by simpa using Nat.le_of_not_lt hi), List.getElem?_replicate] at e
    split at e <;> cases e
theorem fin_post {E : XK} {σ : L2.St} {o : OutS} {keep : Bool} {Q : VK} (hl : W.μ.length = M.length) (P : Post (VlR K) K (fun c d _ H => E c d H) W σ (finR keep M.length o) Q) : PostS K (fun c d _ H => E c d H) W o { nx := fun _ H' => Q .non H', rt := Q } := by
  cases o with
  | bad => exact P.elim
  | bk _ _ => exact P.elim
  | ct _ _ => exact P.elim
  | nx ρ M1 =>
    intro σ' H' W' l R S
    exact P .non H' _ (le_cut l) (by rw [hl]; exact R.trunc _) .non
  | exc x ρ M1 =>
    intro c d σ' H' W' l R S z
    exact P c d H' _ (le_cut l) (by rw [hl]; exact R.trunc _) z
  | rt v M1 =>
    intro u H' W' l R r
    cases v with
    | d x => exact P u H' _ (le_cut l) (by rw [hl]; exact R.trunc _) r
    | adr _ _ => exact P.elim
    | ref n =>
      have P : Post (VlR K) K (fun c d _ H => E c d H) W σ (finV keep M.length M1 (.ref n)) Q := P
      simp only [finV] at P
      obtain ⟨a, rfl, ha⟩ := r
      by_cases hn : n < M.length
      · rw [if_pos hn] at P
        refine P _ H' _ (le_cut l) (by rw [hl]; exact R.trunc _) ⟨a, rfl, ?_⟩
        show (W'.μ.take W.μ.length)[n]? = some a
        rw [List.getElem?_take_of_lt (by rw [hl]; exact hn)]
        exact ha
      · rw [if_neg hn] at P
        have hk := Nat.le_of_not_lt hn
        have hat : ∀ (q : List Addr), (W'.μ.take W.μ.length ++ [a])[M.length]? = some a := fun _ => by
          have hlt : (W'.μ.take W.μ.length).length = M.length := by
            rw [List.length_take, hl]
            have := (List.getElem?_eq_some_iff.mp ha).1
            omega
          rw [← hlt, List.getElem?_append_right (Nat.le_refl _), Nat.sub_self]
          rfl
        cases e : M1[n]? with
        | none => simp only [e] at P; exact P.elim
        | some c =>
          simp only [e] at P
          cases c with
          | dct kvs => exact P _ H' _ (le_keep l) (by rw [hl]; exact R.keep _ n hk ha e) ⟨a, rfl, hat []⟩
          | ins c fs => exact P _ H' _ (le_keep l) (by rw [hl]; exact R.keep _ n hk ha e) ⟨a, rfl, hat []⟩
          | frz x =>
            obtain ⟨_, hd⟩ := R.cell n a _ ha e
            exact P _ H' _ (le_cut l) (by rw [hl]; exact R.trunc _) hd
          | lst xs =>
            cases keep with
            | true => exact P _ H' _ (le_keep l) (by rw [hl]; exact R.keep _ n hk ha e) ⟨a, rfl, hat []⟩
            | false =>
              obtain ⟨W2, l2, R2, d2⟩ := R.freeze ha e
              have em : (M1.set n (.frz (.list xs))).take M.length = M1.take M.length := by rw [List.take_set_of_le hk]
              refine P _ H' _ (le_cut (l.trans l2)) ?_ d2
              rw [← em, hl]
              exact R2.trunc _
end
/-- a def of the table, as it stands behind the top -/
structure DefOk (K : PySem.W.Frag) (mg : Str → Option Value) (F : FnS) : Prop where
  fd : ∃ f fd nm qual params kws, WhereP K mg F.pl F.x f ∧ FunD K nm qual params (toSs F.body) F.sc [] kws f fd ∧ Binds K fd F.ps [] ∧ (∀ q ∈ F.kws, KwB K fd F.ps q) ∧ (F.lam = true → ∃ c P, fd.code = .ref c ∧ (c, P, qual ++ ".<locals>." ++ "<lambda>") ∈ tabs3 K)
  sc : FnScope F.N F.ps F.sc
section
variable {P : Program} {w : World} {K : PySem.W.Frag} {mg : Str → Option Value} {base : Heap} {tab : List FnS} {gl : List (Str × PyData)}
/-- the module's constants -/
def GloOk (mg : Str → Option Value) (gl : List (Str × PyData)) : Prop := ∀ x d, gl.lookup x = some d → (∃ i, d = .int i ∧ ∃ t, mg x = some (.int i t)) ∨ ∃ z, d = .str z ∧ ∃ t, mg x = some (.str z t)
theorem tab_ok {cls : List (Str × List Str)} {xcs : List (Str × Str × Str)} {out : Option Str} (hd : ∀ F ∈ tab, DefOk K mg F) (hok : ∀ F ∈ tab, okSs (gamOf gl cls xcs out tab F) F.body = true) (hgl : GloOk mg gl) (hb : ∀ x ∈ bltNames, mg x = none) (hcl : ∀ q ∈ cls, ClsAt K mg q) (hxc : ∀ q ∈ xcs, ∃ fI, mg q.1 = some (.ref (He.ga K q.1)) ∧ RaiC P K (He.ga K q.1) fI q.2.1 q.2.2) (hout : ∀ x, out = some x → OutAt K mg x) (hun : ∀ q ∈ tabsF K, ∀ q' ∈ tabsF K, q.1 = q'.1 → q.2 = q'.2) (hTB : ∀ q ∈ tabs3 K, LamX.TabB base mg q.1 q.2.1) : ∀ n j F, tab[j]? = some F → (∃ f fd, (∃ nm qual params kws, FunD K nm qual params (toSs F.body) F.sc [] kws f fd) ∧ FnAtP P w K mg base (4 * n + 4) F.pl F.x F.ps F.kws (run tab n j) f fd) := by
  have step : ∀ (n : Nat) (fn : Fn) (F : FnS), F ∈ tab → (∀ r, fn = some r → ∀ j G, tab[j]? = some G → FnAt P w K mg base (4 * n) G.pl G.x G.ps.length G.kws (r j)) → (∃ f fd, (∃ nm qual params kws, FunD K nm qual params (toSs F.body) F.sc [] kws f fd) ∧ FnAtP P w K mg base (4 * n + 4) F.pl F.x F.ps F.kws (runF F fn) f fd) := by
    intro n fn F hF hc
    have D := hd F hF
    obtain ⟨f, fd, nm, qual, params, kws, h1, h2, h3, h4, h5⟩ := D.fd
    refine ⟨f, fd, ⟨nm, qual, params, kws, h2⟩, h1, h2.kp, h3, h4, fnG_of h2 D.sc (fun vs H Q E h => h.1) fun cdv A outer s H vs Q E hcdv room hgd hsp => ?_⟩
    obtain ⟨hlen, W, M, σ, xs, R, r, Pp⟩ := hsp
    have G : Good (gamOf gl cls xcs out tab F) fn (cxOf (L2.CX P w) P w K mg base F.N qual F.sc f cdv A outer s H E) (fun c d _ H => E c d H) := {
      N := rfl
      nd := D.sc.nd
      sc := rfl
      fb := fun _ _ => rfl
      calm := rfl
      un := by have := room.un; show (A.deeper _).units + 65 < cLine; omega
      gd := hgd
      gv := hgl
      blt := hb
      tk := takes_of rfl rfl rfl rfl
      calls := fun r hr => ⟨4 * n, room.mono (by omega), fun _ => room.mono (by omega), fun j x k hj => by
        simp only [gamOf] at hj
        cases e2 : tab[j]? with
        | none => rw [e2] at hj; cases hj
        | some G2 =>
          rw [e2] at hj
          simp only at hj
          by_cases hp : G2.pl = .top
          · rw [if_pos hp] at hj
            cases hj
            have h := hc r hr j G2 e2
            rw [hp] at h
            have ek : (gamOf gl cls xcs out tab F).kwf j = G2.kws := by simp only [gamOf, e2]
            rw [ek]
            exact h
          · rw [if_neg hp] at hj
            cases hj⟩
      mths := fun r hr => ⟨4 * n, room.mono (by omega), fun _ => room, fun j pl x k hj => by
        simp only [gamOf] at hj
        cases e2 : tab[j]? with
        | none => rw [e2] at hj; cases hj
        | some G2 =>
          rw [e2] at hj
          cases hj
          have ek : (gamOf gl cls xcs out tab F).kwf j = G2.kws := by simp only [gamOf, e2]
          rw [ek]
          exact hc r hr j G2 e2⟩
      cls := hcl
      xcs := hxc
      out := hout
      hun := hun
      lam := fun hl => by
        obtain ⟨c, P, e1, e2⟩ := h5 hl
        have hm : (P, qual ++ ".<locals>." ++ "<lambda>") ∈ tabsF K := List.mem_map.mpr ⟨_, e2, rfl⟩
        exact ⟨c, P, by show cdv = .ref c; rw [← hcdv]; exact e1, hm, hTB _ e2⟩
      top := fun _ => room.mono (by omega) }
    refine ⟨_, sss_snd fn F.body (gamOf gl cls xcs out tab F) _ _ (hok F hF) G (passes_of rfl), startR F.N xs, M, W, R, start_rel r, ?_⟩
    have Pp : Post (VlR K) K (fun c d _ H => E c d H) W σ (runF F fn xs M) Q := Pp
    unfold runF at Pp
    obtain ⟨_, P2⟩ := if_post Pp
    exact fin_post R.len P2
  have mem : ∀ j F, tab[j]? = some F → F ∈ tab := fun j F h => List.mem_of_getElem? h
  intro n
  induction n with
  | zero =>
    intro j F hj
    have e : run tab 0 j = runF F none := by simp only [run, hj]
    rw [e]
    exact step 0 none F (mem j F hj) fun r hr => by cases hr
  | succ n ih =>
    intro j F hj
    have e : run tab (n + 1) j = runF F (some (run tab n)) := by simp only [run, hj]
    rw [e]
    refine step (n + 1) (some (run tab n)) F (mem j F hj) fun r hr i G hi => ?_
    cases hr
    obtain ⟨f, fd, _, h⟩ := ih i G hi
    exact ⟨f, fd, G.ps, rfl, h⟩
end
end Ev

namespace Ev
open PySem PySem.Spec PyProof.Rows L2

/-! ### the law's def, called on the script, where tables of code objects may grow -/
def tabT (K : PySem.W.Frag) : List Addr := (tabs3 K).map fun p => p.2.1
/-- what is known of the tables at the law's call -/
structure TabH (K : PySem.W.Frag) (h : Heap) : Prop where
  emp : ∀ p ∈ tabs3 K, h.get? p.2.1 = some (PySem.W.tabObj #[])
  out : ∀ p ∈ tabs3 K, K.lookup p.2.1 = none
  hd : ∀ p ∈ tabs3 K, PySem.W.CodeHd h p.1 p.2.1
/-- H tracks nothing but the script and the tables -/
structure TrA (P : Program) (w : World) (K : PySem.W.Frag) (s : Shared) (a : Addr) (H : Hp) : Prop where
  at_ : ∀ b, H b ≠ none → b = a ∨ b ∈ tabT K
  tb : ∀ b ∈ tabT K, H b = some (.tbl #[])
  fz : ∀ u, H a = some u → ∃ ob xs, u = .frz ob (.lst xs)
  hok : HOk P w H s.heap
  noK : H a ≠ none → K.lookup a = none
section
variable {P : Program} {w : World} {K : PySem.W.Frag} {mg mb : Str → Option Value} {CX : CXT} {k : Nat} {fa a : Addr} {fd : FuncData} {x : Str} {sp : Sp} {s : Shared} {vs : List Value} {ns : List Int}
theorem TabH.at (T : TabH K s.heap) {b : Addr} (h : b ∈ tabT K) : s.heap.get? b = some (PySem.W.tabObj #[]) := by
  obtain ⟨p, hp, rfl⟩ := List.mem_map.mp h
  exact T.emp p hp
theorem answerT_of (T : TabH K s.heap) (KX : K.In s.heap) (hns : s.heap.Ns mainGlobals mg) (hb : s.heap.Ns builtinsNs mb) (hbb : ∀ x : Str, x ≠ "__name__" → mb x = bootBuiltins x) (hlim : s.heap.NoLimit) (hg : s.gens = #[])
    (hbm : ∃ (bm : Addr) (ob : Obj), mg "__builtins__" = some (.ref bm) ∧ bm ≠ builtinsNs ∧ s.heap.get? bm = some ob ∧ ob.cls = .type "module" ∧ ob.dict = some builtinsNs ∧ ob.data = .plain)
    (ha : s.heap.get? a = some { cls := .type "list", data := .seq vs.toArray }) (hr : Room k callerA)
    (F : ∀ base : Heap, K.In base → base.Ns mainGlobals mg → (∀ p ∈ tabs3 K, LamX.TabB base mg p.1 p.2.1) → FnG P w K mg base CX k fa fd [x] sp)
    (hbind : ∀ (s : Shared) (u : Value), BindsTo s fd ⟨[u], []⟩ [(x, u)])
    (hCX : ∀ H e s', CX [] H s (fun _ _ _ => False) e s' → False) {H : Hp} (O : TrA P w K s a H)
    (hsp : sp [.ref a] H (fun v _ => v = .bl true) fun _ _ _ => False) : codeAny (model P w) callerA (.call (.ref fa) ⟨[.ref a], []⟩) (Answers s) s := by
  -- an object is not tracked unless it is the script or a table
  have free : ∀ {b : Addr} {o : Obj}, s.heap.get? b = some o → (∀ its n, o.data ≠ .seq its n) → o ≠ PySem.W.tabObj #[] → H b = none := by
    intro b o e h1 h2
    cases q : H b with
    | none => rfl
    | some u =>
      rcases O.at_ b (by rw [q]; exact Option.some_ne_none u) with rfl | hb
      · rw [ha] at e
        cases e
        exact absurd rfl (h1 _ _)
      · rw [T.at hb] at e
        exact absurd (Option.some.inj e).symm h2
  have freeD : ∀ {b : Addr} {o : Obj} {es : Array DictEntry} {ep : Nat}, s.heap.get? b = some o → o.data = .dict es ep → H b = none := fun {b o es ep} e d => free e (fun its n z => by rw [d] at z; cases z) (fun z => by rw [z] at d; cases d)
  have ns' : ∀ {b : Addr} {m : Str → Option Value}, s.heap.Ns b m → (hidT s.heap H).Ns b m := by
    rintro b m ⟨o, es, ep, e, d, r⟩
    exact ⟨o, es, ep, hidT_get e (freeD e d), d, r⟩
  have KI : K.In (hidT s.heap H) := fun b o e => hidT_get (KX b o e) (by
    cases q : H b with
    | none => rfl
    | some u =>
      rcases O.at_ b (by rw [q]; exact Option.some_ne_none u) with rfl | hb
      · rw [O.noK (by rw [q]; exact Option.some_ne_none u)] at e
        cases e
      · obtain ⟨p, hp, rfl⟩ := List.mem_map.mp hb
        rw [T.out p hp] at e
        cases e)
  obtain ⟨mc, l1, l2⟩ := hlim
  have M : Mod K mg (hidT s.heap H) := ⟨KI, ns' hns, ⟨mb, ns' hb, hbb⟩, mc, ns' l1, l2⟩
  have TB : ∀ p ∈ tabs3 K, LamX.TabB (hidT s.heap H) mg p.1 p.2.1 := fun p hp => by
    refine ⟨?_, ?_, fun z => ?_⟩
    · obtain ⟨o, us, file, tf, flags, tg, inF, text, tt, e1, r1, r2, r3, r4⟩ := T.hd p hp
      exact ⟨o, us, file, tf, flags, tg, inF, text, tt, hidT_get e1 (free e1 (fun its n z => by rw [r2] at z; cases z) (fun z => by rw [z] at r1; cases r1)), r1, r2, r3, r4⟩
    · obtain ⟨bm, ob, b1, b2, b3, b4, b5, b6⟩ := hbm
      have hf : H bm = none := free b3 (fun its n z => by rw [b6] at z; cases z) (fun z => by rw [z] at b6; cases b6)
      refine ⟨bm, ob, b1, b2, fun q => ?_, fun q => ?_, hidT_get b3 hf, b4, b5, b6⟩
      · obtain ⟨o, es, ep, e, d, _⟩ := hns
        rw [q, e] at b3
        cases b3
        rw [d] at b6
        cases b6
      · rw [q, T.emp p hp] at b3
        cases b3
        cases b6
    · obtain ⟨o, es, ep, e, d, _⟩ := hns
      rw [z, T.emp p hp] at e
      cases e
      cases d
  have e0 : Env0 P w K mg (hidT s.heap H) callerA [] s H := ⟨rfl, M, fun b o e => of_hidT e, Nat.le_of_eq (hidT_size _ _), trivial, fun b hb => (by cases hb), O.hok, .of_eq hg⟩
  have run := (F _ KI (ns' hns) TB).run callerA [] s H ⟨[.ref a], []⟩ [.ref a] [.ref a] _ _ hr rfl e0 (hbind s (.ref a)) (.cons rfl .nil) hsp
  refine codeAny_mono run fun r s' h => ?_
  cases r with
  | error e => exact (hCX H e s' h).elim
  | ok fl =>
    cases fl with
    | next => exact h.elim
    | brk => exact h.elim
    | cont => exact h.elim
    | ret u =>
      obtain ⟨v, H', os, bare, un, hok', r', q⟩ := h
      obtain rfl : v = .bl true := q
      obtain rfl : u = Value.bool true := r'
      have kept : ∀ b o, b ∉ tabT K → s.heap.get? b = some o → s'.heap.get? b = some o := fun b o nb e => by
        cases z : H b with
        | none => exact un.keep b o e z (fun y => by cases y) (fun y => by cases y)
        | some u =>
          rcases O.at_ b (by rw [z]; exact Option.some_ne_none u) with rfl | hb
          · obtain ⟨ob, xs, rfl⟩ := O.fz u z
            have t1 := (O.hok b _ z).1
            have t2 := (hok' b _ (un.frzs b ob _ z)).1
            rw [e] at t1
            cases t1
            exact t2
          · exact absurd hb nb
      have grown : ∀ p ∈ tabs3 K, ∃ more : Array Value, s'.heap.get? p.2.1 = some (PySem.W.tabObj more) := fun p hp => by
        obtain ⟨more, z⟩ := un.tbls p.2.1 #[] (O.tb _ (List.mem_map.mpr ⟨p, hp, rfl⟩))
        exact ⟨_, hok' p.2.1 _ z⟩
      refine ⟨rfl, ⟨fun b o e => ?_, fun b o e => ?_⟩, os, bare⟩
      · by_cases hb : b ∈ tabT K
        · obtain ⟨p, hp, rfl⟩ := List.mem_map.mp hb
          obtain ⟨more, hm⟩ := grown p hp
          have e' := T.emp p hp
          rw [e'] at e
          cases e
          exact .inr (.inl ⟨((T.hd p hp).tab e').isCodeTable, rfl, #[], more, rfl, by rw [Array.empty_append]; exact hm⟩)
        · exact .inl (kept b o hb e)
      · by_cases hb : b ∈ tabT K
        · obtain ⟨p, hp, rfl⟩ := List.mem_map.mp hb
          obtain ⟨more, hm⟩ := grown p hp
          exact ⟨_, hm⟩
        · exact ⟨o, kept b o hb e⟩
/-- what the heap at the law's call tracks -/
structure TrH (K : PySem.W.Frag) (H : Hp) : Prop where
  tb : ∀ b ∈ tabT K, H b = some (.tbl #[])
  on : ∀ b ps, H b = some (.tbl ps) → b ∈ tabT K
theorem answer_T (T : TabH K s.heap) (KX : K.In s.heap) (hns : s.heap.Ns mainGlobals mg) (hb : s.heap.Ns builtinsNs mb) (hbb : ∀ x : Str, x ≠ "__name__" → mb x = bootBuiltins x) (hlim : s.heap.NoLimit) (hg : s.gens = #[])
    (hbm : ∃ (bm : Addr) (ob : Obj), mg "__builtins__" = some (.ref bm) ∧ bm ≠ builtinsNs ∧ s.heap.get? bm = some ob ∧ ob.cls = .type "module" ∧ ob.dict = some builtinsNs ∧ ob.data = .plain)
    (ha : s.heap.get? a = some { cls := .type "list", data := .seq vs.toArray }) (hi : IntsAre vs ns) (hl : ns.length ≤ sizeLine) (hr : Room k callerA)
    (F : ∀ base : Heap, K.In base → base.Ns mainGlobals mg → (∀ p ∈ tabs3 K, LamX.TabB base mg p.1 p.2.1) → FnG P w K mg base CX k fa fd [x] sp)
    (hbind : ∀ (s : Shared) (u : Value), BindsTo s fd ⟨[u], []⟩ [(x, u)])
    (hsp : ∀ H : Hp, TrH K H → SqL K H a (ns.map V.int) → sp [.ref a] H (fun v _ => v = .bl true) fun _ _ _ => False)
    (hCX : ∀ H e s', CX [] H s (fun _ _ _ => False) e s' → False) : codeAny (model P w) callerA (.call (.ref fa) ⟨[.ref a], []⟩) (Answers s) s := by
  have rv := vals_ints hi
  have aT : a ∉ tabT K := fun z => by
    have q := T.at z
    rw [ha] at q
    cases q
  have tOk : ∀ b ∈ tabT K, ∀ (H : Hp), ObjOk P w H s.heap b (.tbl #[]) := fun b hb H => T.at hb
  cases hk : K.lookup a with
  | some o =>
    have e := KX a o hk
    rw [ha] at e
    cases e
    let H : Hp := fun b => if b ∈ tabT K then some (.tbl #[]) else none
    have hin : ∀ b ∈ tabT K, H b = some (.tbl #[]) := fun b hb => if_pos hb
    have hno : ∀ b, b ∉ tabT K → H b = none := fun b hb => if_neg hb
    have O : TrA P w K s a H := by
      refine ⟨fun b z => ?_, hin, fun u z => ?_, fun b u z => ?_, fun z => absurd (hno a aT) z⟩
      · by_cases h : b ∈ tabT K
        · exact .inr h
        · exact absurd (hno b h) z
      · rw [hno a aT] at z
        cases z
      · by_cases h : b ∈ tabT K
        · rw [hin b h] at z
          cases z
          exact tOk b h H
        · rw [hno b h] at z
          cases z
    have Tr : TrH K H := ⟨hin, fun b ps z => Decidable.byContradiction fun h => by rw [hno b h] at z; cases z⟩
    exact answerT_of T KX hns hb hbb hlim hg hbm ha hr F hbind hCX O (hsp _ Tr (.inr ⟨_, vs.toArray, _, hk, rfl, rfl, rfl, by rw [List.size_toArray, hi.length]; exact hl, by simpa using rv⟩))
  | none =>
    let u0 : HO := .frz { cls := .type "list", data := .seq vs.toArray } (.lst (ns.map V.int))
    let H : Hp := fun b => if b = a then some u0 else if b ∈ tabT K then some (.tbl #[]) else none
    have hat : H a = some u0 := if_pos rfl
    have hin : ∀ b ∈ tabT K, H b = some (.tbl #[]) := fun b hb => (if_neg (show ¬ b = a from fun z => aT (z ▸ hb))).trans (if_pos hb)
    have hno : ∀ b, b ≠ a → b ∉ tabT K → H b = none := fun b h1 h2 => (if_neg h1).trans (if_neg h2)
    have O : TrA P w K s a H := by
      refine ⟨fun b z => ?_, hin, fun u z => ?_, fun b u z => ?_, fun _ => hk⟩
      · by_cases h1 : b = a
        · exact .inl h1
        · by_cases h2 : b ∈ tabT K
          · exact .inr h2
          · exact absurd (hno b h1 h2) z
      · rw [hat] at z
        cases z
        exact ⟨_, _, rfl⟩
      · by_cases h1 : b = a
        · subst h1
          rw [hat] at z
          cases z
          exact ⟨ha, by rw [List.length_map]; exact hl, vs, _, rv, ha⟩
        · by_cases h2 : b ∈ tabT K
          · rw [hin b h2] at z
            cases z
            exact tOk b h2 H
          · rw [hno b h1 h2] at z
            cases z
    have Tr : TrH K H := ⟨hin, fun b ps z => Decidable.byContradiction fun h => by
      by_cases h1 : b = a
      · subst h1
        rw [hat] at z
        have z2 : HO.frz { cls := .type "list", data := .seq vs.toArray } (.lst (ns.map V.int)) = .tbl ps := Option.some.inj z
        cases z2
      · rw [hno b h1 h] at z
        cases z⟩
    exact answerT_of T KX hns hb hbb hlim hg hbm ha hr F hbind hCX O (hsp _ Tr (.inl (.inr ⟨_, hat⟩)))
end
/-- a law: what is to be shown of its def -/
theorem walk_T {l : PySem.W.OpenLaw} {n k : Nat} {q : Program} {loose : List Str} {XP : (Str → Option Value) → Heap → Prop} {YP : World → Heap → Prop} {d : DefRec} {CX : World → CXT} {x : Str}
    (hn : l.most = some n) (hn2 : n ≤ sizeLine) (hdf : d.params.defaults = []) (hr : Room k callerA)
    (F : ∀ (w : World) (mg : Str → Option Value) (fa : Addr) (h : Heap), YP w h → h.Ns mainGlobals mg → mg d.name = some (.ref fa) →
      ∃ (K : PySem.W.Frag) (fd : FuncData) (sp : Sp), K.In h ∧ TabH K h ∧ (∀ (s : Shared) (u : Value), BindsTo s fd ⟨[u], []⟩ [(x, u)]) ∧
        (∀ (H : Hp) (a : Addr) (ns : List Int), ns.length ≤ n → TrH K H → SqL K H a (ns.map V.int) → sp [.ref a] H (fun v _ => v = .bl true) fun _ _ _ => False) ∧
        ∀ base : Heap, K.In base → base.Ns mainGlobals mg → (∀ p ∈ tabs3 K, LamX.TabB base mg p.1 p.2.1) → FnG l.prog w K mg base (CX w) k fa fd [x] sp)
    (hCX : ∀ (w : World) (H : Hp) (s : Shared) (e : Value) (s' : Shared), CX w [] H s (fun _ _ _ => False) e s' → False) : PySem.W.WalkO q loose XP YP l.row.toRowW d [] (fun f vs => PySem.call f vs) := by
  refine Att.attach_call hn hdf fun w s₀ s₁ mg mb fa o pm cd doc a vs ns G Y ho hd hcd hmg hobj hints hlen hg => ?_
  obtain ⟨K, fd, sp, KX, T, hb, hsp, hF⟩ := F w mg fa _ Y G.T.g hmg
  exact answer_T T KX G.T.g G.T.b G.T.builtins G.T.nolimit hg G.T.bmain hobj hints (Nat.le_trans hlen hn2) hr hF hb (fun H hO hS => hsp H a ns hlen hO hS) fun H e s' => hCX w H s₁ e s'
end Ev

namespace Ev
open PySem PySem.Spec PyProof.Rows L2

/-! ### facts that a head tells by values: exceptions, the outcome's def, tables -/
theorem and_t {a b : Bool} (h : (a && b) = true) : a = true ∧ b = true := by
  rw [Bool.and_eq_true] at h
  exact h
/-- an own exception whose __init__ is read -/
structure ExT where
  c : Str
  f1 : Str
  f2 : Str
  qn : Str
  args : Arguments
  sc : Scope
  p : Nat → Pos
abbrev FnX : Type := Option (Str × Str × Arguments × FuncBody × Scope × Addr × List Str × Addr)
def initA (K : PySem.W.Frag) (c : Str) : Addr := He.ma K (He.ga K c) "__init__"
def fnX (K : PySem.W.Frag) (a : Addr) : FnX := match K.lookup a with
  | some ⟨_, _, .func fd, _⟩ => some (fd.name, fd.qualname, fd.params, fd.body, fd.scope, fd.globals, fd.closure.map (·.1), fd.builtins)
  | _ => none
def ExT.val (T : ExT) : FnX := some ("__init__", T.qn, T.args, .stmts (EvX.supBody T.f1 T.f2 T.p), T.sc, mainGlobals, ["__class__"], builtinsNs)
/-- the class -/
def clsXB (K : PySem.W.Frag) (C : Addr) : Bool := match K.lookup C with
  | some ⟨.type "type", _, .cls ⟨_, _, mro, _, _, hd, _, _, _, _, del⟩, sl⟩ => hd && (!del && ((match mro with
    | .ref D :: bm => decide (D = C) && (PySem.HandSPX.refsVE bm && decide (PySem.W.alongIn K "__init__" bm = some (some (.builtin "ValueError.__init__"))))
    | _ => false) && (match sl.toList with
    | [_, _, _, _, some (.builtin id), _] => decide (id = "ValueError.__new__")
    | _ => false)))
  | _ => false
theorem clsX_ok {K : PySem.W.Frag} {C : Addr} (h : clsXB K C = true) : ∃ nm q N bs bm sn sub ab col dd k0 k1 k2 k3 k5, K.lookup C = some (excClassObj nm q C N bs bm true sn sub ab col dd k0 k1 k2 k3 k5 "ValueError.__new__") ∧ PySem.HandSPX.refsVE bm = true ∧ PySem.W.alongIn K "__init__" bm = some (some (.builtin "ValueError.__init__")) := by
  unfold clsXB at h
  split at h
  · rename_i dd nm bs mro N q hd sn sub ab col del sl hk
    obtain ⟨h1, h⟩ := and_t h
    obtain ⟨h2, h⟩ := and_t h
    obtain ⟨h3, h4⟩ := and_t h
    cases mro with
    | nil => cases h3
    | cons v bm =>
      cases v with
      | ref D =>
        have h3 : (decide (D = C) && (PySem.HandSPX.refsVE bm && decide (PySem.W.alongIn K "__init__" bm = some (some (.builtin "ValueError.__init__"))))) = true := h3
        obtain ⟨e1, h3⟩ := and_t h3
        obtain ⟨e2, e3⟩ := and_t h3
        have h2 : del = false := by cases del <;> simp_all
        have e1 := of_decide_eq_true e1
        split at h4
        · rename_i k0 k1 k2 k3 id k5 hs
          have e4 := of_decide_eq_true h4
          have esl : sl = #[k0, k1, k2, k3, some (.builtin id), k5] := by
            apply Array.ext'
            exact hs
          subst e1 e4 h1 h2 esl
          exact ⟨nm, q, N, bs, bm, sn, sub, ab, col, dd, k0, k1, k2, k3, k5, hk, e2, of_decide_eq_true e3⟩
        · cases h4
      | _ => cases h3
  · cases h
/-- its __init__: code, cell -/
def fileB (K : PySem.W.Frag) (fl : Str) : Value → Bool
  | .ref c => (match K.lookup c with
    | some ⟨_, _, .fields vs, _⟩ => (match (vs[2]? : Option Value) with
      | some (.str file _) => decide (file = fl)
      | _ => false)
    | _ => false)
  | _ => false
theorem fileB_ok {K : PySem.W.Frag} {fl : Str} {v : Value} (h : fileB K fl v = true) : ∃ c ccl cdd vs ccs tf, v = .ref c ∧ K.lookup c = some ⟨ccl, cdd, .fields vs, ccs⟩ ∧ vs[2]? = some (.str fl tf) := by
  cases v with
  | ref c =>
    unfold fileB at h
    simp only at h
    split at h
    · rename_i ccl cdd vs ccs hcd
      split at h
      · rename_i file tf hvs
        have hf := of_decide_eq_true h
        subst hf
        exact ⟨c, ccl, cdd, vs, ccs, tf, rfl, hcd, hvs⟩
      · cases h
    · cases h
  | _ => cases h
def cellB (K : PySem.W.Frag) (C : Addr) : List (Str × Addr) → Bool
  | [(_, cc)] => (match K.lookup cc with
    | some ⟨_, _, .cell (some (.ref D)), _⟩ => decide (D = C)
    | _ => false)
  | _ => false
theorem cellB_ok {K : PySem.W.Frag} {C : Addr} {k : Str} {cc : Addr} (h : cellB K C [(k, cc)] = true) : ∃ cl cld csl, K.lookup cc = some ⟨cl, cld, .cell (some (.ref C)), csl⟩ := by
  unfold cellB at h
  simp only at h
  split at h
  · rename_i cl cld D csl hcell
    have hD := of_decide_eq_true h
    subst hD
    exact ⟨cl, cld, csl, hcell⟩
  · cases h
def initB (K : PySem.W.Frag) (fl : Str) (C fI : Addr) (qn : Str) : Bool := match K.lookup fI with
  | some ⟨_, _, .func fd, _⟩ => PySem.W.codeIn K fd.code qn && (He.dflB K fd.defaults [] && (fileB K fl fd.code && cellB K C fd.closure))
  | _ => false
def scXB (sc : Scope) (f1 f2 : Str) : Bool := decide (sc.kind = .function) && (!sc.isCoroutine && (!sc.isGenerator && ((sc.names.all fun y => decide (y.2 ≠ .cell)) && (decide (sc.names.lookup ("super" : Str) = some .globalImplicit) && (decide (sc.names.lookup ("__class__" : Str) = some .free) &&
  (decide (sc.names.lookup ("self" : Str) = some .local) && (decide (sc.names.lookup f1 = some .local) && decide (sc.names.lookup f2 = some .local))))))))
def xcB (K : PySem.W.Frag) (fl : Str) (T : ExT) : Bool := He.eqO (PySem.W.nsIn K mainGlobals T.c) (some (some (.ref (He.ga K T.c)))) && (clsXB K (He.ga K T.c) && (initB K fl (He.ga K T.c) (initA K T.c) T.qn && (scXB T.sc T.f1 T.f2 &&
  (decide (PySem.W.mroIn K (He.ga K T.c) (.ref (He.ga K T.c)) = some true) && (decide (PySem.W.subIn K (.ref (He.ga K T.c)) (.type "ValueError") = some true) && (He.eqO (PySem.W.nsIn K cStatics "thirdparty.any") (some none) &&
  (He.eqO (PySem.W.findIn K (.ref (He.ga K T.c)) "__setattr__") (some (some (.builtin "object.__setattr__"))) && (He.eqO (PySem.W.findIn K (.ref (He.ga K T.c)) T.f1) (some none) && (He.eqO (PySem.W.findIn K (.ref (He.ga K T.c)) T.f2) (some none) &&
  (decide (T.f1 ≠ T.f2 ∧ T.f1 ≠ "self" ∧ T.f2 ≠ "self" ∧ T.f1 ≠ "__debug__" ∧ T.f2 ≠ "__debug__") && (((T.p 2).endLine == (T.p 5).line) && (decide (PySem.W.subIn K (.ref (He.ga K T.c)) (.type "BaseException") = some true) && (decide (PySem.W.typeIn K (.ref (He.ga K T.c)) = some (.type "type")) &&
  (PySem.W.keepIn K (.ref (He.ga K T.c)) && (He.eqO (PySem.W.findIn K (.ref (He.ga K T.c)) "__init__") (some (some (.ref (initA K T.c)))) && (decide (PySem.W.typeIn K (.ref (initA K T.c)) = some (.type "function")) &&
  (match (T.args.posonlyargs ++ T.args.args).head? with
    | some ar => decide (ar.arg = "self")
    | none => false)))))))))))))))))
/-- how C(..)'s call binds -/
def BindX (T : ExT) : Prop := ∀ (qual : Str) (body : List Stmt) (scope : Scope) (cl : List (Str × Addr)) (kV doc pm : Value) (an : Option Addr) (cdv ct a u1 u2 : Value), bindArgs (PySem.W.fnX "__init__" qual T.args body scope cl .none kV doc pm an cdv ct) ⟨[a, u1, u2], []⟩ = pure [(("self" : Str), a), (T.f1, u1), (T.f2, u2)]
theorem xc_ok {P : Program} {K : PySem.W.Frag} {fl : Str} {T : ExT} {h : Heap} {mg : Str → Option Value} (X : K.In h) (G : h.Ns mainGlobals mg) (e : fnX K (initA K T.c) = T.val) (c : xcB K fl T = true) (hfl : P.main.file = fl) (htop : (P.main.scope.names.lookup ("super" : Str)).isSome = false) (hb : BindX T) :
    ∃ fI, mg T.c = some (.ref (He.ga K T.c)) ∧ RaiC P K (He.ga K T.c) fI T.f1 T.f2 := by
  obtain ⟨g1, c⟩ := and_t c
  obtain ⟨g2, c⟩ := and_t c
  obtain ⟨g3, c⟩ := and_t c
  obtain ⟨g4, c⟩ := and_t c
  obtain ⟨g5, c⟩ := and_t c
  obtain ⟨g6, c⟩ := and_t c
  obtain ⟨g7, c⟩ := and_t c
  obtain ⟨g8, c⟩ := and_t c
  obtain ⟨g9, c⟩ := and_t c
  obtain ⟨g10, c⟩ := and_t c
  obtain ⟨g11, c⟩ := and_t c
  obtain ⟨g12, c⟩ := and_t c
  obtain ⟨g13, c⟩ := and_t c
  obtain ⟨g14, c⟩ := and_t c
  obtain ⟨g15, c⟩ := and_t c
  obtain ⟨g16, c⟩ := and_t c
  obtain ⟨g17, g18⟩ := and_t c
  obtain ⟨s1, g4⟩ := and_t g4
  obtain ⟨s2, g4⟩ := and_t g4
  obtain ⟨s3, g4⟩ := and_t g4
  obtain ⟨s4, g4⟩ := and_t g4
  obtain ⟨s5, g4⟩ := and_t g4
  obtain ⟨s6, g4⟩ := and_t g4
  obtain ⟨s7, g4⟩ := and_t g4
  obtain ⟨s8, s9⟩ := and_t g4
  obtain ⟨nm, q, N, bs, bm, sn, sub, ab, col, dd, k0, k1, k2, k3, k5, hC, hbm, hal⟩ := clsX_ok g2
  refine ⟨initA K T.c, PySem.W.mg_of X G (He.eqO_ok g1), ?_, ⟨⟨nm, q, N, bs, bm, sn, sub, ab, col, dd, k0, k1, k2, k3, k5, hC, hbm⟩, He.eqO_ok g8, of_decide_eq_true g13, of_decide_eq_true g14, g15⟩, He.eqO_ok g16, of_decide_eq_true g17⟩
  refine ⟨?_, ⟨nm, q, N, bs, bm, sn, sub, ab, col, dd, k0, k1, k2, k3, k5, hC, hbm, hal⟩, of_decide_eq_true g5, of_decide_eq_true g6, He.eqO_ok g7, He.eqO_ok g8, He.eqO_ok g9, He.eqO_ok g10, of_decide_eq_true g11, htop⟩
  -- the function
  unfold initB at g3
  unfold fnX at e
  cases q1 : K.lookup (initA K T.c) with
  | none => rw [q1] at g3; cases g3
  | some o =>
    obtain ⟨oc, od, dt, osl⟩ := o
    rw [q1] at g3 e
    cases dt with
    | func fd =>
      obtain ⟨m1, m2, m3, m4, m5, m6, m7, m8, m9, m10, m11, m12, m13, m14, m15⟩ := fd
      have e2 : (some (m1, m2, m3, m4, m5, m6, m7.map (·.1), m15) : FnX) = some (("__init__" : Str), T.qn, T.args, FuncBody.stmts (EvX.supBody T.f1 T.f2 T.p), T.sc, mainGlobals, [("__class__" : Str)], builtinsNs) := e
      simp only [Option.some.injEq, Prod.mk.injEq] at e2
      obtain ⟨h1, h2, h3, h4, h5, h6, h7, h8⟩ := e2
      obtain ⟨w1, g3⟩ := and_t g3
      obtain ⟨w2, g3⟩ := and_t g3
      obtain ⟨w3, w4⟩ := and_t g3
      have hd : m8 = .none := by
        rcases He.dflB_ok (show He.dflB K m8 [] = true from w2) with ⟨_, z⟩ | ⟨z, _⟩
        · exact z
        · exact absurd rfl z
      match m7, h7, w4 with
      | [(k, cc)], h7, w4 =>
        have hk : k = "__class__" := by simpa using h7
        subst h1 h2 h3 h4 h5 h6 h8 hd hk
        obtain ⟨cda, ccl, cdd, vs, ccs, tf, e3, hcd, hvs⟩ := fileB_ok w3
        obtain ⟨cl, cld, csl, hcell⟩ := cellB_ok w4
        simp only at e3
        subst e3
        cases har : (T.args.posonlyargs ++ T.args.args).head? with
        | none => rw [har] at g18; cases g18
        | some ar =>
          rw [har] at g18
          exact ⟨oc, od, osl, T.qn, T.args, T.sc, .none, m9, m10, m11, m12, cda, m14, cc, T.p, g12, rfl, w1, ⟨ccl, cdd, vs, ccs, fl, tf, hcd, hvs, by rw [hfl]; simp⟩, ⟨cl, cld, csl, hcell⟩, ⟨ar, har, of_decide_eq_true g18⟩,
            fun s a u1 u2 _ => .of_eq (hb _ _ _ _ _ _ _ _ _ _ a u1 u2), of_decide_eq_true s1, not_true s2, not_true s3, fun y hy => of_decide_eq_true (List.all_eq_true.mp s4 y hy), of_decide_eq_true s5, of_decide_eq_true s6, of_decide_eq_true s7, of_decide_eq_true s8, of_decide_eq_true s9⟩
      | [], h7, _ => simp at h7
      | _ :: _ :: _, h7, _ => simp at h7
    | _ => cases g3
end Ev

namespace Ev
open PySem PySem.Spec PyProof.Rows L2

/-! ### a law's end -/
/-- how a def of the table stands in the text: its parameters, all of them plain; its name and qualified name -/
structure FnT where
  F : FnS
  args : Arguments
  nm : Str
  qn : Str := nm
/-- a property's getter -/
def gz (K : PySem.W.Frag) (C : Addr) (f : Str) : Addr := match PySem.W.findIn K (.ref C) f with
  | some (some (.ref p)) => (match PySem.W.recIn K p "property" with
    | some (.ref g :: _) => g
    | _ => 0)
  | _ => 0
def plA (K : PySem.W.Frag) : FnP → Str → Addr
  | .top, x => He.ga K x
  | .meth c, x => He.ma K (He.ga K c) x
  | .prop c, x => gz K (He.ga K c) x
def propB (K : PySem.W.Frag) (C : Addr) (f : Str) : Bool := match PySem.W.findIn K (.ref C) f with
  | some (some (.ref p)) => decide (PySem.W.specialIn K (.ref p) "__get__" = some (some (.builtin "property.__get__"))) && (decide (PySem.W.takesIn K (.ref p) = some true) && (match PySem.W.recIn K p "property" with
    | some (.ref _ :: _) => true
    | _ => false))
  | _ => false
theorem propB_ok {K : PySem.W.Frag} {C : Addr} {f : Str} (h : propB K C f = true) : ∃ p, PropOf K C f p (gz K C f) := by
  unfold propB at h
  cases e : PySem.W.findIn K (.ref C) f with
  | none => rw [e] at h; cases h
  | some o =>
    cases o with
    | none => rw [e] at h; cases h
    | some v =>
      cases v with
      | ref p =>
        rw [e] at h
        obtain ⟨h1, h⟩ := and_tt h
        obtain ⟨h2, h3⟩ := and_tt h
        cases e2 : PySem.W.recIn K p "property" with
        | none => rw [e2] at h3; cases h3
        | some l =>
          cases l with
          | nil => rw [e2] at h3; cases h3
          | cons u r =>
            cases u with
            | ref g =>
              have hg : gz K C f = g := by unfold gz; rw [e]; simp only [e2]
              rw [hg]
              exact ⟨p, e, of_decide_eq_true h1, of_decide_eq_true h2, r, e2⟩
            | _ => rw [e2] at h3; cases h3
      | _ => rw [e] at h; cases h
/-- what is seen of the object at a -/
def fnZ (K : PySem.W.Frag) (a : Addr) : He.FnW := match K.lookup a with
  | some ⟨_, _, .func fd, _⟩ => some (fd.name, fd.qualname, fd.params, fd.body, fd.scope, fd.globals, fd.closure, fd.builtins)
  | _ => none
def okZ (K : PySem.W.Frag) (a : Addr) (qn : Str) : Bool := PySem.W.keepIn K (.ref a) && (match K.lookup a with
  | some ⟨_, _, .func fd, _⟩ => PySem.W.codeIn K fd.code qn && (He.dflB K fd.defaults [] && He.kwdB K fd.kwdefaults [])
  | _ => false)
def FnT.val (T : FnT) : He.FnW := some (T.nm, T.qn, T.args, .stmts (toSs T.F.body), T.F.sc, mainGlobals, [], builtinsNs)
theorem funY {K : PySem.W.Frag} {nm qn : Str} {args : Arguments} {body : List Stmt} {sc : Scope} {a : Addr} (e : fnZ K a = some (nm, qn, args, .stmts body, sc, mainGlobals, [], builtinsNs)) (c : okZ K a qn = true) : ∃ fd, FunD K nm qn args body sc [] [] a fd := by
  obtain ⟨kp, c2⟩ := and_tt c
  unfold fnZ at e
  cases q : K.lookup a with
  | none => rw [q] at c2; cases c2
  | some o =>
    obtain ⟨oc, od, dt, osl⟩ := o
    rw [q] at c2 e
    cases dt with
    | func fd =>
      obtain ⟨m1, m2, m3, m4, m5, m6, m7, m8, m9, m10, m11, m12, m13, m14, m15⟩ := fd
      have e2 : (some (m1, m2, m3, m4, m5, m6, m7, m15) : He.FnW) = some (nm, qn, args, FuncBody.stmts body, sc, mainGlobals, [], builtinsNs) := e
      simp only [Option.some.injEq, Prod.mk.injEq] at e2
      obtain ⟨h1, h2, h3, h4, h5, h6, h7, h8⟩ := e2
      subst h1 h3 h4 h5 h6 h7 h8
      have c3 : (PySem.W.codeIn K m13 qn && (He.dflB K m8 [] && He.kwdB K m9 [])) = true := c2
      obtain ⟨k1, k2⟩ := and_tt c3
      obtain ⟨k3, k4⟩ := and_tt k2
      rw [h2] at q
      exact ⟨_, ⟨oc, od, m8, m9, m10, m11, m12, m13, m14, osl, rfl, q, k1, He.dflB_ok k3, He.kwdB_ok k4⟩, kp⟩
    | _ => cases c2
theorem funZ {K : PySem.W.Frag} {T : FnT} {a : Addr} (e : fnZ K a = T.val) (c : okZ K a T.qn = true) : ∃ fd, FunD K T.nm T.qn T.args (toSs T.F.body) T.F.sc [] [] a fd := funY e c
/-- the def's table of code objects is not in the written part -/
def lamC (K : PySem.W.Frag) (qn : Str) : Value → Bool
  | .ref c => (tabs3 K).any fun q => decide (q.1 = c) && decide (q.2.2 = qn ++ ".<locals>." ++ "<lambda>")
  | _ => false
theorem lamC_ok {K : PySem.W.Frag} {qn : Str} {v : Value} (h : lamC K qn v = true) : ∃ c P, v = .ref c ∧ (c, P, qn ++ ".<locals>." ++ "<lambda>") ∈ tabs3 K := by
  cases v with
  | ref c =>
    obtain ⟨⟨q1, q2, q3⟩, hq, e⟩ := List.any_eq_true.mp h
    obtain ⟨z1, z2⟩ := and_tt e
    have z1 : q1 = c := of_decide_eq_true z1
    have z2 : q3 = qn ++ ".<locals>." ++ "<lambda>" := of_decide_eq_true z2
    subst z1 z2
    exact ⟨_, q2, rfl, hq⟩
  | _ => cases h
def lamB (K : PySem.W.Frag) (a : Addr) (qn : Str) : Bool := match K.lookup a with
  | some ⟨_, _, .func fd, _⟩ => lamC K qn fd.code
  | _ => false
theorem lamB_ok {K : PySem.W.Frag} {a : Addr} {nm qn : Str} {args : Arguments} {body : List Stmt} {sc : Scope} {fd : FuncData} (D : FunD K nm qn args body sc [] [] a fd) (h : lamB K a qn = true) : ∃ c P, fd.code = .ref c ∧ (c, P, qn ++ ".<locals>." ++ "<lambda>") ∈ tabs3 K := by
  obtain ⟨oc, od, dV, kV, doc, pm, an, cdv, ct, osl, e1, e2, _⟩ := D.ex
  unfold lamB at h
  rw [e2] at h
  rw [e1] at h ⊢
  exact lamC_ok h
def plB (K : PySem.W.Frag) (T : FnT) : Bool := (match T.F.pl with
  | .prop c => propB K (He.ga K c) T.F.x
  | _ => true) && (!T.F.lam || lamB K (plA K T.F.pl T.F.x) T.qn)
/-- the def that tells how a lambda ends -/
structure OutTx where
  x : Str
  args : Arguments
  sc : Scope
  p : Nat → Pos
def OutTx.val (T : OutTx) : He.FnW := some (T.x, T.x, T.args, .stmts (outBody T.p), T.sc, mainGlobals, [], builtinsNs)
def excKB (K : PySem.W.Frag) (D : Addr) : Bool := He.eqO (PySem.W.findIn K (.ref D) "__getattribute__") (some (some (.builtin "BaseException.__getattribute__"))) && (He.eqO (PySem.W.findIn K (.ref D) "__getattr__") (some none) && (decide (PySem.W.subIn K (.ref D) (.type "BaseException") = some true) &&
  (PySem.W.hasDictIn K D && (He.eqO (PySem.W.findIn K (.ref D) "__class__") (some (some (.builtin "object.__class__"))) && (decide (PySem.W.specialIn K (.builtin "object.__class__") "__get__" = some (some (.builtin "getset_descriptor.__get__"))) && (decide (PySem.W.takesIn K (.builtin "object.__class__") = some true) &&
  (decide (PySem.W.mroIn K D (.type "object") = some true) && (PySem.W.clsIn K D).isSome)))))))
theorem excK_ok {K : PySem.W.Frag} {D : Addr} (h : excKB K D = true) : ExcK K D := by
  obtain ⟨h1, h⟩ := and_tt h
  obtain ⟨h2, h⟩ := and_tt h
  obtain ⟨h3, h⟩ := and_tt h
  obtain ⟨h4, h⟩ := and_tt h
  obtain ⟨h5, h⟩ := and_tt h
  obtain ⟨h6, h⟩ := and_tt h
  obtain ⟨h7, h⟩ := and_tt h
  obtain ⟨h8, h9⟩ := and_tt h
  exact ⟨⟨He.eqO_ok h1, He.eqO_ok h2, of_decide_eq_true h3, h4, He.eqO_ok h5, of_decide_eq_true h6, of_decide_eq_true h7, of_decide_eq_true h8⟩, h9, ⟨He.eqO_ok h1, He.eqO_ok h2, of_decide_eq_true h3, h4⟩⟩
def outDB (K : PySem.W.Frag) (D : Addr) (b1 b2 : Bool) : Bool := excKB K D && (decide (PySem.W.kitOne K (.ref D) (.ref (He.ga K "InvalidPaper")) = some b1) && (decide (PySem.W.kitOne K (.ref D) (.ref (He.ga K "NotUsable")) = some b2) && (decide (PySem.W.kitOne K (.ref D) (.ref (He.ga K "PaperError")) = some b1) && (decide (PySem.W.kitOne K (.ref D) (.ref (He.ga K "TraceError")) = some b2) &&
  (decide (PySem.W.kitAny K (.ref D) [.ref (He.ga K "BookError"), .ref (He.ga K "TextError"), .ref (He.ga K "NotTold")] = some false) && (decide (PySem.W.kitOne K (.ref D) (.type "ValueError") = some true) && (decide (PySem.W.exmOne K (.ref D) (.ref (He.ga K "ThinError")) = some true) && (He.eqO (PySem.W.findIn K (.ref D) "word") (some none) && He.eqO (PySem.W.findIn K (.ref D) "at") (some none)))))))))
theorem outD_ok {K : PySem.W.Frag} {D : Addr} {b1 b2 : Bool} (h : outDB K D b1 b2 = true) : OutD K D b1 b2 := by
  obtain ⟨h1, h⟩ := and_tt h
  obtain ⟨h2, h⟩ := and_tt h
  obtain ⟨h3, h⟩ := and_tt h
  obtain ⟨h4, h⟩ := and_tt h
  obtain ⟨h5, h⟩ := and_tt h
  obtain ⟨h6, h⟩ := and_tt h
  obtain ⟨h7, h⟩ := and_tt h
  obtain ⟨h8, h⟩ := and_tt h
  obtain ⟨h9, h10⟩ := and_tt h
  exact ⟨excK_ok h1, of_decide_eq_true h2, of_decide_eq_true h3, of_decide_eq_true h4, of_decide_eq_true h5, of_decide_eq_true h6, of_decide_eq_true h7, of_decide_eq_true h8, He.eqO_ok h9, He.eqO_ok h10⟩
def scOk (F : FnS) : Bool := decide (F.sc.kind = .function) && (!F.sc.isCoroutine && (!F.sc.isGenerator && (decide F.N.Nodup && (decide (F.N.take F.ps.length = F.ps) && ((F.ps.all fun x => match F.sc.names.lookup x with
  | some .local => true
  | some .cell => true
  | _ => false) && F.sc.names.all fun y => decide (y.2 ≠ .free))))))
theorem scOk_ok {F : FnS} (h : scOk F = true) : FnScope F.N F.ps F.sc := by
  obtain ⟨h1, h⟩ := and_tt h
  obtain ⟨h2, h⟩ := and_tt h
  obtain ⟨h3, h⟩ := and_tt h
  obtain ⟨h4, h⟩ := and_tt h
  obtain ⟨h5, h⟩ := and_tt h
  obtain ⟨h6, h7⟩ := and_tt h
  refine ⟨of_decide_eq_true h1, not_true h2, not_true h3, of_decide_eq_true h4, of_decide_eq_true h5, fun x hx => ?_, fun y hy => of_decide_eq_true (List.all_eq_true.mp h7 y hy)⟩
  have := List.all_eq_true.mp h6 x hx
  split at this
  · rename_i e; exact .inl e
  · rename_i e; exact .inr e
  · cases this
def outScB (sc : Scope) : Bool := scOk { x := "", ps := ["_law_ask"], N := outN, sc := sc, body := [], keep := false } && ((outGl.all fun x => decide (sc.names.lookup x = some .globalImplicit)) && outN.all fun x => decide (sc.names.lookup x = some .local))
def outB (K : PySem.W.Frag) : Option OutTx → Bool
  | none => true
  | some T => He.eqO (PySem.W.nsIn K mainGlobals T.x) (some (some (.ref (He.ga K T.x)))) && (okZ K (He.ga K T.x) T.x && (outScB T.sc && ((outCl.all fun c => He.eqO (PySem.W.nsIn K mainGlobals c) (some (some (.ref (He.ga K c))))) && (outDB K (He.ga K "NotUsable") false true && outDB K (He.ga K "InvalidPaper") true false))))
def outZ (K : PySem.W.Frag) : Option OutTx → He.FnW
  | none => none
  | some T => fnZ K (He.ga K T.x)
def outV : Option OutTx → He.FnW
  | none => none
  | some T => T.val
/-- the tables: their code objects, apart -/
def tabsB (K : PySem.W.Frag) : Bool := (tabs3 K).all fun q => PySem.W.codeHdIn K q.1 q.2.1 && (tabs3 K).all fun r => !decide (q.2.1 = r.2.1) || decide (q.2.2 = r.2.2)
/-- what else is read of a law's head -/
structure Ext where
  xs : List ExT
  out : Option OutTx
  lams : List Str
  fl : Str
abbrev AlZ : Type := Bool × Bool × List He.FnW × List FnX × He.FnW
def obsK (fa : List He.Fa) (ts : List FnT) (E : Ext) (K : PySem.W.Frag) : Bool × List He.FnW × List FnX × He.FnW :=
  ((fa.all fun f => f.ok K) && ((ts.all fun T => okZ K (plA K T.F.pl T.F.x) T.qn && plB K T) && ((E.xs.all fun T => xcB K E.fl T) && (outB K E.out && tabsB K))), ts.map fun T => fnZ K (plA K T.F.pl T.F.x), E.xs.map fun T => fnX K (initA K T.c), outZ K E.out)
def valZ (ts : List FnT) (E : Ext) : Bool × List He.FnW × List FnX × He.FnW := (true, ts.map FnT.val, E.xs.map ExT.val, outV E.out)
def SaysZ (fa : List He.Fa) (ts : List FnT) (E : Ext) (K : PySem.W.Frag) : Prop := obsK fa ts E K = valZ ts E
/-- an empty table -/
def isTab : Option Obj → Bool
  | some ⟨.none, none, .fields vs, sl⟩ => vs.isEmpty && sl.isEmpty
  | _ => false
theorem isTab_ok {o : Option Obj} (h : isTab o = true) : o = some (PySem.W.tabObj #[]) := by
  unfold isTab at h
  split at h
  · rename_i vs sl
    obtain ⟨h1, h2⟩ := and_tt h
    have e1 : vs = #[] := by simpa using h1
    have e2 : sl = #[] := by simpa using h2
    subst e1 e2
    rfl
  · cases h
/-- the cells of an __init__, the table of a def -/
def cellA (K : PySem.W.Frag) (c : Str) : List Addr := match K.lookup (initA K c) with
  | some ⟨_, _, .func fd, _⟩ => fd.closure.map (·.2)
  | _ => []
def tabA (K : PySem.W.Frag) (x : Str) : List Addr := match K.lookup (He.ga K x) with
  | some ⟨_, _, .func fd, _⟩ => (match fd.code with
    | .ref c => (match K.lookup c with
      | some ⟨_, _, .fields vs, _⟩ => (match (vs[11]? : Option Value) with
        | some (.ref P) => [P]
        | _ => [])
      | _ => [])
    | _ => [])
  | _ => []
def asT (g : Addr → Option Obj) (as : List Addr) (E : Ext) : List Addr := (cStatics :: as ++ E.xs.flatMap fun T => cellA (He.frG g as) T.c).filter fun a => !(E.lams.flatMap fun x => tabA (He.frG g as) x).contains a
def frT (g : Addr → Option Obj) (n : Nat) (E : Ext) : PySem.W.Frag := He.frG g (asT g (He.asD g n) E)
def obsT (fa : List He.Fa) (ts : List FnT) (E : Ext) (g : Addr → Option Obj) (K : PySem.W.Frag) : AlZ := ((tabs3 K).all fun p => isTab (g p.2.1), obsK fa ts E K)
def obsZ (n : Nat) (fa : List He.Fa) (ts : List FnT) (E : Ext) (g : Addr → Option Obj) : AlZ := obsT fa ts E g (frT g n E)
def hookZ (n : Nat) (fa : List He.Fa) (ts : List FnT) (E : Ext) : PySem.W.Hook where
  α := AlZ
  obs := fun s => obsZ n fa ts E s.heap.get?
  val := fun _ => (true, valZ ts E)
  says := fun _ h => ∃ K : PySem.W.Frag, K.In h ∧ SaysZ fa ts E K ∧ ∀ p ∈ tabs3 K, h.get? p.2.1 = some (PySem.W.tabObj #[])
  of := fun _ s e => by
    have e1 : ((tabs3 (frT s.heap.get? n E)).all fun p => isTab (s.heap.get? p.2.1)) = true := congrArg (fun z : AlZ => z.1) e
    have e2 : obsK fa ts E (frT s.heap.get? n E) = valZ ts E := congrArg (fun z : AlZ => z.2) e
    exact ⟨_, He.frG_in, e2, fun p hp => isTab_ok (List.all_eq_true.mp e1 p hp)⟩
  keeps := fun _ _ _ ⟨K, hK, c, t⟩ k => ⟨K, PySem.W.Frag.In.keeps hK k, c, fun p hp => k _ _ (t p hp)⟩
theorem obsZ_eq {n : Nat} {fa : List He.Fa} {ts : List FnT} {E : Ext} {g : Addr → Option Obj} {s : Shared} (h : ∀ a, g a = s.heap.get? a) : obsZ n fa ts E g = (hookZ n fa ts E).obs s := by
  have e : g = s.heap.get? := funext h
  rw [e] <;> rfl
section
variable {fa : List He.Fa} {ts : List FnT} {E : Ext} {K : PySem.W.Frag}
theorem SaysZ.all (c : SaysZ fa ts E K) : (fa.all fun f => f.ok K) = true ∧ (ts.all fun T => okZ K (plA K T.F.pl T.F.x) T.qn && plB K T) = true ∧ (E.xs.all fun T => xcB K E.fl T) = true ∧ outB K E.out = true ∧ tabsB K = true := by
  have h := congrArg (fun z : Bool × List He.FnW × List FnX × He.FnW => z.1) c
  obtain ⟨h1, h⟩ := and_tt h
  obtain ⟨h2, h⟩ := and_tt h
  obtain ⟨h3, h⟩ := and_tt h
  obtain ⟨h4, h5⟩ := and_tt h
  exact ⟨h1, h2, h3, h4, h5⟩
theorem SaysZ.fact (c : SaysZ fa ts E K) {f : He.Fa} (h : f ∈ fa) : f.ok K = true := List.all_eq_true.mp c.all.1 f h
theorem SaysZ.def_ (c : SaysZ fa ts E K) {T : FnT} (h : T ∈ ts) : (∃ fd, FunD K T.nm T.qn T.args (toSs T.F.body) T.F.sc [] [] (plA K T.F.pl T.F.x) fd) ∧ plB K T = true := by
  obtain ⟨h1, h2⟩ := and_tt (List.all_eq_true.mp c.all.2.1 T h)
  refine ⟨?_, h2⟩
  obtain ⟨i, hi⟩ := List.getElem?_of_mem h
  have e : ts.map (fun T => fnZ K (plA K T.F.pl T.F.x)) = ts.map FnT.val := congrArg (fun z : Bool × List He.FnW × List FnX × He.FnW => z.2.1) c
  have e2 : (ts.map fun T => fnZ K (plA K T.F.pl T.F.x))[i]? = (ts.map FnT.val)[i]? := by rw [e]
  rw [List.getElem?_map, List.getElem?_map, hi] at e2
  exact funZ (Option.some.inj e2) h1
theorem SaysZ.xc (c : SaysZ fa ts E K) {T : ExT} (h : T ∈ E.xs) : fnX K (initA K T.c) = T.val ∧ xcB K E.fl T = true := by
  refine ⟨?_, List.all_eq_true.mp c.all.2.2.1 T h⟩
  obtain ⟨i, hi⟩ := List.getElem?_of_mem h
  have e : E.xs.map (fun T => fnX K (initA K T.c)) = E.xs.map ExT.val := congrArg (fun z : Bool × List He.FnW × List FnX × He.FnW => z.2.2.1) c
  have e2 : (E.xs.map fun T => fnX K (initA K T.c))[i]? = (E.xs.map ExT.val)[i]? := by rw [e]
  rw [List.getElem?_map, List.getElem?_map, hi] at e2
  exact Option.some.inj e2
theorem tabs3_out {p : Addr × Addr × Str} (h : p ∈ tabs3 K) : K.lookup p.2.1 = none := by
  obtain ⟨q, _, hq⟩ := List.mem_filterMap.mp h
  split at hq
  · split at hq
    · split at hq
      · split at hq
        · rename_i P _
          by_cases hn : (K.lookup P).isNone = true
          · rw [if_pos hn] at hq
            cases hq
            exact Option.isNone_iff_eq_none.mp hn
          · rw [if_neg hn] at hq
            cases hq
        · cases hq
      · cases hq
    · cases hq
  · cases hq
theorem SaysZ.tabH {h : Heap} (c : SaysZ fa ts E K) (X : K.In h) (t : ∀ p ∈ tabs3 K, h.get? p.2.1 = some (PySem.W.tabObj #[])) : TabH K h :=
  ⟨t, fun _ hp => tabs3_out hp, fun p hp => PySem.W.codeHd_of_K X (and_tt (List.all_eq_true.mp c.all.2.2.2.2 p hp)).1⟩
theorem SaysZ.un (c : SaysZ fa ts E K) : ∀ q ∈ tabsF K, ∀ q' ∈ tabsF K, q.1 = q'.1 → q.2 = q'.2 := by
  intro q hq q' hq' e
  obtain ⟨p, hp, rfl⟩ := List.mem_map.mp hq
  obtain ⟨p', hp', rfl⟩ := List.mem_map.mp hq'
  have h := List.all_eq_true.mp (and_tt (List.all_eq_true.mp c.all.2.2.2.2 p hp)).2 p' hp'
  rcases Bool.or_eq_true_iff.mp h with h | h
  · exact absurd e (of_decide_eq_false (not_true h))
  · exact of_decide_eq_true h
end
/-- how its call binds -/
def BindP (T : FnT) : Prop := ∀ (x qual : Str) (body : List Stmt) (scope : Scope) (kV doc pm : Value) (an : Option Addr) (cdv ct : Value) (us : List Value), us.length = T.F.ps.length →
  bindArgs (PySem.W.fnOf x qual T.args body scope .none kV doc pm an cdv ct) { pos := us } = pure (T.F.ps.zip us)
def BindK (T : FnT) (q : Nat × List Str × List Nat) : Prop := ∀ (x qual : Str) (body : List Stmt) (scope : Scope) (kV doc pm : Value) (an : Option Addr) (cdv ct : Value) (us ws vals : List Value), us.length = q.1 → ws.length = q.2.1.length → pick q.2.2 (us ++ ws) = some vals →
  bindArgs (PySem.W.fnOf x qual T.args body scope .none kV doc pm an cdv ct) ⟨us, q.2.1.zip ws⟩ = pure (T.F.ps.zip vals)
def BindO : Option OutTx → Prop
  | none => True
  | some T => ∀ (x qual : Str) (body : List Stmt) (scope : Scope) (kV doc pm : Value) (an : Option Addr) (cdv ct : Value) (us : List Value), us.length = 1 → bindArgs (PySem.W.fnOf x qual T.args body scope .none kV doc pm an cdv ct) { pos := us } = pure ((["_law_ask"] : List Str).zip us)
def BindXs : List ExT → Prop
  | [] => True
  | T :: r => BindX T ∧ BindXs r
theorem bindXs_at : ∀ {l : List ExT}, BindXs l → ∀ T ∈ l, BindX T
  | [], _, _, h => by cases h
  | A :: r, hb, T, h => by
    rcases List.mem_cons.mp h with h | h
    · subst h; exact hb.1
    · exact bindXs_at hb.2 T h
def BindKs (T : FnT) : List (Nat × List Str × List Nat) → Prop
  | [] => True
  | q :: r => BindK T q ∧ BindKs T r
theorem bindKs_at {T : FnT} : ∀ {l : List (Nat × List Str × List Nat)}, BindKs T l → ∀ q ∈ l, BindK T q
  | [], _, _, h => by cases h
  | a :: l, hb, q, h => by
    rcases List.mem_cons.mp h with h | h
    · subst h; exact hb.1
    · exact bindKs_at hb.2 q h
def BindAll : List FnT → Prop
  | [] => True
  | T :: r => (BindP T ∧ BindKs T T.F.kws) ∧ BindAll r
theorem bindAll_at : ∀ {ts : List FnT}, BindAll ts → ∀ T ∈ ts, BindP T ∧ BindKs T T.F.kws
  | [], _, T, h => by cases h
  | A :: r, hb, T, h => by
    rcases List.mem_cons.mp h with h | h
    · subst h; exact hb.1
    · exact bindAll_at hb.2 T h
def xcsOf (E : Ext) : List (Str × Str × Str) := E.xs.map fun T => (T.c, T.f1, T.f2)
def outOf (E : Ext) : Option Str := E.out.map (·.x)
def tabOk (gl : List (Str × PyData)) (cls : List (Str × List Str)) (E : Ext) (ts : List FnT) : Bool := ts.all fun T => scOk T.F && okSs (gamOf gl cls (xcsOf E) (outOf E) (ts.map (·.F)) T.F) T.F.body
/-- the facts that a law's head is asked for -/
def faG : Str × PyData → He.Fa
  | (x, .int i) => .int x i
  | (x, .str z) => .str x z
  | (x, _) => .free x
def faT (T : FnT) : List He.Fa := match T.F.pl with
  | .top => [.glo T.F.x]
  | .meth c => [.meth c T.F.x]
  | .prop _ => []
def faC (q : Str × List Str) : List He.Fa := [.cls q.1, .glo q.1, .mkr q.1] ++ q.2.map (.noat q.1)
def faOf (gl : List (Str × PyData)) (cls : List (Str × List Str)) (ts : List FnT) : List He.Fa := ts.flatMap faT ++ (bltNames.map He.Fa.free ++ (gl.map faG ++ cls.flatMap faC))
def glPlain (gl : List (Str × PyData)) : Bool := gl.all fun p => match p.2 with
  | .int _ => true
  | .str _ => true
  | _ => false
theorem defs_ok {P : Program} {gl : List (Str × PyData)} {cls : List (Str × List Str)} {ts : List FnT} {fa : List He.Fa} {E : Ext} {K : PySem.W.Frag} {h : Heap} {mg : Str → Option Value} (X : K.In h) (G : h.Ns mainGlobals mg) (c : SaysZ fa ts E K) (hfa : fa = faOf gl cls ts) (hok : tabOk gl cls E ts = true) (hgp : glPlain gl = true) (hbi : BindAll ts) (hfl : P.main.file = E.fl) (htop : (P.main.scope.names.lookup ("super" : Str)).isSome = false) (hbx : BindXs E.xs) (hbo : BindO E.out) :
    (∀ F ∈ ts.map (·.F), DefOk K mg F) ∧ (∀ F ∈ ts.map (·.F), okSs (gamOf gl cls (xcsOf E) (outOf E) (ts.map (·.F)) F) F.body = true) ∧ (∀ x ∈ bltNames, mg x = none) ∧ (∀ q ∈ cls, ClsAt K mg q) ∧ GloOk mg gl ∧ (∀ q ∈ xcsOf E, ∃ fI, mg q.1 = some (.ref (He.ga K q.1)) ∧ RaiC P K (He.ga K q.1) fI q.2.1 q.2.2) ∧ ∀ x, outOf E = some x → OutAt K mg x := by
  have hall := List.all_eq_true.mp hok
  refine ⟨fun F hF => ?_, fun F hF => ?_, fun x hx => ?_, fun q hq => ?_, fun x d hd => ?_, fun q hq => ?_, fun x hx => ?_⟩
  · obtain ⟨T, hT, rfl⟩ := List.mem_map.mp hF
    obtain ⟨h2, h3⟩ := and_tt (hall T hT)
    refine ⟨?_, scOk_ok h2⟩
    obtain ⟨⟨fd, D2⟩, hpl0⟩ := c.def_ hT
    obtain ⟨hpl, hlam⟩ := and_tt hpl0
    have hm : WhereP K mg T.F.pl T.F.x (plA K T.F.pl T.F.x) := by
      have hsub : ∀ f ∈ faT T, f.ok K = true := fun f hf => c.fact (by rw [hfa]; exact List.mem_append_left _ (List.mem_flatMap.mpr ⟨T, hT, hf⟩))
      unfold faT at hsub
      cases e : T.F.pl with
      | top =>
        rw [e] at hsub
        exact He.glo_ok X G (hsub _ (by simp))
      | meth c' =>
        rw [e] at hsub
        exact He.meth_ok (hsub _ (by simp))
      | prop c' =>
        rw [e] at hpl
        exact propB_ok hpl
    refine ⟨plA K T.F.pl T.F.x, fd, T.nm, T.qn, T.args, [], hm, D2, ?_, fun q hq => ?_, fun hl => ?_⟩
    case refine_3 => exact lamB_ok D2 (by rw [hl] at hlam; simpa using hlam)
    case refine_2 =>
      obtain ⟨oc, od, dV, kV, doc, pm, an, cdv, ct, osl, e1, _, _, hD, _⟩ := D2.ex
      rcases hD with ⟨_, e2⟩ | ⟨e2, _⟩
      · subst e1 e2
        exact fun s us ws vals hk l1 l2 hp => .of_eq (bindKs_at (bindAll_at hbi T hT).2 q hq _ _ _ _ kV doc pm an cdv ct us ws vals l1 l2 hp)
      · exact absurd rfl e2
    intro s us hk hl
    rw [List.append_nil] at hl ⊢
    exact FunD.bindsA (ps := T.F.ps) D2 (fun kV doc pm an cdv ct us hl => (bindAll_at hbi T hT).1 _ _ _ _ kV doc pm an cdv ct us hl) s us hl
  · obtain ⟨T, hT, rfl⟩ := List.mem_map.mp hF
    exact (and_tt (hall T hT)).2
  · exact He.free_ok X G (c.fact (by rw [hfa]; exact List.mem_append_right _ (List.mem_append_left _ (List.mem_map.mpr ⟨x, hx, rfl⟩))))
  · have hsub : ∀ f ∈ faC q, f.ok K = true := fun f hf => c.fact (by rw [hfa]; exact List.mem_append_right _ (List.mem_append_right _ (List.mem_append_right _ (List.mem_flatMap.mpr ⟨q, hq, hf⟩))))
    exact ⟨He.cls_ok (hsub (.cls q.1) (by simp [faC])), He.glo_ok X G (hsub (.glo q.1) (by simp [faC])), ⟨_, He.mkr_ok (hsub (.mkr q.1) (by simp [faC]))⟩, fun f hf => He.noat_ok (hsub (.noat q.1 f) (by simp [faC, hf]))⟩
  · have hmem : ∀ (l : List (Str × PyData)), l.lookup x = some d → (x, d) ∈ l := by
      intro l
      induction l with
      | nil => intro h; cases h
      | cons p l ih =>
        obtain ⟨y, z⟩ := p
        intro h
        rw [List.lookup_cons] at h
        cases e : x == y with
        | true =>
          rw [e] at h
          cases h
          rw [beq_iff_eq.mp e]
          exact List.mem_cons_self
        | false =>
          rw [e] at h
          exact List.mem_cons_of_mem _ (ih h)
    have h1 := hmem gl hd
    have h2 := List.all_eq_true.mp hgp _ h1
    have hm : faG (x, d) ∈ fa := by rw [hfa]; exact List.mem_append_right _ (List.mem_append_right _ (List.mem_append_left _ (List.mem_map.mpr ⟨_, h1, rfl⟩)))
    cases d with
    | int k => exact .inl ⟨k, rfl, He.int_ok X G (c.fact hm)⟩
    | str z => exact .inr ⟨z, rfl, He.str_ok X G (c.fact hm)⟩
    | _ => cases h2
  · obtain ⟨T, hT, rfl⟩ := List.mem_map.mp hq
    obtain ⟨e1, e2⟩ := c.xc hT
    exact xc_ok X G e1 e2 hfl htop (bindXs_at hbx T hT)
  · cases ho : E.out with
    | none => unfold outOf at hx; rw [ho] at hx; cases hx
    | some T =>
      unfold outOf at hx
      rw [ho] at hx hbo
      cases hx
      have hB := c.all.2.2.2.1
      rw [ho] at hB
      have hZ : outZ K E.out = outV E.out := congrArg (fun z : Bool × List He.FnW × List FnX × He.FnW => z.2.2.2) c
      rw [ho] at hZ
      obtain ⟨g1, hB⟩ := and_tt hB
      obtain ⟨g2, hB⟩ := and_tt hB
      obtain ⟨g3, hB⟩ := and_tt hB
      obtain ⟨g4, hB⟩ := and_tt hB
      obtain ⟨g5, g6⟩ := and_tt hB
      obtain ⟨fd, D⟩ := funY (nm := T.x) (qn := T.x) (args := T.args) (body := outBody T.p) (sc := T.sc) hZ g2
      obtain ⟨s1, s2⟩ := and_tt g3
      obtain ⟨s2, s3⟩ := and_tt s2
      have hfree : ∀ y ∈ bltNames, mg y = none := fun y hy => He.free_ok X G (c.fact (by rw [hfa]; exact List.mem_append_right _ (List.mem_append_left _ (List.mem_map.mpr ⟨y, hy, rfl⟩))))
      refine ⟨He.ga K T.x, fd, T.args, T.sc, T.p, PySem.W.mg_of X G (He.eqO_ok g1), D.kp, D, fun s us hk hl => ?_, ⟨scOk_ok s1, fun y hy => of_decide_eq_true (List.all_eq_true.mp s2 y hy), fun y hy => of_decide_eq_true (List.all_eq_true.mp s3 y hy)⟩, ⟨fun y hy => PySem.W.mg_of X G (He.eqO_ok (List.all_eq_true.mp g4 y hy)), hfree _ (by decide +kernel), hfree _ (by decide +kernel)⟩, ⟨outD_ok g5, outD_ok g6⟩⟩
      rw [List.append_nil] at hl ⊢
      exact FunD.bindsA (ps := ["_law_ask"]) D (fun kV doc pm an cdv ct us hl => hbo _ _ _ _ kV doc pm an cdv ct us hl) s us hl
theorem fund_one {K : PySem.W.Frag} {x qual x' qual' : Str} {params params' : Arguments} {body body' : List Stmt} {scope scope' : Scope} {dvs dvs' : List V} {kws kws' : List (Str × V)} {f : Addr} {fd fd' : FuncData} (a : FunD K x qual params body scope dvs kws f fd) (b : FunD K x' qual' params' body' scope' dvs' kws' f fd') : fd = fd' := by
  obtain ⟨oc, od, dV, kV, doc, pm, an, cdv, ct, osl, q1, q2, _⟩ := a.ex
  obtain ⟨oc', od', dV', kV', doc', pm', an', cdv', ct', osl', p1, p2, _⟩ := b.ex
  rw [q2] at p2
  cases p2
  rfl
/-- the script as data -/
def scriptD (ns : List Int) : Vl := .d (.list (ns.map .int))
theorem law_facts {P : Program} {w : World} {gl : List (Str × PyData)} {cls : List (Str × List Str)} {ts : List FnT} {fa : List He.Fa} {E : Ext} {K : PySem.W.Frag} {h : Heap} {mg : Str → Option Value} {fl : Addr} {n lvl j : Nat} {F : FnS} {x : Str} (X : K.In h) (G : h.Ns mainGlobals mg) (c : SaysZ fa ts E K) (tt : ∀ p ∈ tabs3 K, h.get? p.2.1 = some (PySem.W.tabObj #[])) (hfa : fa = faOf gl cls ts) (hok : tabOk gl cls E ts = true) (hgp : glPlain gl = true) (hbi : BindAll ts) (hfl : P.main.file = E.fl) (htop : (P.main.scope.names.lookup ("super" : Str)).isSome = false) (hbx : BindXs E.xs) (hbo : BindO E.out)
    (hj : (ts.map (·.F))[j]? = some F) (hx : F.ps = [x]) (hpl : F.pl = .top) (hmg : mg F.x = some (.ref fl))
    (hrun : ∀ ns : List Int, ns.length ≤ n → ∃ M, run (ts.map (·.F)) lvl j [scriptD ns] [] = .ok (.d (.bool true)) M) :
    ∃ K fd sp, PySem.W.Frag.In K h ∧ TabH K h ∧ (∀ (s : Shared) (u : Value), BindsTo s fd ⟨[u], []⟩ [(x, u)]) ∧
        (∀ (H : Hp) (a : Addr) (ns : List Int), ns.length ≤ n → TrH K H → SqL K H a (ns.map V.int) → sp [.ref a] H (fun v _ => v = .bl true) fun _ _ _ => False) ∧
        ∀ base : Heap, K.In base → base.Ns mainGlobals mg → (∀ p ∈ tabs3 K, LamX.TabB base mg p.1 p.2.1) → FnG P w K mg base (L2.CX P w) (4 * lvl + 4) fl fd [x] sp := by
  obtain ⟨hd, hb, hn, hcl, hg, hxc, hout⟩ := defs_ok (P := P) X G c hfa hok hgp hbi hfl htop hbx hbo
  -- the function's object is the same over every base
  have D := hd F (List.mem_of_getElem? hj)
  obtain ⟨f0, fd, nm, qual, params, kws, h1, h2, h3, _, _⟩ := D.fd
  rw [hpl] at h1
  have h1 : mg F.x = some (.ref f0) := h1
  have e0 : f0 = fl := by rw [hmg] at h1; cases h1; rfl
  subst e0
  refine ⟨K, fd, spOf K F.ps (run (ts.map (·.F)) lvl j), X, c.tabH X tt, fun s u => ?_, fun H a ns hl Tr hS => ?_, fun base hB hN hTB => ?_⟩
  · have sK : ∀ (us : List Value), us.length = F.ps.length → BindsTo s fd ⟨us, []⟩ (F.ps.zip us) := by
      obtain ⟨T, hT, eT⟩ := List.mem_map.mp (List.mem_of_getElem? hj)
      obtain ⟨⟨fd', D'⟩, _⟩ := c.def_ hT
      have hp2 : T.F.pl = .top := by rw [eT]; exact hpl
      have ha : plA K T.F.pl T.F.x = f0 := by
        have hm := He.glo_ok X G (c.fact (f := .glo T.F.x) (by rw [hfa]; exact List.mem_append_left _ (List.mem_flatMap.mpr ⟨T, hT, by unfold faT; rw [hp2]; simp⟩)))
        rw [eT, hmg] at hm
        cases hm
        rw [hp2, eT]
        rfl
      rw [ha] at D'
      have efd : fd' = fd := fund_one D' h2
      subst efd
      intro us hl
      rw [← eT] at hl ⊢
      exact FunD.bindsA (ps := T.F.ps) D' (fun kV doc pm an cdv ct us hl => (bindAll_at hbi T hT).1 _ _ _ _ kV doc pm an cdv ct us hl) s us hl
    have := sK [u] (by rw [hx]; rfl)
    rw [hx] at this
    exact this
  · obtain ⟨M, hr⟩ := hrun ns hl
    have nz : ∀ b u, H b = some u → (∀ ps, u ≠ .tbl ps) → (fun b => if b ∈ tabT K then none else H b) b = some u := fun b u e hu => by
      have hb : b ∉ tabT K := fun z => by
        rw [Tr.tb b z] at e
        exact hu _ (Option.some.inj e).symm
      show (if b ∈ tabT K then none else H b) = some u
      rw [if_neg hb]
      exact e
    have hZ : SqL K (fun b => if b ∈ tabT K then none else H b) a (ns.map V.int) := by
      rcases hS with (e | ⟨o, e⟩) | e
      · exact .inl (.inl (nz _ _ e (fun _ z => by cases z)))
      · exact .inl (.inr ⟨o, nz _ _ e (fun _ z => by cases z)⟩)
      · exact .inr e
    have hR : RelM K ⟨fun b => if b ∈ tabT K then none else H b, []⟩ H [] := by
      refine ⟨fun b ps z => ?_, fun q hq => ?_, fun b o z => ?_, rfl, List.nodup_nil, fun n a c h => by simp at h⟩
      · have z : (if b ∈ tabT K then none else H b) = some (.tbl ps) := z
        by_cases hb : b ∈ tabT K
        · rw [if_pos hb] at z; cases z
        · rw [if_neg hb] at z
          exact hb (Tr.on b ps z)
      · obtain ⟨p, hp, rfl⟩ := List.mem_map.mp hq
        exact LamX.TabS.nil (Tr.tb _ (List.mem_map.mpr ⟨p, hp, rfl⟩))
      · have z : (if b ∈ tabT K then none else H b) = some o := z
        by_cases hb : b ∈ tabT K
        · rw [if_pos hb] at z; cases z
        · rw [if_neg hb] at z
          exact z
    refine ⟨by rw [hx]; rfl, ⟨fun b => if b ∈ tabT K then none else H b, []⟩, [], [], [scriptD ns], hR, .cons (Dq.lst hZ (DqAll.ints ns)) .nil, ?_⟩
    rw [hr]
    intro v H' W' _ _ r
    have r : Dq K W'.Z v (.bool true) := r
    cases r
    rfl
  · obtain ⟨f, fd', ⟨nm', qual', params', kws', D'⟩, e2, e3, e4, _, e5⟩ := tab_ok (P := P) (w := w) (base := base) hd hb hg hn hcl hxc hout c.un hTB lvl j F hj
    rw [hpl] at e2
    have e2 : mg F.x = some (.ref f) := e2
    rw [hmg] at e2
    cases e2
    have efd : fd' = fd := fund_one D' h2
    subst efd
    rw [hx] at e5 ⊢
    exact e5
end Ev

namespace Law
open PySem PySem.Spec PyProof.Rows L2 Ev
def sc0 : Scope := { kind := PySem.ScopeKind.function, names := [((PySem.Str.ofString "tree"), PySem.NameKind.local), ((PySem.Str.ofString "path"), PySem.NameKind.local), ((PySem.Str.ofString "service"), PySem.NameKind.local), ((PySem.Str.ofString "mark"), PySem.NameKind.local), ((PySem.Str.ofString "trees"), PySem.NameKind.local), ((PySem.Str.ofString "found"), PySem.NameKind.local), ((PySem.Str.ofString "j"), PySem.NameKind.local), ((PySem.Str.ofString "own"), PySem.NameKind.local), ((PySem.Str.ofString "enumerate"), PySem.NameKind.globalImplicit), ((PySem.Str.ofString "spans_within"), PySem.NameKind.globalImplicit)], isGenerator := false, isCoroutine := false, more := [] : PySem.Scope }
def sc1 : Scope := { kind := PySem.ScopeKind.function, names := [((PySem.Str.ofString "tree"), PySem.NameKind.local), ((PySem.Str.ofString "tuple"), PySem.NameKind.globalImplicit), ((PySem.Str.ofString "spans_within"), PySem.NameKind.globalImplicit)], isGenerator := false, isCoroutine := false, more := [] : PySem.Scope }
def sc2 : Scope := { kind := PySem.ScopeKind.function, names := [((PySem.Str.ofString ".0"), PySem.NameKind.local), ((PySem.Str.ofString "path"), PySem.NameKind.local), ((PySem.Str.ofString "service"), PySem.NameKind.local), ((PySem.Str.ofString "mark"), PySem.NameKind.local)], isGenerator := false, isCoroutine := false, more := [] : PySem.Scope }
def sc3 : Scope := { kind := PySem.ScopeKind.function, names := [((PySem.Str.ofString "tree"), PySem.NameKind.local), ((PySem.Str.ofString "spans_of"), PySem.NameKind.globalImplicit)], isGenerator := false, isCoroutine := false, more := [((PySem.Str.ofString "fast"), (PySem.Const.str "tree")), ((PySem.Str.ofString "fast"), (PySem.Const.str "path")), ((PySem.Str.ofString "fast"), (PySem.Const.str "service")), ((PySem.Str.ofString "fast"), (PySem.Const.str "mark"))] : PySem.Scope }
def sc4 : Scope := { kind := PySem.ScopeKind.function, names := [((PySem.Str.ofString ".0"), PySem.NameKind.local), ((PySem.Str.ofString "k"), PySem.NameKind.local), ((PySem.Str.ofString "call"), PySem.NameKind.local), ((PySem.Str.ofString "path"), PySem.NameKind.free)], isGenerator := false, isCoroutine := false, more := [] : PySem.Scope }
def sc5 : Scope := { kind := PySem.ScopeKind.function, names := [((PySem.Str.ofString ".0"), PySem.NameKind.local), ((PySem.Str.ofString "call"), PySem.NameKind.local), ((PySem.Str.ofString "own"), PySem.NameKind.local), ((PySem.Str.ofString "kept_tree"), PySem.NameKind.globalImplicit), ((PySem.Str.ofString "kept"), PySem.NameKind.free)], isGenerator := false, isCoroutine := false, more := [] : PySem.Scope }
def sc6 : Scope := { kind := PySem.ScopeKind.function, names := [((PySem.Str.ofString "tree"), PySem.NameKind.local), ((PySem.Str.ofString "path"), PySem.NameKind.cell), ((PySem.Str.ofString "kept"), PySem.NameKind.cell), ((PySem.Str.ofString "service"), PySem.NameKind.local), ((PySem.Str.ofString "mark"), PySem.NameKind.local), ((PySem.Str.ofString "calls"), PySem.NameKind.local), ((PySem.Str.ofString "below"), PySem.NameKind.local), ((PySem.Str.ofString "enumerate"), PySem.NameKind.globalImplicit), ((PySem.Str.ofString "tuple"), PySem.NameKind.globalImplicit), ((PySem.Str.ofString "sorted"), PySem.NameKind.globalImplicit)], isGenerator := false, isCoroutine := false, more := [((PySem.Str.ofString "fast"), (PySem.Const.str "tree")), ((PySem.Str.ofString "fast"), (PySem.Const.str "path")), ((PySem.Str.ofString "fast"), (PySem.Const.str "kept")), ((PySem.Str.ofString "fast"), (PySem.Const.str "service")), ((PySem.Str.ofString "fast"), (PySem.Const.str "mark")), ((PySem.Str.ofString "fast"), (PySem.Const.str "calls")), ((PySem.Str.ofString "fast"), (PySem.Const.str "k")), ((PySem.Str.ofString "fast"), (PySem.Const.str "call")), ((PySem.Str.ofString "fast"), (PySem.Const.str "below")), ((PySem.Str.ofString "fast"), (PySem.Const.str "own"))] : PySem.Scope }
def sc7 : Scope := { kind := PySem.ScopeKind.function, names := [((PySem.Str.ofString "tree"), PySem.NameKind.local), ((PySem.Str.ofString "path"), PySem.NameKind.cell), ((PySem.Str.ofString "kept"), PySem.NameKind.cell), ((PySem.Str.ofString "call"), PySem.NameKind.local), ((PySem.Str.ofString "below"), PySem.NameKind.local), ((PySem.Str.ofString "own"), PySem.NameKind.local), ((PySem.Str.ofString "trees"), PySem.NameKind.local), ((PySem.Str.ofString "found"), PySem.NameKind.local), ((PySem.Str.ofString "enumerate"), PySem.NameKind.globalImplicit), ((PySem.Str.ofString "tuple"), PySem.NameKind.globalImplicit), ((PySem.Str.ofString "sorted"), PySem.NameKind.globalImplicit), ((PySem.Str.ofString "lost_pieces"), PySem.NameKind.globalImplicit)], isGenerator := false, isCoroutine := false, more := [((PySem.Str.ofString "fast"), (PySem.Const.str "tree")), ((PySem.Str.ofString "fast"), (PySem.Const.str "path")), ((PySem.Str.ofString "fast"), (PySem.Const.str "kept")), ((PySem.Str.ofString "fast"), (PySem.Const.str "k")), ((PySem.Str.ofString "fast"), (PySem.Const.str "call")), ((PySem.Str.ofString "fast"), (PySem.Const.str "below")), ((PySem.Str.ofString "fast"), (PySem.Const.str "own")), ((PySem.Str.ofString "fast"), (PySem.Const.str "trees")), ((PySem.Str.ofString "fast"), (PySem.Const.str "found"))] : PySem.Scope }
def sc8 : Scope := { kind := PySem.ScopeKind.function, names := [((PySem.Str.ofString "tree"), PySem.NameKind.local), ((PySem.Str.ofString "kept"), PySem.NameKind.local), ((PySem.Str.ofString "tops"), PySem.NameKind.local), ((PySem.Str.ofString "kept_tree"), PySem.NameKind.globalImplicit), ((PySem.Str.ofString "tuple"), PySem.NameKind.globalImplicit), ((PySem.Str.ofString "sorted"), PySem.NameKind.globalImplicit), ((PySem.Str.ofString "lost_pieces"), PySem.NameKind.globalImplicit)], isGenerator := false, isCoroutine := false, more := [] : PySem.Scope }
def sc9 : Scope := { kind := PySem.ScopeKind.function, names := [((PySem.Str.ofString ".0"), PySem.NameKind.local), ((PySem.Str.ofString "path"), PySem.NameKind.local), ((PySem.Str.ofString "kept"), PySem.NameKind.free)], isGenerator := false, isCoroutine := false, more := [] : PySem.Scope }
def sc10 : Scope := { kind := PySem.ScopeKind.function, names := [((PySem.Str.ofString "tree"), PySem.NameKind.local), ((PySem.Str.ofString "kept"), PySem.NameKind.cell), ((PySem.Str.ofString "paths"), PySem.NameKind.local), ((PySem.Str.ofString "paths_of"), PySem.NameKind.globalImplicit), ((PySem.Str.ofString "isinstance"), PySem.NameKind.globalImplicit), ((PySem.Str.ofString "tuple"), PySem.NameKind.globalImplicit), ((PySem.Str.ofString "repr"), PySem.NameKind.globalImplicit), ((PySem.Str.ofString "NotUsable"), PySem.NameKind.globalImplicit), ((PySem.Str.ofString "raw_sight"), PySem.NameKind.globalImplicit)], isGenerator := false, isCoroutine := false, more := [((PySem.Str.ofString "fast"), (PySem.Const.str "tree")), ((PySem.Str.ofString "fast"), (PySem.Const.str "kept")), ((PySem.Str.ofString "fast"), (PySem.Const.str "paths")), ((PySem.Str.ofString "fast"), (PySem.Const.str "path"))] : PySem.Scope }
def sc11 : Scope := { kind := PySem.ScopeKind.function, names := [((PySem.Str.ofString "_law_script"), PySem.NameKind.local), ((PySem.Str.ofString "list"), PySem.NameKind.globalImplicit)], isGenerator := false, isCoroutine := false, more := [] : PySem.Scope }
def sc12 : Scope := { kind := PySem.ScopeKind.function, names := [((PySem.Str.ofString "_law_feed_here"), PySem.NameKind.local), ((PySem.Str.ofString "_law_many"), PySem.NameKind.local), ((PySem.Str.ofString "_law_digit_now"), PySem.NameKind.local), ((PySem.Str.ofString "_law_cell"), PySem.NameKind.local), ((PySem.Str.ofString "_law_turn"), PySem.NameKind.local), ((PySem.Str.ofString "_law_mixed"), PySem.NameKind.local), ((PySem.Str.ofString "int"), PySem.NameKind.globalImplicit), ((PySem.Str.ofString "len"), PySem.NameKind.globalImplicit)], isGenerator := false, isCoroutine := false, more := [] : PySem.Scope }
def sc13 : Scope := { kind := PySem.ScopeKind.function, names := [((PySem.Str.ofString "_law_feed_here"), PySem.NameKind.local), ((PySem.Str.ofString "_law_some"), PySem.NameKind.local), ((PySem.Str.ofString "_law_draw"), PySem.NameKind.globalImplicit), ((PySem.Str.ofString "len"), PySem.NameKind.globalImplicit)], isGenerator := false, isCoroutine := false, more := [] : PySem.Scope }
def sc14 : Scope := { kind := PySem.ScopeKind.function, names := [((PySem.Str.ofString "_law_root"), PySem.NameKind.local), ((PySem.Str.ofString "_law_way"), PySem.NameKind.local), ((PySem.Str.ofString "_law_found"), PySem.NameKind.local), ((PySem.Str.ofString "_law_k"), PySem.NameKind.local), ((PySem.Str.ofString "_law_call"), PySem.NameKind.local), ((PySem.Str.ofString "enumerate"), PySem.NameKind.globalImplicit), ((PySem.Str.ofString "_law_spans"), PySem.NameKind.globalImplicit)], isGenerator := false, isCoroutine := false, more := [] : PySem.Scope }
def sc15 : Scope := { kind := PySem.ScopeKind.function, names := [((PySem.Str.ofString "_law_root"), PySem.NameKind.local), ((PySem.Str.ofString "_law_way"), PySem.NameKind.local), ((PySem.Str.ofString "_law_held"), PySem.NameKind.local), ((PySem.Str.ofString "_law_below"), PySem.NameKind.local), ((PySem.Str.ofString "_law_pieces_now"), PySem.NameKind.local), ((PySem.Str.ofString "_law_k"), PySem.NameKind.local), ((PySem.Str.ofString "_law_call"), PySem.NameKind.local), ((PySem.Str.ofString "_law_own"), PySem.NameKind.local), ((PySem.Str.ofString "_law_more"), PySem.NameKind.local), ((PySem.Str.ofString "enumerate"), PySem.NameKind.globalImplicit), ((PySem.Str.ofString "_law_seen"), PySem.NameKind.globalImplicit), ((PySem.Str.ofString "tuple"), PySem.NameKind.globalImplicit), ((PySem.Str.ofString "sorted"), PySem.NameKind.globalImplicit), ((PySem.Str.ofString "int"), PySem.NameKind.globalImplicit)], isGenerator := false, isCoroutine := false, more := [] : PySem.Scope }
def sc16 : Scope := { kind := PySem.ScopeKind.function, names := [((PySem.Str.ofString "_law_seen_here"), PySem.NameKind.local), ((PySem.Str.ofString "_law_held"), PySem.NameKind.local), ((PySem.Str.ofString "_law_found"), PySem.NameKind.local), ((PySem.Str.ofString "_law_i"), PySem.NameKind.local), ((PySem.Str.ofString "_law_word"), PySem.NameKind.local), ((PySem.Str.ofString "_law_part"), PySem.NameKind.local), ((PySem.Str.ofString "_law_own"), PySem.NameKind.local), ((PySem.Str.ofString "_law_more"), PySem.NameKind.local), ((PySem.Str.ofString "enumerate"), PySem.NameKind.globalImplicit), ((PySem.Str.ofString "_law_seen"), PySem.NameKind.globalImplicit), ((PySem.Str.ofString "tuple"), PySem.NameKind.globalImplicit), ((PySem.Str.ofString "sorted"), PySem.NameKind.globalImplicit)], isGenerator := false, isCoroutine := false, more := [] : PySem.Scope }
def sc17 : Scope := { kind := PySem.ScopeKind.function, names := [((PySem.Str.ofString ".0"), PySem.NameKind.local), ((PySem.Str.ofString "_law_way"), PySem.NameKind.local)], isGenerator := false, isCoroutine := false, more := [] : PySem.Scope }
def sc18 : Scope := { kind := PySem.ScopeKind.function, names := [((PySem.Str.ofString "_law_root"), PySem.NameKind.local), ((PySem.Str.ofString "_law_held"), PySem.NameKind.local), ((PySem.Str.ofString "_law_kept_sight"), PySem.NameKind.globalImplicit)], isGenerator := false, isCoroutine := false, more := [((PySem.Str.ofString "fast"), (PySem.Const.str "_law_root")), ((PySem.Str.ofString "fast"), (PySem.Const.str "_law_held")), ((PySem.Str.ofString "fast"), (PySem.Const.str "_law_way"))] : PySem.Scope }
def sc19 : Scope := { kind := PySem.ScopeKind.function, names := [((PySem.Str.ofString ".0"), PySem.NameKind.local), ((PySem.Str.ofString "_law_lot"), PySem.NameKind.local), ((PySem.Str.ofString "_law_one"), PySem.NameKind.free)], isGenerator := false, isCoroutine := false, more := [] : PySem.Scope }
def sc20 : Scope := { kind := PySem.ScopeKind.function, names := [((PySem.Str.ofString "_law_some"), PySem.NameKind.local), ((PySem.Str.ofString "_law_found"), PySem.NameKind.local), ((PySem.Str.ofString "_law_one"), PySem.NameKind.cell)], isGenerator := false, isCoroutine := false, more := [((PySem.Str.ofString "fast"), (PySem.Const.str "_law_some")), ((PySem.Str.ofString "fast"), (PySem.Const.str "_law_found")), ((PySem.Str.ofString "fast"), (PySem.Const.str "_law_one")), ((PySem.Str.ofString "fast"), (PySem.Const.str "_law_lot"))] : PySem.Scope }
def sc21 : Scope := { kind := PySem.ScopeKind.function, names := [((PySem.Str.ofString "_law_feed_here"), PySem.NameKind.local), ((PySem.Str.ofString "_law_left"), PySem.NameKind.local), ((PySem.Str.ofString "_law_deep"), PySem.NameKind.local), ((PySem.Str.ofString "_law_name"), PySem.NameKind.local), ((PySem.Str.ofString "_law_mark"), PySem.NameKind.local), ((PySem.Str.ofString "_law_calls"), PySem.NameKind.local), ((PySem.Str.ofString "_law_k"), PySem.NameKind.local), ((PySem.Str.ofString "_law_choice"), PySem.NameKind.globalImplicit), ((PySem.Str.ofString "int"), PySem.NameKind.globalImplicit), ((PySem.Str.ofString "_law_draw"), PySem.NameKind.globalImplicit), ((PySem.Str.ofString "range"), PySem.NameKind.globalImplicit), ((PySem.Str.ofString "_law_some_tree"), PySem.NameKind.globalImplicit), ((PySem.Str.ofString "tuple"), PySem.NameKind.globalImplicit), ((PySem.Str.ofString "sorted"), PySem.NameKind.globalImplicit)], isGenerator := false, isCoroutine := false, more := [] : PySem.Scope }
def sc22 : Scope := { kind := PySem.ScopeKind.function, names := [((PySem.Str.ofString "_law_alone"), PySem.NameKind.local), ((PySem.Str.ofString "_law_fine"), PySem.NameKind.local), ((PySem.Str.ofString "_law_wrong"), PySem.NameKind.local)], isGenerator := false, isCoroutine := false, more := [] : PySem.Scope }
def sc23 : Scope := { kind := PySem.ScopeKind.function, names := [((PySem.Str.ofString "_law_pay"), PySem.NameKind.local), ((PySem.Str.ofString "_law_bad"), PySem.NameKind.local), ((PySem.Str.ofString "_law_first"), PySem.NameKind.local)], isGenerator := false, isCoroutine := false, more := [] : PySem.Scope }
def sc24 : Scope := { kind := PySem.ScopeKind.function, names := [((PySem.Str.ofString ".0"), PySem.NameKind.local), ((PySem.Str.ofString "_law_span"), PySem.NameKind.local)], isGenerator := false, isCoroutine := false, more := [] : PySem.Scope }
def sc25 : Scope := { kind := PySem.ScopeKind.function, names := [((PySem.Str.ofString ".0"), PySem.NameKind.local), ((PySem.Str.ofString "_law_own"), PySem.NameKind.local), ((PySem.Str.ofString "repr"), PySem.NameKind.globalImplicit)], isGenerator := false, isCoroutine := false, more := [] : PySem.Scope }
def sc26 : Scope := { kind := PySem.ScopeKind.function, names := [((PySem.Str.ofString "_law_root"), PySem.NameKind.local), ((PySem.Str.ofString "_law_item"), PySem.NameKind.local), ((PySem.Str.ofString "_law_ways"), PySem.NameKind.local), ((PySem.Str.ofString "_law_k"), PySem.NameKind.local), ((PySem.Str.ofString "_law_way"), PySem.NameKind.local), ((PySem.Str.ofString "_law_spans"), PySem.NameKind.globalImplicit), ((PySem.Str.ofString "isinstance"), PySem.NameKind.globalImplicit), ((PySem.Str.ofString "tuple"), PySem.NameKind.globalImplicit), ((PySem.Str.ofString "enumerate"), PySem.NameKind.globalImplicit), ((PySem.Str.ofString "repr"), PySem.NameKind.globalImplicit), ((PySem.Str.ofString "_law_own_sight"), PySem.NameKind.globalImplicit), ((PySem.Str.ofString "list"), PySem.NameKind.globalImplicit)], isGenerator := false, isCoroutine := false, more := [((PySem.Str.ofString "fast"), (PySem.Const.str "_law_root")), ((PySem.Str.ofString "fast"), (PySem.Const.str "_law_item")), ((PySem.Str.ofString "fast"), (PySem.Const.str "_law_span")), ((PySem.Str.ofString "fast"), (PySem.Const.str "_law_ways")), ((PySem.Str.ofString "fast"), (PySem.Const.str "_law_k")), ((PySem.Str.ofString "fast"), (PySem.Const.str "_law_way")), ((PySem.Str.ofString "fast"), (PySem.Const.str "_law_own"))] : PySem.Scope }
def sc27 : Scope := { kind := PySem.ScopeKind.function, names := [((PySem.Str.ofString ".0"), PySem.NameKind.local), ((PySem.Str.ofString "_law_lot"), PySem.NameKind.local), ((PySem.Str.ofString "tuple"), PySem.NameKind.globalImplicit)], isGenerator := false, isCoroutine := false, more := [] : PySem.Scope }
def sc28 : Scope := { kind := PySem.ScopeKind.function, names := [((PySem.Str.ofString "_law_item"), PySem.NameKind.free), ((PySem.Str.ofString "_law_root"), PySem.NameKind.free), ((PySem.Str.ofString "sight_of"), PySem.NameKind.globalImplicit)], isGenerator := false, isCoroutine := false, more := [] : PySem.Scope }
def sc29 : Scope := { kind := PySem.ScopeKind.function, names := [((PySem.Str.ofString "_law_root"), PySem.NameKind.cell), ((PySem.Str.ofString "_law_ways"), PySem.NameKind.local), ((PySem.Str.ofString "_law_items"), PySem.NameKind.local), ((PySem.Str.ofString "_law_every"), PySem.NameKind.local), ((PySem.Str.ofString "_law_before"), PySem.NameKind.local), ((PySem.Str.ofString "_law_due_here"), PySem.NameKind.local), ((PySem.Str.ofString "_law_told"), PySem.NameKind.local), ((PySem.Str.ofString "_law_item"), PySem.NameKind.cell), ((PySem.Str.ofString "_law_spans"), PySem.NameKind.globalImplicit), ((PySem.Str.ofString "_law_sets"), PySem.NameKind.globalImplicit), ((PySem.Str.ofString "list"), PySem.NameKind.globalImplicit), ((PySem.Str.ofString "repr"), PySem.NameKind.globalImplicit), ((PySem.Str.ofString "_law_due"), PySem.NameKind.globalImplicit), ((PySem.Str.ofString "_law_outcome"), PySem.NameKind.globalImplicit)], isGenerator := false, isCoroutine := false, more := [((PySem.Str.ofString "fast"), (PySem.Const.str "_law_root")), ((PySem.Str.ofString "fast"), (PySem.Const.str "_law_span")), ((PySem.Str.ofString "fast"), (PySem.Const.str "_law_ways")), ((PySem.Str.ofString "fast"), (PySem.Const.str "_law_lot")), ((PySem.Str.ofString "fast"), (PySem.Const.str "_law_items")), ((PySem.Str.ofString "fast"), (PySem.Const.str "_law_every")), ((PySem.Str.ofString "fast"), (PySem.Const.str "_law_before")), ((PySem.Str.ofString "fast"), (PySem.Const.str "_law_due_here")), ((PySem.Str.ofString "fast"), (PySem.Const.str "_law_told")), ((PySem.Str.ofString "fast"), (PySem.Const.str "_law_own")), ((PySem.Str.ofString "fast"), (PySem.Const.str "_law_item"))] : PySem.Scope }
def sc30 : Scope := { kind := PySem.ScopeKind.function, names := [((PySem.Str.ofString ".0"), PySem.NameKind.local), ((PySem.Str.ofString "_law_k"), PySem.NameKind.local), ((PySem.Str.ofString "_law_some_tree"), PySem.NameKind.globalImplicit), ((PySem.Str.ofString "_law_feed_here"), PySem.NameKind.free)], isGenerator := false, isCoroutine := false, more := [] : PySem.Scope }
def sc31 : Scope := { kind := PySem.ScopeKind.function, names := [((PySem.Str.ofString "_law_script"), PySem.NameKind.local), ((PySem.Str.ofString "_law_feed_here"), PySem.NameKind.cell), ((PySem.Str.ofString "_law_root"), PySem.NameKind.local), ((PySem.Str.ofString "_law_feed"), PySem.NameKind.globalImplicit), ((PySem.Str.ofString "list"), PySem.NameKind.globalImplicit), ((PySem.Str.ofString "_law_document"), PySem.NameKind.globalImplicit), ((PySem.Str.ofString "_law_six"), PySem.NameKind.globalImplicit), ((PySem.Str.ofString "range"), PySem.NameKind.globalImplicit), ((PySem.Str.ofString "_law_agrees"), PySem.NameKind.globalImplicit)], isGenerator := false, isCoroutine := false, more := [((PySem.Str.ofString "fast"), (PySem.Const.str "_law_script")), ((PySem.Str.ofString "fast"), (PySem.Const.str "_law_feed_here")), ((PySem.Str.ofString "fast"), (PySem.Const.str "_law_k")), ((PySem.Str.ofString "fast"), (PySem.Const.str "_law_root"))] : PySem.Scope }
def sc32 : Scope := { kind := PySem.ScopeKind.function, names := [((PySem.Str.ofString "self"), PySem.NameKind.local), ((PySem.Str.ofString "word"), PySem.NameKind.local), ((PySem.Str.ofString "at"), PySem.NameKind.local), ((PySem.Str.ofString "__class__"), PySem.NameKind.free), ((PySem.Str.ofString "super"), PySem.NameKind.globalImplicit)], isGenerator := false, isCoroutine := false, more := [] : PySem.Scope }
def sc33 : Scope := { kind := PySem.ScopeKind.function, names := [((PySem.Str.ofString "_law_ask"), PySem.NameKind.local), ((PySem.Str.ofString "_law_found"), PySem.NameKind.local), ((PySem.Str.ofString "e"), PySem.NameKind.local), ((PySem.Str.ofString "_law_kinds_now"), PySem.NameKind.local), ((PySem.Str.ofString "_law_homes"), PySem.NameKind.local), ((PySem.Str.ofString "_law_is_other"), PySem.NameKind.local), ((PySem.Str.ofString "ThinError"), PySem.NameKind.globalImplicit), ((PySem.Str.ofString "isinstance"), PySem.NameKind.globalImplicit), ((PySem.Str.ofString "InvalidPaper"), PySem.NameKind.globalImplicit), ((PySem.Str.ofString "NotUsable"), PySem.NameKind.globalImplicit), ((PySem.Str.ofString "PaperError"), PySem.NameKind.globalImplicit), ((PySem.Str.ofString "TraceError"), PySem.NameKind.globalImplicit), ((PySem.Str.ofString "BookError"), PySem.NameKind.globalImplicit), ((PySem.Str.ofString "TextError"), PySem.NameKind.globalImplicit), ((PySem.Str.ofString "NotTold"), PySem.NameKind.globalImplicit), ((PySem.Str.ofString "ValueError"), PySem.NameKind.globalImplicit)], isGenerator := false, isCoroutine := false, more := [] : PySem.Scope }
def f0 : FnT := ⟨⟨"spans_within", ["tree", "path"], ["tree", "path", "service", "mark", "trees", "found", "j", "own"], sc0, [(.tgt (.tup (.cons (.nm 2 "service" ⟨31, 4, 31, 11⟩) (.cons (.nm 3 "mark" ⟨31, 13, 31, 17⟩) (.cons (.nm 4 "trees" ⟨31, 19, 31, 24⟩) .nil))) 0 ⟨31, 4, 31, 24⟩) (.var 0 "tree" ⟨31, 27, 31, 31⟩) ⟨31, 4, 31, 31⟩), (.set 5 "found" ⟨32, 4, 32, 9⟩ (.lst true (.cons (.tup (.cons (.var 1 "path" ⟨32, 14, 32, 18⟩) (.cons (.var 2 "service" ⟨32, 20, 32, 27⟩) (.cons (.var 3 "mark" ⟨32, 29, 32, 33⟩) .nil))) 0 ⟨32, 13, 32, 34⟩) .nil) ⟨32, 12, 32, 35⟩) ⟨32, 4, 32, 35⟩), (.forr (.tup (.cons (.nm 6 "j" ⟨33, 8, 33, 9⟩) (.cons (.nm 7 "own" ⟨33, 11, 33, 14⟩) .nil)) 0 ⟨33, 8, 33, 14⟩) (.enu (.var 4 "trees" ⟨33, 28, 33, 33⟩) ⟨33, 18, 33, 27⟩ ⟨33, 18, 33, 34⟩) [(.exp (.meth .extend (.var 5 "found" ⟨34, 8, 34, 13⟩) (.call 0 "spans_within" (.var 7 "own" ⟨34, 34, 34, 37⟩) (.cons (.tup (.star (.var 1 "path" ⟨34, 41, 34, 45⟩) ⟨34, 40, 34, 45⟩ (.cons (.var 6 "j" ⟨34, 47, 34, 48⟩) .nil)) 0 ⟨34, 39, 34, 49⟩) .nil) ⟨34, 21, 34, 33⟩ ⟨34, 21, 34, 50⟩) .nil ⟨34, 8, 34, 20⟩ ⟨34, 8, 34, 51⟩) ⟨34, 8, 34, 51⟩)] ⟨33, 4, 34, 51⟩), (.ret (.var 5 "found" ⟨35, 11, 35, 16⟩) ⟨35, 4, 35, 16⟩)], false, [], .top, false⟩, { posonlyargs := [], args := [{ arg := "tree", annotation := none, pos := ⟨30, 17, 30, 21⟩ : PySem.Arg }, { arg := "path", annotation := none, pos := ⟨30, 23, 30, 27⟩ : PySem.Arg }], vararg := none, kwonlyargs := [], kw_defaults := [], kwarg := none, defaults := [] : PySem.Arguments }, "spans_within", "spans_within"⟩
def f1 : FnT := ⟨⟨"spans_of", ["tree"], ["tree"], sc1, [(.ret (.blt .tuple (.call 0 "spans_within" (.var 0 "tree" ⟨37, 30, 37, 34⟩) (.cons (.tup .nil 0 ⟨37, 36, 37, 38⟩) .nil) ⟨37, 17, 37, 29⟩ ⟨37, 17, 37, 39⟩) .nil ⟨37, 11, 37, 16⟩ ⟨37, 11, 37, 40⟩) ⟨37, 4, 37, 40⟩)], false, [], .top, false⟩, { posonlyargs := [], args := [{ arg := "tree", annotation := none, pos := ⟨36, 13, 36, 17⟩ : PySem.Arg }], vararg := none, kwonlyargs := [], kw_defaults := [], kwarg := none, defaults := [] : PySem.Arguments }, "spans_of", "spans_of"⟩
def f2 : FnT := ⟨⟨"paths_of", ["tree"], ["tree", ".0", "path", "service", "mark"], sc3, [(.ret (.lc false (.var 2 "path" ⟨40, 12, 40, 16⟩) (.tup (.cons (.nm 2 "path" ⟨40, 21, 40, 25⟩) (.cons (.nm 3 "service" ⟨40, 27, 40, 34⟩) (.cons (.nm 4 "mark" ⟨40, 36, 40, 40⟩) .nil))) 0 ⟨40, 21, 40, 40⟩) (.val (.call 1 "spans_of" (.var 0 "tree" ⟨40, 53, 40, 57⟩) .nil ⟨40, 44, 40, 52⟩ ⟨40, 44, 40, 58⟩)) .none sc2 [(".0", 1), ("path", 2), ("service", 3), ("mark", 4)] ⟨40, 11, 40, 59⟩) ⟨40, 4, 40, 59⟩)], false, [], .top, false⟩, { posonlyargs := [], args := [{ arg := "tree", annotation := none, pos := ⟨39, 13, 39, 17⟩ : PySem.Arg }], vararg := none, kwonlyargs := [], kw_defaults := [], kwarg := none, defaults := [] : PySem.Arguments }, "paths_of", "paths_of"⟩
def f3 : FnT := ⟨⟨"kept_tree", ["tree", "path", "kept"], ["tree", "path", "kept", "service", "mark", "calls", "below", ".0", "k", "call", "own"], sc6, [(.tgt (.tup (.cons (.nm 3 "service" ⟨42, 4, 42, 11⟩) (.cons (.nm 4 "mark" ⟨42, 13, 42, 17⟩) (.cons (.nm 5 "calls" ⟨42, 19, 42, 24⟩) .nil))) 0 ⟨42, 4, 42, 24⟩) (.var 0 "tree" ⟨42, 27, 42, 31⟩) ⟨42, 4, 42, 31⟩), (.set 6 "below" ⟨43, 4, 43, 9⟩ (.lc false (.tup (.cons (.var 9 "call" ⟨43, 14, 43, 18⟩) (.cons (.tup (.star (.var 1 "path" ⟨43, 22, 43, 26⟩) ⟨43, 21, 43, 26⟩ (.cons (.var 8 "k" ⟨43, 28, 43, 29⟩) .nil)) 0 ⟨43, 20, 43, 30⟩) .nil)) 0 ⟨43, 13, 43, 31⟩) (.tup (.cons (.nm 8 "k" ⟨43, 36, 43, 37⟩) (.cons (.nm 9 "call" ⟨43, 39, 43, 43⟩) .nil)) 0 ⟨43, 36, 43, 43⟩) (.enu (.var 5 "calls" ⟨43, 57, 43, 62⟩) ⟨43, 47, 43, 56⟩ ⟨43, 47, 43, 63⟩) .none sc4 [(".0", 7), ("k", 8), ("call", 9)] ⟨43, 12, 43, 64⟩) ⟨43, 4, 43, 64⟩), (.ret (.tup (.cons (.var 3 "service" ⟨44, 12, 44, 19⟩) (.cons (.var 4 "mark" ⟨44, 21, 44, 25⟩) (.cons (.blt .tuple (.blt .sorted (.lc false (.call 3 "kept_tree" (.var 9 "call" ⟨44, 51, 44, 55⟩) (.cons (.var 10 "own" ⟨44, 57, 44, 60⟩) (.cons (.var 2 "kept" ⟨44, 62, 44, 66⟩) .nil)) ⟨44, 41, 44, 50⟩ ⟨44, 41, 44, 67⟩) (.tup (.cons (.nm 9 "call" ⟨44, 72, 44, 76⟩) (.cons (.nm 10 "own" ⟨44, 78, 44, 81⟩) .nil)) 0 ⟨44, 72, 44, 81⟩) (.val (.var 6 "below" ⟨44, 85, 44, 90⟩)) (.some (.cmp .isin (.var 10 "own" ⟨44, 94, 44, 97⟩) (.var 2 "kept" ⟨44, 101, 44, 105⟩) ⟨44, 94, 44, 105⟩)) sc5 [(".0", 7), ("call", 9), ("own", 10)] ⟨44, 40, 44, 106⟩) .nil ⟨44, 33, 44, 39⟩ ⟨44, 33, 44, 107⟩) .nil ⟨44, 27, 44, 32⟩ ⟨44, 27, 44, 108⟩) .nil))) 0 ⟨44, 11, 44, 109⟩) ⟨44, 4, 44, 109⟩)], false, [], .top, false⟩, { posonlyargs := [], args := [{ arg := "tree", annotation := none, pos := ⟨41, 14, 41, 18⟩ : PySem.Arg }, { arg := "path", annotation := none, pos := ⟨41, 20, 41, 24⟩ : PySem.Arg }, { arg := "kept", annotation := none, pos := ⟨41, 26, 41, 30⟩ : PySem.Arg }], vararg := none, kwonlyargs := [], kw_defaults := [], kwarg := none, defaults := [] : PySem.Arguments }, "kept_tree", "kept_tree"⟩
def f4 : FnT := ⟨⟨"lost_pieces", ["tree", "path", "kept"], ["tree", "path", "kept", "call", "below", "own", "trees", "found", ".0", "k"], sc7, [(.set 4 "below" ⟨46, 4, 46, 9⟩ (.lc false (.tup (.cons (.var 3 "call" ⟨46, 14, 46, 18⟩) (.cons (.tup (.star (.var 1 "path" ⟨46, 22, 46, 26⟩) ⟨46, 21, 46, 26⟩ (.cons (.var 9 "k" ⟨46, 28, 46, 29⟩) .nil)) 0 ⟨46, 20, 46, 30⟩) .nil)) 0 ⟨46, 13, 46, 31⟩) (.tup (.cons (.nm 9 "k" ⟨46, 36, 46, 37⟩) (.cons (.nm 3 "call" ⟨46, 39, 46, 43⟩) .nil)) 0 ⟨46, 36, 46, 43⟩) (.enu (.ix (.var 0 "tree" ⟨46, 57, 46, 61⟩) (.int 2 0 ⟨46, 62, 46, 63⟩) ⟨46, 57, 46, 64⟩) ⟨46, 47, 46, 56⟩ ⟨46, 47, 46, 65⟩) .none sc4 [(".0", 8), ("k", 9), ("call", 3)] ⟨46, 12, 46, 66⟩) ⟨46, 4, 46, 66⟩), (.set 6 "trees" ⟨47, 4, 47, 9⟩ (.lc false (.call 3 "kept_tree" (.var 3 "call" ⟨47, 23, 47, 27⟩) (.cons (.var 5 "own" ⟨47, 29, 47, 32⟩) (.cons (.var 2 "kept" ⟨47, 34, 47, 38⟩) .nil)) ⟨47, 13, 47, 22⟩ ⟨47, 13, 47, 39⟩) (.tup (.cons (.nm 3 "call" ⟨47, 44, 47, 48⟩) (.cons (.nm 5 "own" ⟨47, 50, 47, 53⟩) .nil)) 0 ⟨47, 44, 47, 53⟩) (.val (.var 4 "below" ⟨47, 57, 47, 62⟩)) (.some (.cmp .isin (.var 5 "own" ⟨47, 66, 47, 69⟩) (.var 2 "kept" ⟨47, 73, 47, 77⟩) ⟨47, 66, 47, 77⟩)) sc5 [(".0", 8), ("call", 3), ("own", 5)] ⟨47, 12, 47, 78⟩) ⟨47, 4, 47, 78⟩), (.set 7 "found" ⟨48, 4, 48, 9⟩ (.ife (.and (.cmp .notin (.var 1 "path" ⟨48, 48, 48, 52⟩) (.var 2 "kept" ⟨48, 60, 48, 64⟩) ⟨48, 48, 48, 64⟩) (.cons (.cmp .ne (.var 6 "trees" ⟨48, 69, 48, 74⟩) (.lst false .nil ⟨48, 78, 48, 80⟩) ⟨48, 69, 48, 80⟩) .nil) ⟨48, 48, 48, 80⟩) (.lst true (.cons (.tup (.cons (.str "lost" 0 ⟨48, 14, 48, 20⟩) (.cons (.blt .tuple (.blt .sorted (.var 6 "trees" ⟨48, 35, 48, 40⟩) .nil ⟨48, 28, 48, 34⟩ ⟨48, 28, 48, 41⟩) .nil ⟨48, 22, 48, 27⟩ ⟨48, 22, 48, 42⟩) .nil)) 0 ⟨48, 13, 48, 43⟩) .nil) ⟨48, 12, 48, 44⟩) (.lst true .nil ⟨48, 86, 48, 88⟩) ⟨48, 12, 48, 88⟩) ⟨48, 4, 48, 88⟩), (.forr (.tup (.cons (.nm 3 "call" ⟨49, 8, 49, 12⟩) (.cons (.nm 5 "own" ⟨49, 14, 49, 17⟩) .nil)) 0 ⟨49, 8, 49, 17⟩) (.val (.var 4 "below" ⟨49, 21, 49, 26⟩)) [(.exp (.meth .extend (.var 7 "found" ⟨50, 8, 50, 13⟩) (.call 4 "lost_pieces" (.var 3 "call" ⟨50, 33, 50, 37⟩) (.cons (.var 5 "own" ⟨50, 39, 50, 42⟩) (.cons (.var 2 "kept" ⟨50, 44, 50, 48⟩) .nil)) ⟨50, 21, 50, 32⟩ ⟨50, 21, 50, 49⟩) .nil ⟨50, 8, 50, 20⟩ ⟨50, 8, 50, 50⟩) ⟨50, 8, 50, 50⟩)] ⟨49, 4, 50, 50⟩), (.ret (.var 7 "found" ⟨51, 11, 51, 16⟩) ⟨51, 4, 51, 16⟩)], false, [], .top, false⟩, { posonlyargs := [], args := [{ arg := "tree", annotation := none, pos := ⟨45, 16, 45, 20⟩ : PySem.Arg }, { arg := "path", annotation := none, pos := ⟨45, 22, 45, 26⟩ : PySem.Arg }, { arg := "kept", annotation := none, pos := ⟨45, 28, 45, 32⟩ : PySem.Arg }], vararg := none, kwonlyargs := [], kw_defaults := [], kwarg := none, defaults := [] : PySem.Arguments }, "lost_pieces", "lost_pieces"⟩
def f5 : FnT := ⟨⟨"raw_sight", ["tree", "kept"], ["tree", "kept", "tops"], sc8, [(.set 2 "tops" ⟨53, 4, 53, 8⟩ (.ife (.cmp .isin (.tup .nil 0 ⟨53, 51, 53, 53⟩) (.var 1 "kept" ⟨53, 57, 53, 61⟩) ⟨53, 51, 53, 61⟩) (.lst false (.cons (.tup (.cons (.str "top" 0 ⟨53, 13, 53, 18⟩) (.cons (.call 3 "kept_tree" (.var 0 "tree" ⟨53, 30, 53, 34⟩) (.cons (.tup .nil 0 ⟨53, 36, 53, 38⟩) (.cons (.var 1 "kept" ⟨53, 40, 53, 44⟩) .nil)) ⟨53, 20, 53, 29⟩ ⟨53, 20, 53, 45⟩) .nil)) 0 ⟨53, 12, 53, 46⟩) .nil) ⟨53, 11, 53, 47⟩) (.lst false .nil ⟨53, 67, 53, 69⟩) ⟨53, 11, 53, 69⟩) ⟨53, 4, 53, 69⟩), (.ret (.blt .tuple (.blt .sorted (.bin .add (.var 2 "tops" ⟨54, 24, 54, 28⟩) (.call 4 "lost_pieces" (.var 0 "tree" ⟨54, 43, 54, 47⟩) (.cons (.tup .nil 0 ⟨54, 49, 54, 51⟩) (.cons (.var 1 "kept" ⟨54, 53, 54, 57⟩) .nil)) ⟨54, 31, 54, 42⟩ ⟨54, 31, 54, 58⟩) ⟨54, 24, 54, 58⟩) .nil ⟨54, 17, 54, 23⟩ ⟨54, 17, 54, 59⟩) .nil ⟨54, 11, 54, 16⟩ ⟨54, 11, 54, 60⟩) ⟨54, 4, 54, 60⟩)], false, [], .top, false⟩, { posonlyargs := [], args := [{ arg := "tree", annotation := none, pos := ⟨52, 14, 52, 18⟩ : PySem.Arg }, { arg := "kept", annotation := none, pos := ⟨52, 20, 52, 24⟩ : PySem.Arg }], vararg := none, kwonlyargs := [], kw_defaults := [], kwarg := none, defaults := [] : PySem.Arguments }, "raw_sight", "raw_sight"⟩
def f6 : FnT := ⟨⟨"sight_of", ["tree", "kept"], ["tree", "kept", "paths", ".0", "path"], sc10, [(.set 2 "paths" ⟨56, 4, 56, 9⟩ (.call 2 "paths_of" (.var 0 "tree" ⟨56, 21, 56, 25⟩) .nil ⟨56, 12, 56, 20⟩ ⟨56, 12, 56, 26⟩) ⟨56, 4, 56, 26⟩), (.ife (.or (.not (.isa .tuple (.var 1 "kept" ⟨57, 22, 57, 26⟩) ⟨57, 28, 57, 33⟩ ⟨57, 11, 57, 21⟩ ⟨57, 11, 57, 34⟩) ⟨57, 7, 57, 34⟩) (.cons (.cmp .ne (.blt .repr (.var 1 "kept" ⟨57, 43, 57, 47⟩) .nil ⟨57, 38, 57, 42⟩ ⟨57, 38, 57, 48⟩) (.blt .repr (.blt .tuple (.lc false (.var 4 "path" ⟨57, 64, 57, 68⟩) (.nm 4 "path" ⟨57, 73, 57, 77⟩) (.val (.var 2 "paths" ⟨57, 81, 57, 86⟩)) (.some (.cmp .isin (.var 4 "path" ⟨57, 90, 57, 94⟩) (.var 1 "kept" ⟨57, 98, 57, 102⟩) ⟨57, 90, 57, 102⟩)) sc9 [(".0", 3), ("path", 4)] ⟨57, 63, 57, 103⟩) .nil ⟨57, 57, 57, 62⟩ ⟨57, 57, 57, 104⟩) .nil ⟨57, 52, 57, 56⟩ ⟨57, 52, 57, 105⟩) ⟨57, 38, 57, 105⟩) .nil) ⟨57, 7, 57, 105⟩) [(.raise "NotUsable" "word" "at" (.str "kept" 0 ⟨58, 24, 58, 30⟩) (.cons (.neg (.int 1 0 ⟨58, 33, 58, 34⟩) ⟨58, 32, 58, 34⟩) .nil) ⟨58, 14, 58, 23⟩ ⟨58, 14, 58, 35⟩ ⟨58, 8, 58, 35⟩)] [] ⟨57, 4, 58, 35⟩), (.ret (.call 5 "raw_sight" (.var 0 "tree" ⟨59, 21, 59, 25⟩) (.cons (.var 1 "kept" ⟨59, 27, 59, 31⟩) .nil) ⟨59, 11, 59, 20⟩ ⟨59, 11, 59, 32⟩) ⟨59, 4, 59, 32⟩)], false, [(0, (["kept", "tree"] : List Str), ([1, 0] : List Nat))], .top, false⟩, { posonlyargs := [], args := [{ arg := "tree", annotation := none, pos := ⟨55, 13, 55, 17⟩ : PySem.Arg }, { arg := "kept", annotation := none, pos := ⟨55, 19, 55, 23⟩ : PySem.Arg }], vararg := none, kwonlyargs := [], kw_defaults := [], kwarg := none, defaults := [] : PySem.Arguments }, "sight_of", "sight_of"⟩
def f7 : FnT := ⟨⟨"_law_feed", ["_law_script"], ["_law_script"], sc11, [(.ret (.lst true (.cons (.blt .list (.sl (.var 0 "_law_script" ⟨62, 17, 62, 28⟩) .none (.some (.int 63 0 ⟨62, 30, 62, 32⟩)) ⟨62, 29, 62, 32⟩ ⟨62, 17, 62, 33⟩) .nil ⟨62, 12, 62, 16⟩ ⟨62, 12, 62, 34⟩) (.cons (.int 0 0 ⟨62, 36, 62, 37⟩) (.cons (.int 0 0 ⟨62, 39, 62, 40⟩) (.cons (.int 0 0 ⟨62, 42, 62, 43⟩) .nil)))) ⟨62, 11, 62, 44⟩) ⟨62, 4, 62, 44⟩)], true, [], .top, false⟩, { posonlyargs := [], args := [{ arg := "_law_script", annotation := none, pos := ⟨61, 14, 61, 25⟩ : PySem.Arg }], vararg := none, kwonlyargs := [], kw_defaults := [], kwarg := none, defaults := [] : PySem.Arguments }, "_law_feed", "_law_feed"⟩
def f8 : FnT := ⟨⟨"_law_draw", ["_law_feed_here", "_law_many"], ["_law_feed_here", "_law_many", "_law_digit_now", "_law_cell", "_law_turn", "_law_mixed"], sc12, [(.put (.var 0 "_law_feed_here" ⟨64, 4, 64, 18⟩) (.int 3 0 ⟨64, 19, 64, 20⟩) (.bin .add (.ix (.var 0 "_law_feed_here" ⟨64, 24, 64, 38⟩) (.int 3 0 ⟨64, 39, 64, 40⟩) ⟨64, 24, 64, 41⟩) (.int 1 0 ⟨64, 44, 64, 45⟩) ⟨64, 24, 64, 45⟩) ⟨64, 4, 64, 21⟩ ⟨64, 4, 64, 45⟩), (.ife (.cmp .gt (.ix (.var 0 "_law_feed_here" ⟨65, 7, 65, 21⟩) (.int 2 0 ⟨65, 22, 65, 23⟩) ⟨65, 7, 65, 24⟩) (.int 0 0 ⟨65, 27, 65, 28⟩) ⟨65, 7, 65, 28⟩) [(.set 2 "_law_digit_now" ⟨66, 8, 66, 22⟩ (.bin .mod (.blt .int (.ix (.var 0 "_law_feed_here" ⟨66, 29, 66, 43⟩) (.int 2 0 ⟨66, 44, 66, 45⟩) ⟨66, 29, 66, 46⟩) .nil ⟨66, 25, 66, 28⟩ ⟨66, 25, 66, 47⟩) (.var 1 "_law_many" ⟨66, 50, 66, 59⟩) ⟨66, 25, 66, 59⟩) ⟨66, 8, 66, 59⟩), (.put (.var 0 "_law_feed_here" ⟨67, 8, 67, 22⟩) (.int 2 0 ⟨67, 23, 67, 24⟩) (.bin .div (.ix (.var 0 "_law_feed_here" ⟨67, 28, 67, 42⟩) (.int 2 0 ⟨67, 43, 67, 44⟩) ⟨67, 28, 67, 45⟩) (.var 1 "_law_many" ⟨67, 49, 67, 58⟩) ⟨67, 28, 67, 58⟩) ⟨67, 8, 67, 25⟩ ⟨67, 8, 67, 58⟩), (.ret (.var 2 "_law_digit_now" ⟨68, 15, 68, 29⟩) ⟨68, 8, 68, 29⟩)] [] ⟨65, 4, 68, 29⟩), (.set 3 "_law_cell" ⟨69, 4, 69, 13⟩ (.ife (.cmp .ne (.ix (.var 0 "_law_feed_here" ⟨69, 86, 69, 100⟩) (.int 0 0 ⟨69, 101, 69, 102⟩) ⟨69, 86, 69, 103⟩) (.lst false .nil ⟨69, 107, 69, 109⟩) ⟨69, 86, 69, 109⟩) (.ix (.ix (.var 0 "_law_feed_here" ⟨69, 16, 69, 30⟩) (.int 0 0 ⟨69, 31, 69, 32⟩) ⟨69, 16, 69, 33⟩) (.bin .mod (.blt .int (.ix (.var 0 "_law_feed_here" ⟨69, 38, 69, 52⟩) (.int 1 0 ⟨69, 53, 69, 54⟩) ⟨69, 38, 69, 55⟩) .nil ⟨69, 34, 69, 37⟩ ⟨69, 34, 69, 56⟩) (.blt .len (.ix (.var 0 "_law_feed_here" ⟨69, 63, 69, 77⟩) (.int 0 0 ⟨69, 78, 69, 79⟩) ⟨69, 63, 69, 80⟩) .nil ⟨69, 59, 69, 62⟩ ⟨69, 59, 69, 81⟩) ⟨69, 34, 69, 81⟩) ⟨69, 16, 69, 82⟩) (.int 73 0 ⟨69, 115, 69, 117⟩) ⟨69, 16, 69, 117⟩) ⟨69, 4, 69, 117⟩), (.put (.var 0 "_law_feed_here" ⟨70, 4, 70, 18⟩) (.int 1 0 ⟨70, 19, 70, 20⟩) (.bin .add (.ix (.var 0 "_law_feed_here" ⟨70, 24, 70, 38⟩) (.int 1 0 ⟨70, 39, 70, 40⟩) ⟨70, 24, 70, 41⟩) (.int 1 0 ⟨70, 44, 70, 45⟩) ⟨70, 24, 70, 45⟩) ⟨70, 4, 70, 21⟩ ⟨70, 4, 70, 45⟩), (.ife (.and (.cmp .ge (.var 3 "_law_cell" ⟨71, 7, 71, 16⟩) (.bin .pow (.int 10 0 ⟨71, 20, 71, 22⟩) (.int 18 0 ⟨71, 26, 71, 28⟩) ⟨71, 20, 71, 28⟩) ⟨71, 7, 71, 28⟩) (.cons (.cmp .le (.ix (.var 0 "_law_feed_here" ⟨71, 33, 71, 47⟩) (.int 1 0 ⟨71, 48, 71, 49⟩) ⟨71, 33, 71, 50⟩) (.blt .len (.ix (.var 0 "_law_feed_here" ⟨71, 58, 71, 72⟩) (.int 0 0 ⟨71, 73, 71, 74⟩) ⟨71, 58, 71, 75⟩) .nil ⟨71, 54, 71, 57⟩ ⟨71, 54, 71, 76⟩) ⟨71, 33, 71, 76⟩) .nil) ⟨71, 7, 71, 76⟩) [(.put (.var 0 "_law_feed_here" ⟨72, 8, 72, 22⟩) (.int 2 0 ⟨72, 23, 72, 24⟩) (.bin .div (.var 3 "_law_cell" ⟨72, 28, 72, 37⟩) (.var 1 "_law_many" ⟨72, 41, 72, 50⟩) ⟨72, 28, 72, 50⟩) ⟨72, 8, 72, 25⟩ ⟨72, 8, 72, 50⟩), (.ret (.bin .mod (.blt .int (.var 3 "_law_cell" ⟨73, 19, 73, 28⟩) .nil ⟨73, 15, 73, 18⟩ ⟨73, 15, 73, 29⟩) (.var 1 "_law_many" ⟨73, 32, 73, 41⟩) ⟨73, 15, 73, 41⟩) ⟨73, 8, 73, 41⟩)] [] ⟨71, 4, 73, 41⟩), (.set 4 "_law_turn" ⟨74, 4, 74, 13⟩ (.ix (.var 0 "_law_feed_here" ⟨74, 16, 74, 30⟩) (.int 3 0 ⟨74, 31, 74, 32⟩) ⟨74, 16, 74, 33⟩) ⟨74, 4, 74, 33⟩), (.set 5 "_law_mixed" ⟨75, 4, 75, 14⟩ (.blt .int (.bin .pow (.bin .add (.bin .add (.bin .mod (.blt .int (.var 3 "_law_cell" ⟨75, 26, 75, 35⟩) .nil ⟨75, 22, 75, 25⟩ ⟨75, 22, 75, 36⟩) (.int 1000010911 0 ⟨75, 39, 75, 49⟩) ⟨75, 22, 75, 49⟩) (.bin .mul (.bin .mul (.int 197 0 ⟨75, 52, 75, 55⟩) (.var 4 "_law_turn" ⟨75, 58, 75, 67⟩) ⟨75, 52, 75, 67⟩) (.bin .add (.var 4 "_law_turn" ⟨75, 71, 75, 80⟩) (.int 14 0 ⟨75, 83, 75, 85⟩) ⟨75, 71, 75, 85⟩) ⟨75, 52, 75, 86⟩) ⟨75, 22, 75, 86⟩) (.int 61 0 ⟨75, 89, 75, 91⟩) ⟨75, 22, 75, 91⟩) (.int 5 0 ⟨75, 96, 75, 97⟩) ⟨75, 21, 75, 97⟩) .nil ⟨75, 17, 75, 20⟩ ⟨75, 17, 75, 98⟩) ⟨75, 4, 75, 98⟩), (.set 5 "_law_mixed" ⟨76, 4, 76, 14⟩ (.blt .int (.bin .pow (.bin .add (.bin .mul (.bin .mod (.blt .int (.var 5 "_law_mixed" ⟨76, 26, 76, 36⟩) .nil ⟨76, 22, 76, 25⟩ ⟨76, 22, 76, 37⟩) (.int 2147483249 0 ⟨76, 40, 76, 50⟩) ⟨76, 22, 76, 50⟩) (.bin .add (.bin .mul (.int 2 0 ⟨76, 54, 76, 55⟩) (.var 4 "_law_turn" ⟨76, 58, 76, 67⟩) ⟨76, 54, 76, 67⟩) (.int 13 0 ⟨76, 70, 76, 72⟩) ⟨76, 54, 76, 72⟩) ⟨76, 22, 76, 73⟩) (.bin .mul (.int 50263 0 ⟨76, 76, 76, 81⟩) (.var 4 "_law_turn" ⟨76, 84, 76, 93⟩) ⟨76, 76, 76, 93⟩) ⟨76, 22, 76, 93⟩) (.int 3 0 ⟨76, 98, 76, 99⟩) ⟨76, 21, 76, 99⟩) .nil ⟨76, 17, 76, 20⟩ ⟨76, 17, 76, 100⟩) ⟨76, 4, 76, 100⟩), (.ret (.bin .mod (.blt .int (.bin .div (.bin .mod (.blt .int (.var 5 "_law_mixed" ⟨77, 19, 77, 29⟩) .nil ⟨77, 15, 77, 18⟩ ⟨77, 15, 77, 30⟩) (.int 2147483171 0 ⟨77, 33, 77, 43⟩) ⟨77, 15, 77, 43⟩) (.int 64 0 ⟨77, 47, 77, 49⟩) ⟨77, 15, 77, 49⟩) .nil ⟨77, 11, 77, 14⟩ ⟨77, 11, 77, 50⟩) (.var 1 "_law_many" ⟨77, 53, 77, 62⟩) ⟨77, 11, 77, 62⟩) ⟨77, 4, 77, 62⟩)], false, [], .top, false⟩, { posonlyargs := [], args := [{ arg := "_law_feed_here", annotation := none, pos := ⟨63, 14, 63, 28⟩ : PySem.Arg }, { arg := "_law_many", annotation := none, pos := ⟨63, 30, 63, 39⟩ : PySem.Arg }], vararg := none, kwonlyargs := [], kw_defaults := [], kwarg := none, defaults := [] : PySem.Arguments }, "_law_draw", "_law_draw"⟩
def f9 : FnT := ⟨⟨"_law_choice", ["_law_feed_here", "_law_some"], ["_law_feed_here", "_law_some"], sc13, [(.ret (.ix (.var 1 "_law_some" ⟨79, 11, 79, 20⟩) (.call 8 "_law_draw" (.var 0 "_law_feed_here" ⟨79, 31, 79, 45⟩) (.cons (.blt .len (.var 1 "_law_some" ⟨79, 51, 79, 60⟩) .nil ⟨79, 47, 79, 50⟩ ⟨79, 47, 79, 61⟩) .nil) ⟨79, 21, 79, 30⟩ ⟨79, 21, 79, 62⟩) ⟨79, 11, 79, 63⟩) ⟨79, 4, 79, 63⟩)], false, [], .top, false⟩, { posonlyargs := [], args := [{ arg := "_law_feed_here", annotation := none, pos := ⟨78, 16, 78, 30⟩ : PySem.Arg }, { arg := "_law_some", annotation := none, pos := ⟨78, 32, 78, 41⟩ : PySem.Arg }], vararg := none, kwonlyargs := [], kw_defaults := [], kwarg := none, defaults := [] : PySem.Arguments }, "_law_choice", "_law_choice"⟩
def f10 : FnT := ⟨⟨"_law_spans", ["_law_root", "_law_way"], ["_law_root", "_law_way", "_law_found", "_law_k", "_law_call"], sc14, [(.set 2 "_law_found" ⟨81, 4, 81, 14⟩ (.lst true (.cons (.tup (.cons (.var 1 "_law_way" ⟨81, 19, 81, 27⟩) (.cons (.ix (.var 0 "_law_root" ⟨81, 29, 81, 38⟩) (.int 0 0 ⟨81, 39, 81, 40⟩) ⟨81, 29, 81, 41⟩) (.cons (.ix (.var 0 "_law_root" ⟨81, 43, 81, 52⟩) (.int 1 0 ⟨81, 53, 81, 54⟩) ⟨81, 43, 81, 55⟩) .nil))) 0 ⟨81, 18, 81, 56⟩) .nil) ⟨81, 17, 81, 57⟩) ⟨81, 4, 81, 57⟩), (.forr (.tup (.cons (.nm 3 "_law_k" ⟨82, 8, 82, 14⟩) (.cons (.nm 4 "_law_call" ⟨82, 16, 82, 25⟩) .nil)) 0 ⟨82, 8, 82, 25⟩) (.enu (.ix (.var 0 "_law_root" ⟨82, 39, 82, 48⟩) (.int 2 0 ⟨82, 49, 82, 50⟩) ⟨82, 39, 82, 51⟩) ⟨82, 29, 82, 38⟩ ⟨82, 29, 82, 52⟩) [(.exp (.meth .extend (.var 2 "_law_found" ⟨83, 8, 83, 18⟩) (.call 10 "_law_spans" (.var 4 "_law_call" ⟨83, 37, 83, 46⟩) (.cons (.bin .add (.var 1 "_law_way" ⟨83, 48, 83, 56⟩) (.tup (.cons (.var 3 "_law_k" ⟨83, 60, 83, 66⟩) .nil) 0 ⟨83, 59, 83, 68⟩) ⟨83, 48, 83, 68⟩) .nil) ⟨83, 26, 83, 36⟩ ⟨83, 26, 83, 69⟩) .nil ⟨83, 8, 83, 25⟩ ⟨83, 8, 83, 70⟩) ⟨83, 8, 83, 70⟩)] ⟨82, 4, 83, 70⟩), (.ret (.var 2 "_law_found" ⟨84, 11, 84, 21⟩) ⟨84, 4, 84, 21⟩)], false, [], .top, false⟩, { posonlyargs := [], args := [{ arg := "_law_root", annotation := none, pos := ⟨80, 15, 80, 24⟩ : PySem.Arg }, { arg := "_law_way", annotation := none, pos := ⟨80, 26, 80, 34⟩ : PySem.Arg }], vararg := none, kwonlyargs := [], kw_defaults := [], kwarg := none, defaults := [] : PySem.Arguments }, "_law_spans", "_law_spans"⟩
def f11 : FnT := ⟨⟨"_law_seen", ["_law_root", "_law_way", "_law_held"], ["_law_root", "_law_way", "_law_held", "_law_below", "_law_pieces_now", "_law_k", "_law_call", "_law_own", "_law_more"], sc15, [(.par 3 4 "_law_below" "_law_pieces_now" ⟨86, 4, 86, 14⟩ ⟨86, 16, 86, 31⟩ 0 ⟨86, 4, 86, 31⟩ (.lst true .nil ⟨86, 35, 86, 37⟩) (.lst true .nil ⟨86, 39, 86, 41⟩) 0 ⟨86, 34, 86, 42⟩ ⟨86, 4, 86, 42⟩), (.forr (.tup (.cons (.nm 5 "_law_k" ⟨87, 8, 87, 14⟩) (.cons (.nm 6 "_law_call" ⟨87, 16, 87, 25⟩) .nil)) 0 ⟨87, 8, 87, 25⟩) (.enu (.ix (.var 0 "_law_root" ⟨87, 39, 87, 48⟩) (.int 2 0 ⟨87, 49, 87, 50⟩) ⟨87, 39, 87, 51⟩) ⟨87, 29, 87, 38⟩ ⟨87, 29, 87, 52⟩) [(.tgt (.tup (.cons (.nm 7 "_law_own" ⟨88, 8, 88, 16⟩) (.cons (.nm 8 "_law_more" ⟨88, 18, 88, 27⟩) .nil)) 0 ⟨88, 8, 88, 27⟩) (.call 11 "_law_seen" (.var 6 "_law_call" ⟨88, 40, 88, 49⟩) (.cons (.bin .add (.var 1 "_law_way" ⟨88, 51, 88, 59⟩) (.tup (.cons (.var 5 "_law_k" ⟨88, 63, 88, 69⟩) .nil) 0 ⟨88, 62, 88, 71⟩) ⟨88, 51, 88, 71⟩) (.cons (.var 2 "_law_held" ⟨88, 73, 88, 82⟩) .nil)) ⟨88, 30, 88, 39⟩ ⟨88, 30, 88, 83⟩) ⟨88, 8, 88, 83⟩), (.exp (.meth .extend (.var 4 "_law_pieces_now" ⟨89, 8, 89, 23⟩) (.var 8 "_law_more" ⟨89, 31, 89, 40⟩) .nil ⟨89, 8, 89, 30⟩ ⟨89, 8, 89, 41⟩) ⟨89, 8, 89, 41⟩), (.ife (.isN true (.var 7 "_law_own" ⟨90, 11, 90, 19⟩) 0 ⟨90, 27, 90, 31⟩ ⟨90, 11, 90, 31⟩) [(.exp (.meth .append (.var 3 "_law_below" ⟨91, 12, 91, 22⟩) (.var 7 "_law_own" ⟨91, 30, 91, 38⟩) .nil ⟨91, 12, 91, 29⟩ ⟨91, 12, 91, 39⟩) ⟨91, 12, 91, 39⟩)] [] ⟨90, 8, 91, 39⟩)] ⟨87, 4, 91, 39⟩), (.ife (.cmp .isin (.var 1 "_law_way" ⟨92, 7, 92, 15⟩) (.var 2 "_law_held" ⟨92, 19, 92, 28⟩) ⟨92, 7, 92, 28⟩) [(.ret (.tup (.cons (.tup (.cons (.ix (.var 0 "_law_root" ⟨93, 17, 93, 26⟩) (.int 0 0 ⟨93, 27, 93, 28⟩) ⟨93, 17, 93, 29⟩) (.cons (.ix (.var 0 "_law_root" ⟨93, 31, 93, 40⟩) (.int 1 0 ⟨93, 41, 93, 42⟩) ⟨93, 31, 93, 43⟩) (.cons (.blt .tuple (.blt .sorted (.var 3 "_law_below" ⟨93, 58, 93, 68⟩) .nil ⟨93, 51, 93, 57⟩ ⟨93, 51, 93, 69⟩) .nil ⟨93, 45, 93, 50⟩ ⟨93, 45, 93, 70⟩) .nil))) 0 ⟨93, 16, 93, 71⟩) (.cons (.var 4 "_law_pieces_now" ⟨93, 73, 93, 88⟩) .nil)) 0 ⟨93, 15, 93, 89⟩) ⟨93, 8, 93, 89⟩)] [] ⟨92, 4, 93, 89⟩), (.ret (.tup (.cons (.non 0 ⟨94, 12, 94, 16⟩) (.cons (.bin .add (.var 4 "_law_pieces_now" ⟨94, 18, 94, 33⟩) (.bin .mul (.lst false (.cons (.tup (.cons (.str "lost" 0 ⟨94, 38, 94, 44⟩) (.cons (.blt .tuple (.blt .sorted (.var 3 "_law_below" ⟨94, 59, 94, 69⟩) .nil ⟨94, 52, 94, 58⟩ ⟨94, 52, 94, 70⟩) .nil ⟨94, 46, 94, 51⟩ ⟨94, 46, 94, 71⟩) .nil)) 0 ⟨94, 37, 94, 72⟩) .nil) ⟨94, 36, 94, 73⟩) (.blt .int (.cmp .ne (.var 3 "_law_below" ⟨94, 80, 94, 90⟩) (.lst false .nil ⟨94, 94, 94, 96⟩) ⟨94, 80, 94, 96⟩) .nil ⟨94, 76, 94, 79⟩ ⟨94, 76, 94, 97⟩) ⟨94, 36, 94, 97⟩) ⟨94, 18, 94, 97⟩) .nil)) 0 ⟨94, 11, 94, 98⟩) ⟨94, 4, 94, 98⟩)], false, [], .top, false⟩, { posonlyargs := [], args := [{ arg := "_law_root", annotation := none, pos := ⟨85, 14, 85, 23⟩ : PySem.Arg }, { arg := "_law_way", annotation := none, pos := ⟨85, 25, 85, 33⟩ : PySem.Arg }, { arg := "_law_held", annotation := none, pos := ⟨85, 35, 85, 44⟩ : PySem.Arg }], vararg := none, kwonlyargs := [], kw_defaults := [], kwarg := none, defaults := [] : PySem.Arguments }, "_law_seen", "_law_seen"⟩
def f12 : FnT := ⟨⟨"_law_kept_sight", ["_law_seen_here", "_law_held"], ["_law_seen_here", "_law_held", "_law_found", "_law_i", "_law_word", "_law_part", "_law_own", "_law_more"], sc16, [(.set 2 "_law_found" ⟨96, 4, 96, 14⟩ (.lst true .nil ⟨96, 17, 96, 19⟩) ⟨96, 4, 96, 19⟩), (.forr (.tup (.cons (.nm 3 "_law_i" ⟨97, 8, 97, 14⟩) (.cons (.tup (.cons (.nm 4 "_law_word" ⟨97, 17, 97, 26⟩) (.cons (.nm 5 "_law_part" ⟨97, 28, 97, 37⟩) .nil)) 0 ⟨97, 16, 97, 38⟩) .nil)) 0 ⟨97, 8, 97, 38⟩) (.enu (.var 0 "_law_seen_here" ⟨97, 52, 97, 66⟩) ⟨97, 42, 97, 51⟩ ⟨97, 42, 97, 67⟩) [(.tgt (.tup (.cons (.nm 6 "_law_own" ⟨98, 8, 98, 16⟩) (.cons (.nm 7 "_law_more" ⟨98, 18, 98, 27⟩) .nil)) 0 ⟨98, 8, 98, 27⟩) (.call 11 "_law_seen" (.ife (.cmp .eq (.var 4 "_law_word" ⟨98, 53, 98, 62⟩) (.str "top" 0 ⟨98, 66, 98, 71⟩) ⟨98, 53, 98, 71⟩) (.var 5 "_law_part" ⟨98, 40, 98, 49⟩) (.tup (.cons (.str "" 0 ⟨98, 78, 98, 80⟩) (.cons (.int 0 0 ⟨98, 82, 98, 83⟩) (.cons (.var 5 "_law_part" ⟨98, 85, 98, 94⟩) .nil))) 0 ⟨98, 77, 98, 95⟩) ⟨98, 40, 98, 95⟩) (.cons (.tup (.cons (.var 3 "_law_i" ⟨98, 98, 98, 104⟩) .nil) 0 ⟨98, 97, 98, 106⟩) (.cons (.var 1 "_law_held" ⟨98, 108, 98, 117⟩) .nil)) ⟨98, 30, 98, 39⟩ ⟨98, 30, 98, 118⟩) ⟨98, 8, 98, 118⟩), (.exp (.meth .extend (.var 2 "_law_found" ⟨99, 8, 99, 18⟩) (.var 7 "_law_more" ⟨99, 26, 99, 35⟩) .nil ⟨99, 8, 99, 25⟩ ⟨99, 8, 99, 36⟩) ⟨99, 8, 99, 36⟩), (.ife (.isN true (.var 6 "_law_own" ⟨100, 11, 100, 19⟩) 0 ⟨100, 27, 100, 31⟩ ⟨100, 11, 100, 31⟩) [(.exp (.meth .append (.var 2 "_law_found" ⟨101, 12, 101, 22⟩) (.tup (.cons (.str "top" 0 ⟨101, 31, 101, 36⟩) (.cons (.var 6 "_law_own" ⟨101, 38, 101, 46⟩) .nil)) 0 ⟨101, 30, 101, 47⟩) .nil ⟨101, 12, 101, 29⟩ ⟨101, 12, 101, 48⟩) ⟨101, 12, 101, 48⟩)] [] ⟨100, 8, 101, 48⟩)] ⟨97, 4, 101, 48⟩), (.ret (.blt .tuple (.blt .sorted (.var 2 "_law_found" ⟨102, 24, 102, 34⟩) .nil ⟨102, 17, 102, 23⟩ ⟨102, 17, 102, 35⟩) .nil ⟨102, 11, 102, 16⟩ ⟨102, 11, 102, 36⟩) ⟨102, 4, 102, 36⟩)], false, [], .top, false⟩, { posonlyargs := [], args := [{ arg := "_law_seen_here", annotation := none, pos := ⟨95, 20, 95, 34⟩ : PySem.Arg }, { arg := "_law_held", annotation := none, pos := ⟨95, 36, 95, 45⟩ : PySem.Arg }], vararg := none, kwonlyargs := [], kw_defaults := [], kwarg := none, defaults := [] : PySem.Arguments }, "_law_kept_sight", "_law_kept_sight"⟩
def f13 : FnT := ⟨⟨"_law_own_sight", ["_law_root", "_law_held"], ["_law_root", "_law_held", ".0", "_law_way"], sc18, [(.ret (.call 12 "_law_kept_sight" (.tup (.cons (.tup (.cons (.str "top" 0 ⟨104, 29, 104, 34⟩) (.cons (.var 0 "_law_root" ⟨104, 36, 104, 45⟩) .nil)) 0 ⟨104, 28, 104, 46⟩) .nil) 0 ⟨104, 27, 104, 48⟩) (.cons (.lc false (.bin .add (.tup (.cons (.int 0 0 ⟨104, 52, 104, 53⟩) .nil) 0 ⟨104, 51, 104, 55⟩) (.var 3 "_law_way" ⟨104, 58, 104, 66⟩) ⟨104, 51, 104, 66⟩) (.nm 3 "_law_way" ⟨104, 71, 104, 79⟩) (.val (.var 1 "_law_held" ⟨104, 83, 104, 92⟩)) .none sc17 [(".0", 2), ("_law_way", 3)] ⟨104, 50, 104, 93⟩) .nil) ⟨104, 11, 104, 26⟩ ⟨104, 11, 104, 94⟩) ⟨104, 4, 104, 94⟩)], false, [], .top, false⟩, { posonlyargs := [], args := [{ arg := "_law_root", annotation := none, pos := ⟨103, 19, 103, 28⟩ : PySem.Arg }, { arg := "_law_held", annotation := none, pos := ⟨103, 30, 103, 39⟩ : PySem.Arg }], vararg := none, kwonlyargs := [], kw_defaults := [], kwarg := none, defaults := [] : PySem.Arguments }, "_law_own_sight", "_law_own_sight"⟩
def f14 : FnT := ⟨⟨"_law_sets", ["_law_some"], ["_law_some", "_law_found", "_law_one", ".0", "_law_lot"], sc20, [(.set 1 "_law_found" ⟨106, 4, 106, 14⟩ (.lst false (.cons (.lst false .nil ⟨106, 18, 106, 20⟩) .nil) ⟨106, 17, 106, 21⟩) ⟨106, 4, 106, 21⟩), (.forr (.nm 2 "_law_one" ⟨107, 8, 107, 16⟩) (.val (.var 0 "_law_some" ⟨107, 20, 107, 29⟩)) [(.set 1 "_law_found" ⟨108, 8, 108, 18⟩ (.bin .add (.var 1 "_law_found" ⟨108, 21, 108, 31⟩) (.lc false (.bin .add (.var 4 "_law_lot" ⟨108, 35, 108, 43⟩) (.lst false (.cons (.var 2 "_law_one" ⟨108, 47, 108, 55⟩) .nil) ⟨108, 46, 108, 56⟩) ⟨108, 35, 108, 56⟩) (.nm 4 "_law_lot" ⟨108, 61, 108, 69⟩) (.val (.var 1 "_law_found" ⟨108, 73, 108, 83⟩)) .none sc19 [(".0", 3), ("_law_lot", 4)] ⟨108, 34, 108, 84⟩) ⟨108, 21, 108, 84⟩) ⟨108, 8, 108, 84⟩)] ⟨107, 4, 108, 84⟩), (.ret (.var 1 "_law_found" ⟨109, 11, 109, 21⟩) ⟨109, 4, 109, 21⟩)], false, [], .top, false⟩, { posonlyargs := [], args := [{ arg := "_law_some", annotation := none, pos := ⟨105, 14, 105, 23⟩ : PySem.Arg }], vararg := none, kwonlyargs := [], kw_defaults := [], kwarg := none, defaults := [] : PySem.Arguments }, "_law_sets", "_law_sets"⟩
def f15 : FnT := ⟨⟨"_law_some_tree", ["_law_feed_here", "_law_left", "_law_deep"], ["_law_feed_here", "_law_left", "_law_deep", "_law_name", "_law_mark", "_law_calls", "_law_k"], sc21, [(.par3 3 4 5 "_law_name" "_law_mark" "_law_calls" ⟨111, 4, 111, 13⟩ ⟨111, 15, 111, 24⟩ ⟨111, 26, 111, 36⟩ 0 ⟨111, 4, 111, 36⟩ (.call 9 "_law_choice" (.var 0 "_law_feed_here" ⟨111, 52, 111, 66⟩) (.cons (.lst false (.cons (.str "db" 0 ⟨111, 69, 111, 73⟩) (.cons (.str "front" 0 ⟨111, 75, 111, 82⟩) (.cons (.str "pay" 0 ⟨111, 84, 111, 89⟩) .nil))) ⟨111, 68, 111, 90⟩) .nil) ⟨111, 40, 111, 51⟩ ⟨111, 40, 111, 91⟩) (.blt .int (.cmp .eq (.call 8 "_law_draw" (.var 0 "_law_feed_here" ⟨111, 107, 111, 121⟩) (.cons (.int 3 0 ⟨111, 123, 111, 124⟩) .nil) ⟨111, 97, 111, 106⟩ ⟨111, 97, 111, 125⟩) (.int 0 0 ⟨111, 129, 111, 130⟩) ⟨111, 97, 111, 130⟩) .nil ⟨111, 93, 111, 96⟩ ⟨111, 93, 111, 131⟩) (.lst true .nil ⟨111, 133, 111, 135⟩) 0 ⟨111, 39, 111, 136⟩ ⟨111, 4, 111, 136⟩), (.forr (.nm 6 "_law_k" ⟨112, 8, 112, 14⟩) (.rng1 (.ife (.cmp .gt (.var 2 "_law_deep" ⟨112, 56, 112, 65⟩) (.int 0 0 ⟨112, 68, 112, 69⟩) ⟨112, 56, 112, 69⟩) (.call 8 "_law_draw" (.var 0 "_law_feed_here" ⟨112, 34, 112, 48⟩) (.cons (.int 3 0 ⟨112, 50, 112, 51⟩) .nil) ⟨112, 24, 112, 33⟩ ⟨112, 24, 112, 52⟩) (.int 0 0 ⟨112, 75, 112, 76⟩) ⟨112, 24, 112, 76⟩) ⟨112, 18, 112, 23⟩ ⟨112, 18, 112, 77⟩) [(.ife (.cmp .gt (.ix (.var 1 "_law_left" ⟨113, 11, 113, 20⟩) (.int 0 0 ⟨113, 21, 113, 22⟩) ⟨113, 11, 113, 23⟩) (.int 0 0 ⟨113, 26, 113, 27⟩) ⟨113, 11, 113, 27⟩) [(.put (.var 1 "_law_left" ⟨114, 12, 114, 21⟩) (.int 0 0 ⟨114, 22, 114, 23⟩) (.bin .sub (.ix (.var 1 "_law_left" ⟨114, 27, 114, 36⟩) (.int 0 0 ⟨114, 37, 114, 38⟩) ⟨114, 27, 114, 39⟩) (.int 1 0 ⟨114, 42, 114, 43⟩) ⟨114, 27, 114, 43⟩) ⟨114, 12, 114, 24⟩ ⟨114, 12, 114, 43⟩), (.exp (.meth .append (.var 5 "_law_calls" ⟨115, 12, 115, 22⟩) (.call 15 "_law_some_tree" (.var 0 "_law_feed_here" ⟨115, 45, 115, 59⟩) (.cons (.var 1 "_law_left" ⟨115, 61, 115, 70⟩) (.cons (.bin .sub (.var 2 "_law_deep" ⟨115, 72, 115, 81⟩) (.int 1 0 ⟨115, 84, 115, 85⟩) ⟨115, 72, 115, 85⟩) .nil)) ⟨115, 30, 115, 44⟩ ⟨115, 30, 115, 86⟩) .nil ⟨115, 12, 115, 29⟩ ⟨115, 12, 115, 87⟩) ⟨115, 12, 115, 87⟩)] [] ⟨113, 8, 115, 87⟩)] ⟨112, 4, 115, 87⟩), (.ret (.tup (.cons (.var 3 "_law_name" ⟨116, 12, 116, 21⟩) (.cons (.var 4 "_law_mark" ⟨116, 23, 116, 32⟩) (.cons (.blt .tuple (.blt .sorted (.var 5 "_law_calls" ⟨116, 47, 116, 57⟩) .nil ⟨116, 40, 116, 46⟩ ⟨116, 40, 116, 58⟩) .nil ⟨116, 34, 116, 39⟩ ⟨116, 34, 116, 59⟩) .nil))) 0 ⟨116, 11, 116, 60⟩) ⟨116, 4, 116, 60⟩)], false, [], .top, false⟩, { posonlyargs := [], args := [{ arg := "_law_feed_here", annotation := none, pos := ⟨110, 19, 110, 33⟩ : PySem.Arg }, { arg := "_law_left", annotation := none, pos := ⟨110, 35, 110, 44⟩ : PySem.Arg }, { arg := "_law_deep", annotation := none, pos := ⟨110, 46, 110, 55⟩ : PySem.Arg }], vararg := none, kwonlyargs := [], kw_defaults := [], kwarg := none, defaults := [] : PySem.Arguments }, "_law_some_tree", "_law_some_tree"⟩
def f16 : FnT := ⟨⟨"_law_document", [], ["_law_alone", "_law_fine", "_law_wrong"], sc22, [(.pars [(0, "_law_alone", ⟨118, 4, 118, 14⟩), (1, "_law_fine", ⟨118, 16, 118, 25⟩), (2, "_law_wrong", ⟨118, 27, 118, 37⟩)] 0 ⟨118, 4, 118, 37⟩ (.cons (.tup (.cons (.str "front" 0 ⟨118, 42, 118, 49⟩) (.cons (.int 0 0 ⟨118, 51, 118, 52⟩) (.cons (.tup .nil 0 ⟨118, 54, 118, 56⟩) .nil))) 0 ⟨118, 41, 118, 57⟩) (.cons (.tup (.cons (.str "front" 0 ⟨118, 60, 118, 67⟩) (.cons (.int 0 0 ⟨118, 69, 118, 70⟩) (.cons (.tup (.cons (.tup (.cons (.str "pay" 0 ⟨118, 74, 118, 79⟩) (.cons (.int 0 0 ⟨118, 81, 118, 82⟩) (.cons (.tup .nil 0 ⟨118, 84, 118, 86⟩) .nil))) 0 ⟨118, 73, 118, 87⟩) .nil) 0 ⟨118, 72, 118, 89⟩) .nil))) 0 ⟨118, 59, 118, 90⟩) (.cons (.tup (.cons (.str "front" 0 ⟨118, 93, 118, 100⟩) (.cons (.int 0 0 ⟨118, 102, 118, 103⟩) (.cons (.tup (.cons (.tup (.cons (.str "pay" 0 ⟨118, 107, 118, 112⟩) (.cons (.int 1 0 ⟨118, 114, 118, 115⟩) (.cons (.tup .nil 0 ⟨118, 117, 118, 119⟩) .nil))) 0 ⟨118, 106, 118, 120⟩) .nil) 0 ⟨118, 105, 118, 122⟩) .nil))) 0 ⟨118, 92, 118, 123⟩) .nil))) 0 ⟨118, 40, 118, 124⟩ ⟨118, 4, 118, 124⟩), (.ret (.tup (.cons (.tup (.cons (.var 0 "_law_alone" ⟨119, 13, 119, 23⟩) (.cons (.var 1 "_law_fine" ⟨119, 25, 119, 34⟩) (.cons (.var 2 "_law_wrong" ⟨119, 36, 119, 46⟩) .nil))) 0 ⟨119, 12, 119, 47⟩) (.cons (.tup (.cons (.tup (.cons (.str "front" 0 ⟨119, 51, 119, 58⟩) (.cons (.tup (.cons (.str "own" 0 ⟨119, 61, 119, 66⟩) (.cons (.int 1 0 ⟨119, 68, 119, 69⟩) (.cons (.int 2 0 ⟨119, 71, 119, 72⟩) .nil))) 0 ⟨119, 60, 119, 73⟩) .nil)) 0 ⟨119, 50, 119, 74⟩) (.cons (.tup (.cons (.str "pay" 0 ⟨119, 77, 119, 82⟩) (.cons (.tup (.cons (.str "bad" 0 ⟨119, 85, 119, 90⟩) .nil) 0 ⟨119, 84, 119, 92⟩) .nil)) 0 ⟨119, 76, 119, 93⟩) .nil)) 0 ⟨119, 49, 119, 94⟩) .nil)) 0 ⟨119, 11, 119, 95⟩) ⟨119, 4, 119, 95⟩)], false, [], .top, false⟩, { posonlyargs := [], args := [], vararg := none, kwonlyargs := [], kw_defaults := [], kwarg := none, defaults := [] : PySem.Arguments }, "_law_document", "_law_document"⟩
def f17 : FnT := ⟨⟨"_law_six", [], ["_law_pay", "_law_bad", "_law_first"], sc23, [(.pars [(0, "_law_pay", ⟨135, 4, 135, 12⟩), (1, "_law_bad", ⟨135, 14, 135, 22⟩)] 0 ⟨135, 4, 135, 22⟩ (.cons (.tup (.cons (.str "pay" 0 ⟨135, 27, 135, 32⟩) (.cons (.int 0 0 ⟨135, 34, 135, 35⟩) (.cons (.tup .nil 0 ⟨135, 37, 135, 39⟩) .nil))) 0 ⟨135, 26, 135, 40⟩) (.cons (.tup (.cons (.str "pay" 0 ⟨135, 43, 135, 48⟩) (.cons (.int 1 0 ⟨135, 50, 135, 51⟩) (.cons (.tup .nil 0 ⟨135, 53, 135, 55⟩) .nil))) 0 ⟨135, 42, 135, 56⟩) .nil)) 0 ⟨135, 25, 135, 57⟩ ⟨135, 4, 135, 57⟩), (.set 2 "_law_first" ⟨136, 4, 136, 14⟩ (.tup (.cons (.str "front" 0 ⟨136, 18, 136, 25⟩) (.cons (.int 0 0 ⟨136, 27, 136, 28⟩) (.cons (.tup (.cons (.tup (.cons (.str "db" 0 ⟨136, 32, 136, 36⟩) (.cons (.int 0 0 ⟨136, 38, 136, 39⟩) (.cons (.tup (.cons (.var 0 "_law_pay" ⟨136, 42, 136, 50⟩) .nil) 0 ⟨136, 41, 136, 52⟩) .nil))) 0 ⟨136, 31, 136, 53⟩) (.cons (.tup (.cons (.str "db" 0 ⟨136, 56, 136, 60⟩) (.cons (.int 0 0 ⟨136, 62, 136, 63⟩) (.cons (.tup (.cons (.var 0 "_law_pay" ⟨136, 66, 136, 74⟩) (.cons (.var 1 "_law_bad" ⟨136, 76, 136, 84⟩) .nil)) 0 ⟨136, 65, 136, 85⟩) .nil))) 0 ⟨136, 55, 136, 86⟩) .nil)) 0 ⟨136, 30, 136, 87⟩) .nil))) 0 ⟨136, 17, 136, 88⟩) ⟨136, 4, 136, 88⟩), (.ret (.lst false (.cons (.var 2 "_law_first" ⟨137, 12, 137, 22⟩) (.cons (.tup (.cons (.str "front" 0 ⟨137, 25, 137, 32⟩) (.cons (.int 0 0 ⟨137, 34, 137, 35⟩) (.cons (.bin .add (.bin .mul (.tup (.cons (.tup (.cons (.str "db" 0 ⟨137, 39, 137, 43⟩) (.cons (.int 0 0 ⟨137, 45, 137, 46⟩) (.cons (.tup .nil 0 ⟨137, 48, 137, 50⟩) .nil))) 0 ⟨137, 38, 137, 51⟩) .nil) 0 ⟨137, 37, 137, 53⟩) (.int 3 0 ⟨137, 56, 137, 57⟩) ⟨137, 37, 137, 57⟩) (.tup (.cons (.var 0 "_law_pay" ⟨137, 61, 137, 69⟩) (.cons (.var 1 "_law_bad" ⟨137, 71, 137, 79⟩) .nil)) 0 ⟨137, 60, 137, 80⟩) ⟨137, 37, 137, 80⟩) .nil))) 0 ⟨137, 24, 137, 81⟩) .nil)) ⟨137, 11, 137, 82⟩) ⟨137, 4, 137, 82⟩)], false, [], .top, false⟩, { posonlyargs := [], args := [], vararg := none, kwonlyargs := [], kw_defaults := [], kwarg := none, defaults := [] : PySem.Arguments }, "_law_six", "_law_six"⟩
def f18 : FnT := ⟨⟨"_law_due", ["_law_root", "_law_item"], ["_law_root", "_law_item", "_law_ways", "_law_k", "_law_way", ".0", "_law_span", "_law_own"], sc26, [(.set 2 "_law_ways" ⟨139, 4, 139, 13⟩ (.lc false (.ix (.var 6 "_law_span" ⟨139, 17, 139, 26⟩) (.int 0 0 ⟨139, 27, 139, 28⟩) ⟨139, 17, 139, 29⟩) (.nm 6 "_law_span" ⟨139, 34, 139, 43⟩) (.val (.call 10 "_law_spans" (.var 0 "_law_root" ⟨139, 58, 139, 67⟩) (.cons (.tup .nil 0 ⟨139, 69, 139, 71⟩) .nil) ⟨139, 47, 139, 57⟩ ⟨139, 47, 139, 72⟩)) .none sc24 [(".0", 5), ("_law_span", 6)] ⟨139, 16, 139, 73⟩) ⟨139, 4, 139, 73⟩), (.ife (.not (.isa .tuple (.var 1 "_law_item" ⟨140, 22, 140, 31⟩) ⟨140, 33, 140, 38⟩ ⟨140, 11, 140, 21⟩ ⟨140, 11, 140, 39⟩) ⟨140, 7, 140, 39⟩) [(.ret (.tup (.cons (.str "usable" 0 ⟨141, 16, 141, 24⟩) (.cons (.str "kept" 0 ⟨141, 26, 141, 32⟩) (.cons (.neg (.int 1 0 ⟨141, 35, 141, 36⟩) ⟨141, 34, 141, 36⟩) .nil))) 0 ⟨141, 15, 141, 37⟩) ⟨141, 8, 141, 37⟩)] [] ⟨140, 4, 141, 37⟩), (.forr (.tup (.cons (.nm 3 "_law_k" ⟨142, 8, 142, 14⟩) (.cons (.nm 4 "_law_way" ⟨142, 16, 142, 24⟩) .nil)) 0 ⟨142, 8, 142, 24⟩) (.enu (.var 1 "_law_item" ⟨142, 38, 142, 47⟩) ⟨142, 28, 142, 37⟩ ⟨142, 28, 142, 48⟩) [(.ife (.or (.cmp .notin (.blt .repr (.var 4 "_law_way" ⟨143, 16, 143, 24⟩) .nil ⟨143, 11, 143, 15⟩ ⟨143, 11, 143, 25⟩) (.lc false (.blt .repr (.var 7 "_law_own" ⟨143, 39, 143, 47⟩) .nil ⟨143, 34, 143, 38⟩ ⟨143, 34, 143, 48⟩) (.nm 7 "_law_own" ⟨143, 53, 143, 61⟩) (.val (.var 2 "_law_ways" ⟨143, 65, 143, 74⟩)) .none sc25 [(".0", 5), ("_law_own", 7)] ⟨143, 33, 143, 75⟩) ⟨143, 11, 143, 75⟩) (.cons (.and (.cmp .gt (.var 3 "_law_k" ⟨143, 80, 143, 86⟩) (.int 0 0 ⟨143, 89, 143, 90⟩) ⟨143, 80, 143, 90⟩) (.cons (.cmp .le (.var 4 "_law_way" ⟨143, 95, 143, 103⟩) (.ix (.var 1 "_law_item" ⟨143, 107, 143, 116⟩) (.bin .sub (.var 3 "_law_k" ⟨143, 117, 143, 123⟩) (.int 1 0 ⟨143, 126, 143, 127⟩) ⟨143, 117, 143, 127⟩) ⟨143, 107, 143, 128⟩) ⟨143, 95, 143, 128⟩) .nil) ⟨143, 80, 143, 128⟩) .nil) ⟨143, 11, 143, 129⟩) [(.ret (.tup (.cons (.str "usable" 0 ⟨144, 20, 144, 28⟩) (.cons (.str "kept" 0 ⟨144, 30, 144, 36⟩) (.cons (.neg (.int 1 0 ⟨144, 39, 144, 40⟩) ⟨144, 38, 144, 40⟩) .nil))) 0 ⟨144, 19, 144, 41⟩) ⟨144, 12, 144, 41⟩)] [] ⟨143, 8, 144, 41⟩)] ⟨142, 4, 144, 41⟩), (.ret (.tup (.cons (.str "told" 0 ⟨145, 12, 145, 18⟩) (.cons (.call 13 "_law_own_sight" (.var 0 "_law_root" ⟨145, 35, 145, 44⟩) (.cons (.blt .list (.var 1 "_law_item" ⟨145, 51, 145, 60⟩) .nil ⟨145, 46, 145, 50⟩ ⟨145, 46, 145, 61⟩) .nil) ⟨145, 20, 145, 34⟩ ⟨145, 20, 145, 62⟩) .nil)) 0 ⟨145, 11, 145, 63⟩) ⟨145, 4, 145, 63⟩)], false, [], .top, false⟩, { posonlyargs := [], args := [{ arg := "_law_root", annotation := none, pos := ⟨138, 13, 138, 22⟩ : PySem.Arg }, { arg := "_law_item", annotation := none, pos := ⟨138, 24, 138, 33⟩ : PySem.Arg }], vararg := none, kwonlyargs := [], kw_defaults := [], kwarg := none, defaults := [] : PySem.Arguments }, "_law_due", "_law_due"⟩
def f19 : FnT := ⟨⟨"_law_agrees", ["_law_root"], ["_law_root", "_law_ways", "_law_items", "_law_every", "_law_before", "_law_due_here", "_law_told", "_law_item", ".0", "_law_span", "_law_lot", "_law_own"], sc29, [(.set 1 "_law_ways" ⟨147, 4, 147, 13⟩ (.lc false (.ix (.var 9 "_law_span" ⟨147, 17, 147, 26⟩) (.int 0 0 ⟨147, 27, 147, 28⟩) ⟨147, 17, 147, 29⟩) (.nm 9 "_law_span" ⟨147, 34, 147, 43⟩) (.val (.call 10 "_law_spans" (.var 0 "_law_root" ⟨147, 58, 147, 67⟩) (.cons (.tup .nil 0 ⟨147, 69, 147, 71⟩) .nil) ⟨147, 47, 147, 57⟩ ⟨147, 47, 147, 72⟩)) .none sc24 [(".0", 8), ("_law_span", 9)] ⟨147, 16, 147, 73⟩) ⟨147, 4, 147, 73⟩), (.set 2 "_law_items" ⟨148, 4, 148, 14⟩ (.lc false (.blt .tuple (.var 10 "_law_lot" ⟨148, 24, 148, 32⟩) .nil ⟨148, 18, 148, 23⟩ ⟨148, 18, 148, 33⟩) (.nm 10 "_law_lot" ⟨148, 38, 148, 46⟩) (.val (.call 14 "_law_sets" (.var 1 "_law_ways" ⟨148, 60, 148, 69⟩) .nil ⟨148, 50, 148, 59⟩ ⟨148, 50, 148, 70⟩)) .none sc27 [(".0", 8), ("_law_lot", 10)] ⟨148, 17, 148, 71⟩) ⟨148, 4, 148, 71⟩), (.set 3 "_law_every" ⟨149, 4, 149, 14⟩ (.ix (.var 2 "_law_items" ⟨149, 17, 149, 27⟩) (.neg (.int 1 0 ⟨149, 29, 149, 30⟩) ⟨149, 28, 149, 30⟩) ⟨149, 17, 149, 31⟩) ⟨149, 4, 149, 31⟩), (.set 2 "_law_items" ⟨150, 4, 150, 14⟩ (.bin .add (.var 2 "_law_items" ⟨150, 17, 150, 27⟩) (.lst false (.cons (.rev (.var 3 "_law_every" ⟨150, 31, 150, 41⟩) 0 ⟨150, 45, 150, 46⟩ ⟨150, 44, 150, 46⟩ ⟨150, 42, 150, 46⟩ ⟨150, 31, 150, 47⟩) (.cons (.bin .add (.var 3 "_law_every" ⟨150, 49, 150, 59⟩) (.sl (.var 3 "_law_every" ⟨150, 62, 150, 72⟩) (.some (.neg (.int 1 0 ⟨150, 74, 150, 75⟩) ⟨150, 73, 150, 75⟩)) .none ⟨150, 73, 150, 76⟩ ⟨150, 62, 150, 77⟩) ⟨150, 49, 150, 77⟩) (.cons (.bin .add (.var 3 "_law_every" ⟨150, 79, 150, 89⟩) (.tup (.cons (.tup (.cons (.int 9 0 ⟨150, 94, 150, 95⟩) .nil) 0 ⟨150, 93, 150, 97⟩) .nil) 0 ⟨150, 92, 150, 99⟩) ⟨150, 79, 150, 99⟩) (.cons (.bin .add (.var 3 "_law_every" ⟨150, 101, 150, 111⟩) (.tup (.cons (.tup (.cons (.int 0 0 ⟨150, 116, 150, 117⟩) (.cons (.int 0 0 ⟨150, 119, 150, 120⟩) (.cons (.int 0 0 ⟨150, 122, 150, 123⟩) (.cons (.int 0 0 ⟨150, 125, 150, 126⟩) .nil)))) 0 ⟨150, 115, 150, 127⟩) .nil) 0 ⟨150, 114, 150, 129⟩) ⟨150, 101, 150, 129⟩) (.cons (.blt .list (.var 3 "_law_every" ⟨150, 136, 150, 146⟩) .nil ⟨150, 131, 150, 135⟩ ⟨150, 131, 150, 147⟩) .nil))))) ⟨150, 30, 150, 148⟩) ⟨150, 17, 150, 148⟩) ⟨150, 4, 150, 148⟩), (.set 2 "_law_items" ⟨151, 4, 151, 14⟩ (.bin .add (.var 2 "_law_items" ⟨151, 17, 151, 27⟩) (.lst false (.cons (.non 0 ⟨151, 31, 151, 35⟩) (.cons (.int 0 0 ⟨151, 37, 151, 38⟩) (.cons (.str "()" 0 ⟨151, 40, 151, 44⟩) .nil))) ⟨151, 30, 151, 45⟩) ⟨151, 17, 151, 45⟩) ⟨151, 4, 151, 45⟩), (.set 2 "_law_items" ⟨152, 4, 152, 14⟩ (.bin .add (.var 2 "_law_items" ⟨152, 17, 152, 27⟩) (.lst false (.cons (.tup (.cons (.non 0 ⟨152, 32, 152, 36⟩) .nil) 0 ⟨152, 31, 152, 38⟩) (.cons (.tup (.cons (.tup (.cons (.bl true 0 ⟨152, 42, 152, 46⟩) .nil) 0 ⟨152, 41, 152, 48⟩) .nil) 0 ⟨152, 40, 152, 50⟩) (.cons (.tup (.cons (.lst false .nil ⟨152, 53, 152, 55⟩) .nil) 0 ⟨152, 52, 152, 57⟩) (.cons (.tup (.cons (.tup (.cons (.neg (.int 1 0 ⟨152, 62, 152, 63⟩) ⟨152, 61, 152, 63⟩) .nil) 0 ⟨152, 60, 152, 65⟩) .nil) 0 ⟨152, 59, 152, 67⟩) (.cons (.tup (.cons (.int 0 0 ⟨152, 70, 152, 71⟩) .nil) 0 ⟨152, 69, 152, 73⟩) (.cons (.tup (.cons (.tup .nil 0 ⟨152, 76, 152, 78⟩) (.cons (.tup (.cons (.tup .nil 0 ⟨152, 81, 152, 83⟩) .nil) 0 ⟨152, 80, 152, 85⟩) .nil)) 0 ⟨152, 75, 152, 86⟩) (.cons (.tup (.cons (.str "" 0 ⟨152, 89, 152, 91⟩) .nil) 0 ⟨152, 88, 152, 93⟩) (.cons (.tup (.cons (.tup (.cons (.bl false 0 ⟨152, 97, 152, 102⟩) .nil) 0 ⟨152, 96, 152, 104⟩) .nil) 0 ⟨152, 95, 152, 106⟩) .nil)))))))) ⟨152, 30, 152, 107⟩) ⟨152, 17, 152, 107⟩) ⟨152, 4, 152, 107⟩), (.forr (.nm 7 "_law_item" ⟨153, 8, 153, 17⟩) (.val (.var 2 "_law_items" ⟨153, 21, 153, 31⟩)) [(.par 4 5 "_law_before" "_law_due_here" ⟨154, 8, 154, 19⟩ ⟨154, 21, 154, 34⟩ 0 ⟨154, 8, 154, 34⟩ (.blt .repr (.tup (.cons (.var 0 "_law_root" ⟨154, 44, 154, 53⟩) (.cons (.var 7 "_law_item" ⟨154, 55, 154, 64⟩) .nil)) 0 ⟨154, 43, 154, 65⟩) .nil ⟨154, 38, 154, 42⟩ ⟨154, 38, 154, 66⟩) (.blt .repr (.call 18 "_law_due" (.var 0 "_law_root" ⟨154, 82, 154, 91⟩) (.cons (.var 7 "_law_item" ⟨154, 93, 154, 102⟩) .nil) ⟨154, 73, 154, 81⟩ ⟨154, 73, 154, 103⟩) .nil ⟨154, 68, 154, 72⟩ ⟨154, 68, 154, 104⟩) 0 ⟨154, 37, 154, 105⟩ ⟨154, 8, 154, 105⟩), (.set 6 "_law_told" ⟨155, 8, 155, 17⟩ (.lst true (.cons (.outc "_law_outcome" (.call 6 "sight_of" (.var 0 "_law_root" ⟨155, 51, 155, 60⟩) (.cons (.var 7 "_law_item" ⟨155, 62, 155, 71⟩) .nil) ⟨155, 42, 155, 50⟩ ⟨155, 42, 155, 72⟩) sc28 ⟨155, 34, 155, 72⟩ ⟨155, 21, 155, 33⟩ ⟨155, 21, 155, 73⟩) .nil) ⟨155, 20, 155, 74⟩) ⟨155, 8, 155, 74⟩), (.exp (.meth .append (.var 6 "_law_told" ⟨156, 8, 156, 17⟩) (.outc "_law_outcome" (.callk 6 "sight_of" .nil [("kept", ⟨156, 55, 156, 69⟩), ("tree", ⟨156, 71, 156, 85⟩)] (.cons (.var 7 "_law_item" ⟨156, 60, 156, 69⟩) (.cons (.var 0 "_law_root" ⟨156, 76, 156, 85⟩) .nil)) [1, 0] ⟨156, 46, 156, 54⟩ ⟨156, 46, 156, 86⟩) sc28 ⟨156, 38, 156, 86⟩ ⟨156, 25, 156, 37⟩ ⟨156, 25, 156, 87⟩) .nil ⟨156, 8, 156, 24⟩ ⟨156, 8, 156, 88⟩) ⟨156, 8, 156, 88⟩), (.ife (.or (.cmp .ne (.lc false (.blt .repr (.var 11 "_law_own" ⟨157, 17, 157, 25⟩) .nil ⟨157, 12, 157, 16⟩ ⟨157, 12, 157, 26⟩) (.nm 11 "_law_own" ⟨157, 31, 157, 39⟩) (.val (.var 6 "_law_told" ⟨157, 43, 157, 52⟩)) .none sc25 [(".0", 8), ("_law_own", 11)] ⟨157, 11, 157, 53⟩) (.lst false (.cons (.var 5 "_law_due_here" ⟨157, 58, 157, 71⟩) (.cons (.var 5 "_law_due_here" ⟨157, 73, 157, 86⟩) .nil)) ⟨157, 57, 157, 87⟩) ⟨157, 11, 157, 87⟩) (.cons (.cmp .ne (.blt .repr (.tup (.cons (.var 0 "_law_root" ⟨157, 97, 157, 106⟩) (.cons (.var 7 "_law_item" ⟨157, 108, 157, 117⟩) .nil)) 0 ⟨157, 96, 157, 118⟩) .nil ⟨157, 91, 157, 95⟩ ⟨157, 91, 157, 119⟩) (.var 4 "_law_before" ⟨157, 123, 157, 134⟩) ⟨157, 91, 157, 134⟩) .nil) ⟨157, 11, 157, 134⟩) [(.ret (.bl false 0 ⟨158, 19, 158, 24⟩) ⟨158, 12, 158, 24⟩)] [] ⟨157, 8, 158, 24⟩)] ⟨153, 4, 158, 24⟩), (.ret (.bl true 0 ⟨159, 11, 159, 15⟩) ⟨159, 4, 159, 15⟩)], false, [], .top, true⟩, { posonlyargs := [], args := [{ arg := "_law_root", annotation := none, pos := ⟨146, 16, 146, 25⟩ : PySem.Arg }], vararg := none, kwonlyargs := [], kw_defaults := [], kwarg := none, defaults := [] : PySem.Arguments }, "_law_agrees", "_law_agrees"⟩
def f20 : FnT := ⟨⟨"law", ["_law_script"], ["_law_script", "_law_feed_here", "_law_root", ".0", "_law_k"], sc31, [(.set 1 "_law_feed_here" ⟨161, 4, 161, 18⟩ (.call 7 "_law_feed" (.var 0 "_law_script" ⟨161, 31, 161, 42⟩) .nil ⟨161, 21, 161, 30⟩ ⟨161, 21, 161, 43⟩) ⟨161, 4, 161, 43⟩), (.forr (.nm 2 "_law_root" ⟨162, 8, 162, 17⟩) (.val (.bin .add (.bin .add (.blt .list (.ix (.call0 16 "_law_document" ⟨162, 26, 162, 39⟩ ⟨162, 26, 162, 41⟩) (.int 0 0 ⟨162, 42, 162, 43⟩) ⟨162, 26, 162, 44⟩) .nil ⟨162, 21, 162, 25⟩ ⟨162, 21, 162, 45⟩) (.call0 17 "_law_six" ⟨162, 48, 162, 56⟩ ⟨162, 48, 162, 58⟩) ⟨162, 21, 162, 58⟩) (.lc false (.call 15 "_law_some_tree" (.var 1 "_law_feed_here" ⟨162, 77, 162, 91⟩) (.cons (.lst true (.cons (.int 3 0 ⟨162, 94, 162, 95⟩) .nil) ⟨162, 93, 162, 96⟩) (.cons (.int 3 0 ⟨162, 98, 162, 99⟩) .nil)) ⟨162, 62, 162, 76⟩ ⟨162, 62, 162, 100⟩) (.nm 4 "_law_k" ⟨162, 105, 162, 111⟩) (.rng1 (.int 8 0 ⟨162, 121, 162, 122⟩) ⟨162, 115, 162, 120⟩ ⟨162, 115, 162, 123⟩) .none sc30 [(".0", 3), ("_law_k", 4)] ⟨162, 61, 162, 124⟩) ⟨162, 21, 162, 124⟩)) [(.ife (.not (.call 19 "_law_agrees" (.var 2 "_law_root" ⟨163, 27, 163, 36⟩) .nil ⟨163, 15, 163, 26⟩ ⟨163, 15, 163, 37⟩) ⟨163, 11, 163, 37⟩) [(.ret (.bl false 0 ⟨164, 19, 164, 24⟩) ⟨164, 12, 164, 24⟩)] [] ⟨163, 8, 164, 24⟩)] ⟨162, 4, 164, 24⟩), (.ret (.bl true 0 ⟨165, 11, 165, 15⟩) ⟨165, 4, 165, 15⟩)], false, [], .top, false⟩, { posonlyargs := [], args := [{ arg := "_law_script", annotation := none, pos := ⟨160, 8, 160, 19⟩ : PySem.Arg }], vararg := none, kwonlyargs := [], kw_defaults := [], kwarg := none, defaults := [] : PySem.Arguments }, "law", "law"⟩
def gl : List (Str × PyData) := []
def ts : List FnT := ([f0, f1, f2, f3, f4, f5, f6, f7, f8, f9, f10, f11, f12, f13, f14, f15, f16, f17, f18, f19] : List FnT) ++ ([f20] : List FnT)
theorem b0 : BindP f0 := fun _ _ _ _ _ _ _ _ _ _ us hl => match us, hl with | [_, _], _ => rfl
theorem b1 : BindP f1 := fun _ _ _ _ _ _ _ _ _ _ us hl => match us, hl with | [_], _ => rfl
theorem b2 : BindP f2 := fun _ _ _ _ _ _ _ _ _ _ us hl => match us, hl with | [_], _ => rfl
theorem b3 : BindP f3 := fun _ _ _ _ _ _ _ _ _ _ us hl => match us, hl with | [_, _, _], _ => rfl
theorem b4 : BindP f4 := fun _ _ _ _ _ _ _ _ _ _ us hl => match us, hl with | [_, _, _], _ => rfl
theorem b5 : BindP f5 := fun _ _ _ _ _ _ _ _ _ _ us hl => match us, hl with | [_, _], _ => rfl
theorem b6 : BindP f6 := fun _ _ _ _ _ _ _ _ _ _ us hl => match us, hl with | [_, _], _ => rfl
theorem k6_0 : BindK f6 (0, (["kept", "tree"] : List Str), ([1, 0] : List Nat)) := fun _ _ _ _ _ _ _ _ _ _ us ws vals h1 h2 h3 => match us, ws, h1, h2, h3 with | [], [c0, c1], _, _, h3 => (Option.some.inj h3 : [c1, c0] = vals) ▸ rfl
theorem b7 : BindP f7 := fun _ _ _ _ _ _ _ _ _ _ us hl => match us, hl with | [_], _ => rfl
theorem b8 : BindP f8 := fun _ _ _ _ _ _ _ _ _ _ us hl => match us, hl with | [_, _], _ => rfl
theorem b9 : BindP f9 := fun _ _ _ _ _ _ _ _ _ _ us hl => match us, hl with | [_, _], _ => rfl
theorem b10 : BindP f10 := fun _ _ _ _ _ _ _ _ _ _ us hl => match us, hl with | [_, _], _ => rfl
theorem b11 : BindP f11 := fun _ _ _ _ _ _ _ _ _ _ us hl => match us, hl with | [_, _, _], _ => rfl
theorem b12 : BindP f12 := fun _ _ _ _ _ _ _ _ _ _ us hl => match us, hl with | [_, _], _ => rfl
theorem b13 : BindP f13 := fun _ _ _ _ _ _ _ _ _ _ us hl => match us, hl with | [_, _], _ => rfl
theorem b14 : BindP f14 := fun _ _ _ _ _ _ _ _ _ _ us hl => match us, hl with | [_], _ => rfl
theorem b15 : BindP f15 := fun _ _ _ _ _ _ _ _ _ _ us hl => match us, hl with | [_, _, _], _ => rfl
theorem b16 : BindP f16 := fun _ _ _ _ _ _ _ _ _ _ us hl => match us, hl with | [], _ => rfl
theorem b17 : BindP f17 := fun _ _ _ _ _ _ _ _ _ _ us hl => match us, hl with | [], _ => rfl
theorem b18 : BindP f18 := fun _ _ _ _ _ _ _ _ _ _ us hl => match us, hl with | [_, _], _ => rfl
theorem b19 : BindP f19 := fun _ _ _ _ _ _ _ _ _ _ us hl => match us, hl with | [_], _ => rfl
theorem b20 : BindP f20 := fun _ _ _ _ _ _ _ _ _ _ us hl => match us, hl with | [_], _ => rfl
def xt0 : ExT := { c := "NotUsable", f1 := "word", f2 := "at", qn := "NotUsable.__init__", args := { posonlyargs := [], args := [{ arg := "self", annotation := none, pos := ⟨20, 17, 20, 21⟩ : PySem.Arg }, { arg := "word", annotation := none, pos := ⟨20, 23, 20, 27⟩ : PySem.Arg }, { arg := "at", annotation := none, pos := ⟨20, 29, 20, 31⟩ : PySem.Arg }], vararg := none, kwonlyargs := [], kw_defaults := [], kwarg := none, defaults := [] : PySem.Arguments }, sc := sc32, p := fun i => ([⟨21, 8, 21, 13⟩, ⟨21, 8, 21, 15⟩, ⟨21, 8, 21, 24⟩, ⟨21, 25, 21, 29⟩, ⟨21, 31, 21, 33⟩, ⟨21, 8, 21, 34⟩, ⟨21, 8, 21, 34⟩, ⟨22, 8, 22, 12⟩, ⟨22, 8, 22, 17⟩, ⟨22, 20, 22, 24⟩, ⟨22, 8, 22, 24⟩, ⟨23, 8, 23, 12⟩, ⟨23, 8, 23, 15⟩, ⟨23, 18, 23, 20⟩, ⟨23, 8, 23, 20⟩] : List Pos).getD i ⟨0, 0, 0, 0⟩ }
def otx : Option OutTx := some { x := "_law_outcome", args := { posonlyargs := [], args := [{ arg := "_law_ask", annotation := none, pos := ⟨120, 17, 120, 25⟩ : PySem.Arg }], vararg := none, kwonlyargs := [], kw_defaults := [], kwarg := none, defaults := [] : PySem.Arguments }, sc := sc33, p := fun i => (([⟨121, 4, 121, 14⟩, ⟨121, 18, 121, 23⟩, ⟨121, 17, 121, 25⟩, ⟨121, 4, 121, 25⟩, ⟨123, 8, 123, 18⟩, ⟨123, 22, 123, 28⟩, ⟨123, 30, 123, 38⟩, ⟨123, 30, 123, 40⟩, ⟨123, 21, 123, 41⟩, ⟨123, 8, 123, 41⟩, ⟨124, 11, 124, 20⟩, ⟨125, 8, 125, 22⟩, ⟨125, 26, 125, 36⟩, ⟨125, 37, 125, 38⟩, ⟨125, 40, 125, 52⟩, ⟨125, 26, 125, 53⟩, ⟨125, 55, 125, 65⟩, ⟨125, 66, 125, 67⟩, ⟨125, 69, 125, 78⟩, ⟨125, 55, 125, 79⟩] : List Pos) ++ ([⟨125, 25, 125, 80⟩, ⟨125, 8, 125, 80⟩, ⟨126, 8, 126, 18⟩, ⟨126, 22, 126, 32⟩, ⟨126, 33, 126, 34⟩, ⟨126, 36, 126, 46⟩, ⟨126, 22, 126, 47⟩, ⟨126, 49, 126, 59⟩, ⟨126, 60, 126, 61⟩, ⟨126, 63, 126, 73⟩, ⟨126, 49, 126, 74⟩, ⟨126, 21, 126, 75⟩, ⟨126, 8, 126, 75⟩, ⟨127, 8, 127, 21⟩, ⟨127, 24, 127, 34⟩, ⟨127, 35, 127, 36⟩, ⟨127, 39, 127, 48⟩, ⟨127, 50, 127, 59⟩, ⟨127, 61, 127, 68⟩, ⟨127, 38, 127, 69⟩] : List Pos) ++ ([⟨127, 24, 127, 70⟩, ⟨127, 8, 127, 70⟩, ⟨128, 11, 128, 21⟩, ⟨128, 22, 128, 23⟩, ⟨128, 25, 128, 35⟩, ⟨128, 11, 128, 36⟩, ⟨128, 46, 128, 59⟩, ⟨128, 42, 128, 59⟩, ⟨128, 66, 128, 76⟩, ⟨128, 80, 128, 94⟩, ⟨128, 66, 128, 94⟩, ⟨128, 11, 128, 95⟩, ⟨129, 15, 129, 29⟩, ⟨129, 34, 129, 38⟩, ⟨129, 40, 129, 45⟩, ⟨129, 33, 129, 46⟩, ⟨129, 15, 129, 46⟩, ⟨130, 16, 130, 26⟩, ⟨130, 30, 130, 37⟩, ⟨130, 39, 130, 40⟩] : List Pos) ++ ([⟨130, 39, 130, 45⟩, ⟨130, 47, 130, 48⟩, ⟨130, 47, 130, 51⟩, ⟨130, 29, 130, 52⟩, ⟨130, 16, 130, 52⟩, ⟨131, 17, 131, 31⟩, ⟨131, 36, 131, 41⟩, ⟨131, 43, 131, 47⟩, ⟨131, 35, 131, 48⟩, ⟨131, 17, 131, 48⟩, ⟨132, 16, 132, 26⟩, ⟨132, 30, 132, 38⟩, ⟨132, 40, 132, 41⟩, ⟨132, 40, 132, 46⟩, ⟨132, 48, 132, 49⟩, ⟨132, 48, 132, 52⟩, ⟨132, 29, 132, 53⟩, ⟨132, 16, 132, 53⟩, ⟨131, 12, 132, 53⟩, ⟨129, 12, 132, 53⟩] : List Pos) ++ ([⟨128, 8, 132, 53⟩, ⟨124, 4, 132, 53⟩, ⟨122, 4, 132, 53⟩, ⟨133, 11, 133, 21⟩, ⟨133, 4, 133, 21⟩] : List Pos)).getD i ⟨0, 0, 0, 0⟩ }
def ext : Ext := { xs := [xt0], out := otx, lams := ["_law_agrees"], fl := "/claim/cut.py" }
theorem bx0 : BindX xt0 := fun _ _ _ _ _ _ _ _ _ _ _ _ _ => rfl
theorem bx : BindXs ext.xs := ⟨bx0, trivial⟩
theorem bo : BindO ext.out := fun _ _ _ _ _ _ _ _ _ _ us hl => match us, hl with | [_], _ => rfl
theorem bs : BindAll ts := ⟨⟨b0, trivial⟩, ⟨b1, trivial⟩, ⟨b2, trivial⟩, ⟨b3, trivial⟩, ⟨b4, trivial⟩, ⟨b5, trivial⟩, ⟨b6, ⟨k6_0, trivial⟩⟩, ⟨b7, trivial⟩, ⟨b8, trivial⟩, ⟨b9, trivial⟩, ⟨b10, trivial⟩, ⟨b11, trivial⟩, ⟨b12, trivial⟩, ⟨b13, trivial⟩, ⟨b14, trivial⟩, ⟨b15, trivial⟩, ⟨b16, trivial⟩, ⟨b17, trivial⟩, ⟨b18, trivial⟩, ⟨b19, trivial⟩, ⟨b20, trivial⟩, trivial⟩
def cls : List (Str × List Str) := []
theorem okT : tabOk gl cls ext ts = true := by kernel_rfl
def fa : List He.Fa := faOf gl cls ts
abbrev R : PySem.W.OpenRow := PySem.W.OpenLaw.row PySem.Challenge.rw_thinspans_k17_sights_told
abbrev hk : PySem.W.Hook := hookZ 6 fa ts ext
def ob (s : PySem.W.SharedT) : AlZ := obsZ 6 fa ts ext (HandSHeadRun.getT s)
theorem ob_eq (s : PySem.W.SharedT) : ob s = hk.obs s.abs := obsZ_eq (HandSHeadRun.getT_eq s)
def loose : List PySem.Str := (["ThinError", "PaperError", "TraceError", "BookError", "TextError", "InvalidPaper", "NotUsable", "NotTold", "spans_within", "spans_of", "paths_of", "kept_tree", "lost_pieces", "raw_sight", "sight_of", "_law_feed", "_law_draw", "_law_choice", "_law_spans", "_law_seen"] : List PySem.Str) ++ (["_law_kept_sight", "_law_own_sight", "_law_sets", "_law_some_tree", "_law_document", "_law_outcome", "_law_six", "_law_due", "_law_agrees"] : List PySem.Str)
theorem run0 (w : World) : HandSHeadRun.RunEq R (PySem.W.view R.prog [33]) hk ob 20000 loose w := by
  intro os
  kernel_rfl
end Law

namespace Ev
open PySem PySem.Spec

/-! ### the plain law's tools -/
theorem cell_new (M : Sto) (c : Cell) : (M ++ [c])[M.length]? = some c := by simp
theorem set_new (M : Sto) (c d : Cell) : (M ++ [c]).set M.length d = M ++ [d] := by simp
theorem take_new (M : Sto) (c : Cell) : (M ++ [c]).take M.length = M := List.take_left
theorem addTo_new (M : Sto) (acc : List PyData) (d : PyData) (h : acc.length < sizeLine) : addTo M.length d (M ++ [.lst acc]) = some (M ++ [.lst (acc ++ [d])]) := by
  simp [addTo, h]
theorem step_lst (xs : List PyData) (i : Nat) (M : Sto) : ISrc.step i M (.lst (.d (.list xs))) = some ((xs.map Vl.d)[i]?) := by simp [ISrc.step, lsD, peek]
theorem step_tup (xs : List PyData) (i : Nat) (M : Sto) : ISrc.step i M (.tup (.d (.tuple xs))) = some ((xs.map Vl.d)[i]?) := by simp [ISrc.step, tpD, peek]
theorem step_rng (lo : Int) (n i : Nat) (M : Sto) : ISrc.step i M (.rng lo n) = some (((List.range n).map fun k => Vl.d (.int (lo + (k : Nat))))[i]?) := by
  simp only [ISrc.step, List.getElem?_map]
  by_cases h : i < n
  · rw [if_pos h, List.getElem?_range h]
    rfl
  · rw [if_neg h, List.getElem?_eq_none (by simpa using h)]
    rfl
theorem size_lst (xs : List PyData) (M : Sto) : ISrc.size M (.lst (.d (.list xs))) = (xs.map Vl.d).length := by simp [ISrc.size, lsD, peek]
theorem size_tup (xs : List PyData) (M : Sto) : ISrc.size M (.tup (.d (.tuple xs))) = (xs.map Vl.d).length := by simp [ISrc.size, tpD, peek]
theorem size_rng (lo : Int) (n : Nat) (M : Sto) : ISrc.size M (.rng lo n) = ((List.range n).map fun k => Vl.d (.int (lo + (k : Nat)))).length := by simp [ISrc.size]
/-- what a source walks -/
structure Walks (src : ISrc) (M : Sto) (xs : List Vl) : Prop where
  step : ∀ i M', i ≤ xs.length → src.step i M' = some xs[i]?
  size : src.size M = xs.length
theorem walks_lst (xs : List PyData) (M : Sto) : Walks (.lst (.d (.list xs))) M (xs.map Vl.d) := ⟨fun i M' _ => step_lst xs i M', size_lst xs M⟩
theorem walks_tup (xs : List PyData) (M : Sto) : Walks (.tup (.d (.tuple xs))) M (xs.map Vl.d) := ⟨fun i M' _ => step_tup xs i M', size_tup xs M⟩
theorem walks_rng (lo : Int) (n : Nat) (M : Sto) : Walks (.rng lo n) M ((List.range n).map fun k => Vl.d (.int (lo + (k : Nat)))) := ⟨fun i M' _ => step_rng lo n i M', size_rng lo n M⟩
def enuW (xs : List PyData) : List Vl := (xs.zipIdx).map fun p => Vl.d (.tuple [.int (p.2 : Nat), p.1])
def zipW (xs ys : List PyData) : List Vl := (xs.zip ys).map fun p => Vl.d (.tuple [p.1, p.2])
theorem enuW_len (xs : List PyData) : (enuW xs).length = xs.length := by simp [enuW]
theorem zipW_len {xs ys : List PyData} (h : xs.length ≤ ys.length) : (zipW xs ys).length = xs.length := by simp [zipW, h]
theorem enuW_at (xs : List PyData) (i : Nat) : (enuW xs)[i]? = xs[i]?.map fun y => Vl.d (.tuple [.int (i : Nat), y]) := by
  simp only [enuW, List.getElem?_map, List.getElem?_zipIdx, Option.map_map]
  cases xs[i]? <;> simp
theorem zipW_at (xs ys : List PyData) (i : Nat) : (zipW xs ys)[i]? = pairAt xs ys i := by
  simp only [zipW, List.getElem?_map, pairAt]
  cases e : (xs.zip ys)[i]? with
  | some p =>
    obtain ⟨e1, e2⟩ := List.getElem?_zip_eq_some.mp e
    rw [e1, e2]
    rfl
  | none =>
    rw [List.getElem?_eq_none_iff, List.length_zip] at e
    by_cases h : xs.length ≤ i
    · rw [List.getElem?_eq_none h]
      rfl
    · rw [List.getElem?_eq_none (l := ys) (by omega)]
      cases xs[i]? <;> rfl
theorem walks_enuT (xs : List PyData) (M : Sto) : Walks (.enu true (.d (.tuple xs))) M (enuW xs) := by
  refine ⟨fun i M' _ => ?_, by simp [ISrc.size, sqD, tpD, peek, enuW_len]⟩
  rw [enuW_at]
  rfl
theorem walks_enuL (xs : List PyData) (M : Sto) : Walks (.enu false (.d (.list xs))) M (enuW xs) := by
  refine ⟨fun i M' _ => ?_, by simp [ISrc.size, sqD, lsD, peek, enuW_len]⟩
  rw [enuW_at]
  rfl
theorem walks_zip {t1 t2 : Bool} {x y : PyData} {xs ys : List PyData} (hx : ∀ M', sqD t1 M' (.d x) = some xs) (hy : ∀ M', sqD t2 M' (.d y) = some ys) (h : xs.length ≤ ys.length) (M : Sto) : Walks (.zip t1 t2 (.d x) (.d y)) M (zipW xs ys) := by
  refine ⟨fun i M' _ => ?_, by simp [ISrc.size, hx, zipW_len h]⟩
  rw [zipW_at]
  simp only [ISrc.step, hx, hy]
theorem walks_zipS {t1 t2 : Bool} {x y : PyData} {xs ys : List PyData} (hx : ∀ M', sqD t1 M' (.d x) = some xs) (hy : ∀ M', sqD t2 M' (.d y) = some ys) (h : xs.length = ys.length) (M : Sto) : Walks (.zipS t1 t2 (.d x) (.d y)) M (zipW xs ys) := by
  have hl := zipW_len (xs := xs) (ys := ys) (by omega)
  refine ⟨fun i M' hi => ?_, by simp [ISrc.size, hx, hl]⟩
  rw [zipW_at]
  rw [hl] at hi
  simp only [ISrc.step, hx, hy]
  rw [if_pos ⟨h, hi⟩]
theorem forE_inv {t : TgV} {b : EvS} {src : ISrc} {xs : List Vl} (hs : ∀ i M', i ≤ xs.length → src.step i M' = some xs[i]?) (P : Nat → Rho → Sto → Prop)
    (h : ∀ i x ρ M, xs[i]? = some x → P i ρ M → ∃ ρ1, t x ρ M = some ρ1 ∧ ∃ ρ2 M2, (b ρ1 M = .nx ρ2 M2 ∨ b ρ1 M = .ct ρ2 M2) ∧ P (i + 1) ρ2 M2) :
    ∀ k i ρ M, i ≤ xs.length → xs.length - i < k → P i ρ M → ∃ ρ' M', forE t b src k i ρ M = .nx ρ' M' ∧ P xs.length ρ' M' := by
  intro k
  induction k with
  | zero => intro i ρ M _ hk; omega
  | succ k ih =>
    intro i ρ M hi hk hP
    simp only [forE, hs i M hi]
    cases e : xs[i]? with
    | none =>
      have : xs.length ≤ i := List.getElem?_eq_none_iff.mp e
      have : i = xs.length := by omega
      subst this
      exact ⟨ρ, M, rfl, hP⟩
    | some x =>
      have hlt := (List.getElem?_eq_some_iff.mp e).1
      obtain ⟨ρ1, h1, ρ2, M2, h2, h3⟩ := h i x ρ M e hP
      obtain ⟨ρ', M', h4, h5⟩ := ih (i + 1) ρ2 M2 hlt (by omega) h3
      refine ⟨ρ', M', ?_, h5⟩
      simp only [h1]
      rcases h2 with h2 | h2 <;> simp only [h2] <;> exact h4
theorem for_inv {gi : Ev0S} {t : TgV} {b : EvS} {ρ : Rho} {M : Sto} {src : ISrc} {xs : List Vl} (hgi : gi ρ M = .ok src M) (w : Walks src M xs) (P : Nat → Rho → Sto → Prop) (h0 : P 0 ρ M)
    (h : ∀ i x ρ M, xs[i]? = some x → P i ρ M → ∃ ρ1, t x ρ M = some ρ1 ∧ ∃ ρ2 M2, (b ρ1 M = .nx ρ2 M2 ∨ b ρ1 M = .ct ρ2 M2) ∧ P (i + 1) ρ2 M2) :
    ∃ ρ' M', gsFor gi t b ρ M = .nx ρ' M' ∧ P xs.length ρ' M' := by
  simp only [gsFor, hgi, bindS, w.size]
  exact forE_inv w.step P h _ 0 ρ M (Nat.zero_le _) (by omega) h0
/-- a comprehension, step by step: S the store under it -/
theorem lcE_inv {t : TgV} {c : Ev0 Bool} {e : Ev0 Vl} {ρ0 : Rho} {n : Nat} {src : ISrc} {xs : List Vl} (hs : ∀ i M', i ≤ xs.length → src.step i M' = some xs[i]?) (P : Nat → Sto → List PyData → Prop)
    (hl : ∀ i S acc, P i S acc → S.length = n ∧ acc.length < sizeLine)
    (h : ∀ i x S acc, xs[i]? = some x → P i S acc → ∃ ρ1, t x ρ0 (S ++ [.lst acc]) = some ρ1 ∧ ((c ρ1 (S ++ [.lst acc]) = .ok false (S ++ [.lst acc]) ∧ P (i + 1) S acc) ∨
      (c ρ1 (S ++ [.lst acc]) = .ok true (S ++ [.lst acc]) ∧ ∃ d S', S'.length = n ∧ e ρ1 (S ++ [.lst acc]) = .ok (.d d) (S' ++ [.lst acc]) ∧ P (i + 1) S' (acc ++ [d])))) :
    ∀ k i S acc, i ≤ xs.length → xs.length - i < k → P i S acc → ∃ S' ys, lcE t c e ρ0 n src k i (S ++ [.lst acc]) = .ok () (S' ++ [.lst ys]) ∧ P xs.length S' ys := by
  intro k
  induction k with
  | zero => intro i S acc _ hk; omega
  | succ k ih =>
    intro i S acc hi hk hP
    simp only [lcE, hs i (S ++ [.lst acc]) hi]
    cases e1 : xs[i]? with
    | none =>
      have : xs.length ≤ i := List.getElem?_eq_none_iff.mp e1
      have : i = xs.length := by omega
      subst this
      exact ⟨S, acc, rfl, hP⟩
    | some x =>
      have hlt := (List.getElem?_eq_some_iff.mp e1).1
      obtain ⟨ρ1, h1, h2⟩ := h i x S acc e1 hP
      rcases h2 with ⟨h2, h3⟩ | ⟨h2, d, S', hS', h3, h4⟩
      · obtain ⟨S2, ys, h5, h6⟩ := ih (i + 1) S acc hlt (by omega) h3
        refine ⟨S2, ys, ?_, h6⟩
        simp only [h1, h2, noX, Out.bind]
        exact h5
      · obtain ⟨S2, ys, h5, h6⟩ := ih (i + 1) S' (acc ++ [d]) hlt (by omega) h4
        refine ⟨S2, ys, ?_, h6⟩
        have ha := (hl i S acc hP).2
        have hadd : addTo n d (S' ++ [.lst acc]) = some (S' ++ [.lst (acc ++ [d])]) := by
          rw [← hS']
          exact addTo_new S' acc d ha
        simp only [h1, h2, noX, Out.bind, h3, toD, hadd]
        exact h5
theorem lc_inv {own : List Nat} {gi : Ev0S} {t : TgV} {c : Ev0 Bool} {e : Ev0 Vl} {ρ : Rho} {M : Sto} {src : ISrc} {xs : List Vl} (hgi : gi ρ M = .ok src M) (w : Walks src M xs) (P : Nat → Sto → List PyData → Prop) (h0 : P 0 M [])
    (hl : ∀ i S acc, P i S acc → S.length = M.length ∧ acc.length < sizeLine)
    (h : ∀ i x S acc, xs[i]? = some x → P i S acc → ∃ ρ1, t x (wipeR ρ own) (S ++ [.lst acc]) = some ρ1 ∧ ((c ρ1 (S ++ [.lst acc]) = .ok false (S ++ [.lst acc]) ∧ P (i + 1) S acc) ∨
      (c ρ1 (S ++ [.lst acc]) = .ok true (S ++ [.lst acc]) ∧ ∃ d S', S'.length = M.length ∧ e ρ1 (S ++ [.lst acc]) = .ok (.d d) (S' ++ [.lst acc]) ∧ P (i + 1) S' (acc ++ [d])))) :
    ∃ S' ys, gLc false own gi t c e ρ M = .ok (.d (.list ys)) S' ∧ P xs.length S' ys := by
  obtain ⟨S', ys, h1, h2⟩ := lcE_inv w.step P hl h (src.size M + 1) 0 M [] (Nat.zero_le _) (by rw [w.size]; omega) h0
  refine ⟨S', ys, ?_, h2⟩
  have hS := (hl _ _ _ h2).1
  simp only [gLc, hgi, Out.bind, h1, lcFin]
  rw [← hS, cell_new]
  simp only [Bool.false_eq_true, if_false, take_new]
/-- a comprehension that touches no cell -/
theorem lc_pure {own : List Nat} {gi : Ev0S} {t : TgV} {c : Ev0 Bool} {e : Ev0 Vl} {ρ : Rho} {M : Sto} {src : ISrc} {xs : List Vl} (hgi : gi ρ M = .ok src M) (w : Walks src M xs) (hz : xs.length < sizeLine) (keep : Vl → Bool) (f : Vl → PyData)
    (h : ∀ x ∈ xs, ∀ M', ∃ ρ1, t x (wipeR ρ own) M' = some ρ1 ∧ c ρ1 M' = .ok (keep x) M' ∧ (keep x = true → e ρ1 M' = .ok (.d (f x)) M')) :
    gLc false own gi t c e ρ M = .ok (.d (.list ((xs.filter keep).map f))) M := by
  obtain ⟨S', ys, h1, h2, h3⟩ := lc_inv (own := own) (t := t) (c := c) (e := e) hgi w (fun i S acc => i ≤ xs.length ∧ S = M ∧ acc = ((xs.take i).filter keep).map f) ⟨Nat.zero_le _, rfl, by simp⟩
    (fun i S acc hP => by
      obtain ⟨h1, rfl, rfl⟩ := hP
      refine ⟨rfl, ?_⟩
      rw [List.length_map]
      refine Nat.lt_of_le_of_lt (List.length_filter_le _ _) (Nat.lt_of_le_of_lt (by rw [List.length_take]; omega) hz))
    (fun i x S acc hx hP => by
      obtain ⟨h1, rfl, rfl⟩ := hP
      obtain ⟨ρ1, g1, g2, g3⟩ := h x (List.mem_of_getElem? hx) (S ++ [.lst (((xs.take i).filter keep).map f)])
      have hlt := (List.getElem?_eq_some_iff.mp hx).1
      have etk : xs.take (i + 1) = xs.take i ++ [x] := by rw [List.take_succ, hx]; rfl
      refine ⟨ρ1, g1, ?_⟩
      cases hk : keep x with
      | false =>
        rw [hk] at g2
        exact .inl ⟨g2, hlt, rfl, by rw [etk, List.filter_append, List.filter_cons, hk]; simp⟩
      | true =>
        rw [hk] at g2
        exact .inr ⟨g2, f x, S, rfl, g3 hk, hlt, rfl, by rw [etk, List.filter_append, List.filter_cons, hk]; simp⟩)
  obtain ⟨rfl, rfl⟩ := h3
  rw [h1, List.take_length]
theorem wh_inv {c : Ev0 Bool} {b : EvS} (P R : Rho → Sto → Prop) (μ : Rho → Nat)
    (h : ∀ ρ M, P ρ M → ∃ k M1, c ρ M = .ok k M1 ∧ (k = true → ∃ ρ2 M2, (b ρ M1 = .nx ρ2 M2 ∨ b ρ M1 = .ct ρ2 M2) ∧ P ρ2 M2 ∧ μ ρ2 < μ ρ) ∧ (k = false → R ρ M1)) :
    ∀ k ρ M, μ ρ < k → P ρ M → ∃ ρ' M', whE c b k ρ M = .nx ρ' M' ∧ R ρ' M' := by
  intro k
  induction k with
  | zero => intro ρ M h; omega
  | succ k ih =>
    intro ρ M hk hP
    obtain ⟨t, M1, h1, h2, h3⟩ := h ρ M hP
    simp only [whE, h1, bindS]
    cases t with
    | false => exact ⟨ρ, M1, rfl, h3 rfl⟩
    | true =>
      obtain ⟨ρ2, M2, g1, g2, g3⟩ := h2 rfl
      obtain ⟨ρ', M', h4, h5⟩ := ih ρ2 M2 (by omega) g2
      refine ⟨ρ', M', ?_, h5⟩
      rcases g1 with g1 | g1 <;> simp only [g1, if_true] <;> exact h4
theorem runS {tb : List FnS} (n j : Nat) (F : FnS) (h : tb[j]? = some F) : Ev.run tb (n + 1) j = runF F (some (Ev.run tb n)) := by
  simp only [Ev.run, h]
theorem wh_of {c : Ev0 Bool} {b : EvS} {ρ : Rho} {M : Sto} {o : OutS} (hW : gsWh c b ρ M = o) (P R : Rho → Sto → Prop) (μ : Rho → Nat) (hP : P ρ M) (hμ : μ ρ < whFuel)
    (h : ∀ ρ M, P ρ M → ∃ k M1, c ρ M = .ok k M1 ∧ (k = true → ∃ ρ2 M2, (b ρ M1 = .nx ρ2 M2 ∨ b ρ M1 = .ct ρ2 M2) ∧ P ρ2 M2 ∧ μ ρ2 < μ ρ) ∧ (k = false → R ρ M1)) : ∃ ρ' M', o = .nx ρ' M' ∧ R ρ' M' := by
  obtain ⟨ρ', M', h1, h2⟩ := wh_inv P R μ h whFuel ρ M hμ hP
  exact ⟨ρ', M', hW.symm.trans h1, h2⟩
theorem for_of {gi : Ev0S} {t : TgV} {b : EvS} {ρ : Rho} {M : Sto} {o : OutS} {src : ISrc} {xs : List Vl} (hW : gsFor gi t b ρ M = o) (hgi : gi ρ M = .ok src M) (w : Walks src M xs) (P : Nat → Rho → Sto → Prop) (h0 : P 0 ρ M)
    (h : ∀ i x ρ M, xs[i]? = some x → P i ρ M → ∃ ρ1, t x ρ M = some ρ1 ∧ ∃ ρ2 M2, (b ρ1 M = .nx ρ2 M2 ∨ b ρ1 M = .ct ρ2 M2) ∧ P (i + 1) ρ2 M2) :
    ∃ ρ' M', o = .nx ρ' M' ∧ P xs.length ρ' M' := by
  obtain ⟨ρ', M', h1, h2⟩ := for_inv hgi w P h0 h
  exact ⟨ρ', M', hW.symm.trans h1, h2⟩
theorem lc_of {own : List Nat} {gi : Ev0S} {t : TgV} {c : Ev0 Bool} {e : Ev0 Vl} {ρ : Rho} {M : Sto} {o : Out Vl} {src : ISrc} {xs : List Vl} (hW : gLc false own gi t c e ρ M = o) (hgi : gi ρ M = .ok src M) (w : Walks src M xs) (P : Nat → Sto → List PyData → Prop) (h0 : P 0 M [])
    (hl : ∀ i S acc, P i S acc → S.length = M.length ∧ acc.length < sizeLine)
    (h : ∀ i x S acc, xs[i]? = some x → P i S acc → ∃ ρ1, t x (wipeR ρ own) (S ++ [.lst acc]) = some ρ1 ∧ ((c ρ1 (S ++ [.lst acc]) = .ok false (S ++ [.lst acc]) ∧ P (i + 1) S acc) ∨
      (c ρ1 (S ++ [.lst acc]) = .ok true (S ++ [.lst acc]) ∧ ∃ d S', S'.length = M.length ∧ e ρ1 (S ++ [.lst acc]) = .ok (.d d) (S' ++ [.lst acc]) ∧ P (i + 1) S' (acc ++ [d])))) :
    ∃ S' ys, o = .ok (.d (.list ys)) S' ∧ P xs.length S' ys := by
  obtain ⟨S', ys, h1, h2⟩ := lc_inv hgi w P h0 hl h
  exact ⟨S', ys, hW.symm.trans h1, h2⟩
theorem lcp_of {own : List Nat} {gi : Ev0S} {t : TgV} {c : Ev0 Bool} {e : Ev0 Vl} {ρ : Rho} {M : Sto} {o : Out Vl} {src : ISrc} {xs : List Vl} (hW : gLc false own gi t c e ρ M = o) (hgi : gi ρ M = .ok src M) (w : Walks src M xs) (hz : xs.length < sizeLine) (keep : Vl → Bool) (f : Vl → PyData)
    (h : ∀ x ∈ xs, ∀ M', ∃ ρ1, t x (wipeR ρ own) M' = some ρ1 ∧ c ρ1 M' = .ok (keep x) M' ∧ (keep x = true → e ρ1 M' = .ok (.d (f x)) M')) :
    o = .ok (.d (.list ((xs.filter keep).map f))) M := hW.symm.trans (lc_pure hgi w hz keep f h)
theorem ixL (xs : List PyData) (i : Int) : ixD (.list xs) (.int i) = L2.atI xs i := rfl
theorem ixT (xs : List PyData) (i : Int) : ixD (.tuple xs) (.int i) = L2.atI xs i := rfl
/-! #### sizes of ints -/
theorem log2_lt {n k : Nat} (h : n < 2 ^ k) (hk : 0 < k) : n.log2 < k := by
  by_cases h0 : n = 0
  · subst h0
    rw [show Nat.log2 0 = 0 by decide]
    exact hk
  · exact (Nat.log2_lt h0).mpr h
theorem mul_ok {i j : Int} {k m : Nat} (h1 : i.natAbs < 2 ^ k) (h2 : j.natAbs < 2 ^ m) (h : k + m < 999998) : mulD (.int i) (.int j) = some (.int (i * j)) := by
  have a := log2_lt (Nat.lt_of_lt_of_le h1 (Nat.pow_le_pow_right (by decide) (Nat.le_succ k))) (Nat.succ_pos _)
  have b := log2_lt (Nat.lt_of_lt_of_le h2 (Nat.pow_le_pow_right (by decide) (Nat.le_succ m))) (Nat.succ_pos _)
  simp only [mulD, if_pos (show i.natAbs.log2 + j.natAbs.log2 < 1000000 by omega)]
theorem div_ok {i j : Int} {m : Nat} (h2 : j.natAbs < 2 ^ m) (h0 : j ≠ 0) (h : m < 8999) : divD (.int i) (.int j) = some (.int (i.fdiv j)) := by
  have b := log2_lt (Nat.lt_of_lt_of_le h2 (Nat.pow_le_pow_right (by decide) (Nat.le_succ m))) (Nat.succ_pos _)
  simp only [divD, if_pos (show j ≠ 0 ∧ j.natAbs.log2 < 9000 from ⟨h0, by omega⟩)]
theorem mod_ok {i j : Int} (h0 : j ≠ 0) : modD (.int i) (.int j) = some (.int (i.fmod j)) := by
  simp only [modD, if_pos h0]
theorem pow_ok {i : Int} {j : Int} (h0 : 0 ≤ j) (h1 : j ≤ 1000000) (h2 : i.natAbs < 2 ^ 64) : powD (.int i) (.int j) = some (.int (i ^ j.toNat)) := by
  simp only [powD, if_pos (show 0 ≤ j ∧ j ≤ 1000000 ∧ i.natAbs < 2 ^ 64 from ⟨h0, h1, h2⟩)]
end Ev

namespace Ev
open PySem PySem.Spec

/-! #### a def, statement by statement -/
section
variable {fn : Fn} {r : List CS} {ρ : Rho} {M M1 M2 : Sto} {o : OutS} {e : CE} {v : Vl} {p : Pos}
theorem run_of {F : FnS} {xs : List Vl} (hl : xs.length = F.ps.length) (h : evSs fn F.body (startR F.N xs) M = o) : runF F fn xs M = finR F.keep M.length o := by
  simp only [runF, if_pos hl, h]
theorem ev_nil : evSs fn [] ρ M = .nx ρ M := rfl
theorem ev_set {i : Nat} {x : Str} {px : Pos} (h : CE.ev fn e ρ M = .ok v M1) (hr : evSs fn r (ρ.set i (some v)) M1 = o) : evSs fn (.set i x px e p :: r) ρ M = o := by
  show (bindS ρ (CE.ev fn e ρ M) fun x M1 => .nx (ρ.set i (some x)) M1).then (evSs fn r) = o
  rw [h]
  exact hr
theorem ev_exp (h : CE.ev fn e ρ M = .ok v M1) (hr : evSs fn r ρ M1 = o) : evSs fn (.exp e p :: r) ρ M = o := by
  show (bindS ρ (CE.ev fn e ρ M) fun _ M1 => .nx ρ M1).then (evSs fn r) = o
  rw [h]
  exact hr
theorem ev_tgt {t : CT} {ρ' : Rho} (h : CE.ev fn e ρ M = .ok v M1) (ht : t.ev v ρ M1 = some ρ') (hr : evSs fn r ρ' M1 = o) : evSs fn (.tgt t e p :: r) ρ M = o := by
  show (bindS ρ (CE.ev fn e ρ M) fun x M1 => match t.ev x ρ M1 with | some ρ' => .nx ρ' M1 | none => .bad).then (evSs fn r) = o
  rw [h]
  simp only [bindS, ht]
  exact hr
theorem ev_ret (h : CE.ev fn e ρ M = .ok v M1) : evSs fn (.ret e p :: r) ρ M = .rt v M1 := by
  show (bindS ρ (CE.ev fn e ρ M) fun x M1 => .rt x M1).then (evSs fn r) = _
  rw [h]
  rfl
theorem ev_if {a b : List CS} {k : Bool} (h : CE.evT fn e ρ M = .ok k M1) (hr : ((if k then evSs fn a ρ M1 else evSs fn b ρ M1).then (evSs fn r)) = o) : evSs fn (.ife e a b p :: r) ρ M = o := by
  show (bindS ρ (CE.evT fn e ρ M) fun k M1 => if k then evSs fn a ρ M1 else evSs fn b ρ M1).then (evSs fn r) = o
  rw [h]
  exact hr
/-- a test that fails, with nothing else to do -/
theorem ev_skip {a : List CS} (h : CE.evT fn e ρ M = .ok false M1) (hr : evSs fn r ρ M1 = o) : evSs fn (.ife e a [] p :: r) ρ M = o := ev_if h hr
theorem ev_put {oe ie : CE} {ps : Pos} {x y z : Vl} {M3 M4 : Sto} (h : CE.ev fn e ρ M = .ok z M1) (h2 : CE.ev fn oe ρ M1 = .ok x M2) (h3 : CE.ev fn ie ρ M2 = .ok y M3) (h4 : putV x y z M3 = some M4) (hr : evSs fn r ρ M4 = o) : evSs fn (.put oe ie e ps p :: r) ρ M = o := by
  show (bindS ρ (CE.ev fn e ρ M) fun z M1 => bindS ρ (CE.ev fn oe ρ M1) fun x M2 => bindS ρ (CE.ev fn ie ρ M2) fun y M3 => match putV x y z M3 with | some M4 => .nx ρ M4 | none => .bad).then (evSs fn r) = o
  rw [h]
  simp only [bindS, h2, h3, h4]
  exact hr
theorem ev_for {t : CT} {it : CI} {b : List CS} {ρ' : Rho} (h : gsFor (it.ev fn) t.ev (evSs fn b) ρ M = .nx ρ' M1) (hr : evSs fn r ρ' M1 = o) : evSs fn (.forr t it b p :: r) ρ M = o := by
  show (gsFor (it.ev fn) t.ev (evSs fn b) ρ M).then (evSs fn r) = o
  rw [h]
  exact hr
end
end Ev

namespace Ev
open PySem PySem.Spec
/-- an outcome has a property (kept folded) -/
def Sat {α : Type} (Q : α → Prop) (o : α) : Prop := Q o
theorem Sat.eq {α : Type} {Q : α → Prop} {o o' : α} (e : o = o') (h : Sat Q o') : Sat Q o := e ▸ h
section
variable {fn : Fn} {r : List CS} {ρ : Rho} {M M1 M2 : Sto} {Q : OutS → Prop} {e : CE} {v : Vl} {p : Pos}
theorem q_run {F : FnS} {xs : List Vl} {Q : Out Vl → Prop} (hl : xs.length = F.ps.length) (h : Sat (fun o => Q (finR F.keep M.length o)) (evSs fn F.body (startR F.N xs) M)) : Sat Q (runF F fn xs M) := by
  rw [run_of hl rfl]
  exact h
theorem q_nil (h : Q (.nx ρ M)) : Sat Q (evSs fn [] ρ M) := h
theorem q_set {i : Nat} {x : Str} {px : Pos} (h : CE.ev fn e ρ M = .ok v M1) (hr : Sat Q (evSs fn r (ρ.set i (some v)) M1)) : Sat Q (evSs fn (.set i x px e p :: r) ρ M) := Sat.eq (ev_set h rfl) hr
theorem q_exp (h : CE.ev fn e ρ M = .ok v M1) (hr : Sat Q (evSs fn r ρ M1)) : Sat Q (evSs fn (.exp e p :: r) ρ M) := Sat.eq (ev_exp h rfl) hr
theorem q_tgt {t : CT} {ρ' : Rho} (h : CE.ev fn e ρ M = .ok v M1) (ht : t.ev v ρ M1 = some ρ') (hr : Sat Q (evSs fn r ρ' M1)) : Sat Q (evSs fn (.tgt t e p :: r) ρ M) := Sat.eq (ev_tgt h ht rfl) hr
theorem q_ret (h : CE.ev fn e ρ M = .ok v M1) (hq : Q (.rt v M1)) : Sat Q (evSs fn (.ret e p :: r) ρ M) := Sat.eq (ev_ret h) hq
theorem q_skip {a : List CS} (h : CE.evT fn e ρ M = .ok false M1) (hr : Sat Q (evSs fn r ρ M1)) : Sat Q (evSs fn (.ife e a [] p :: r) ρ M) := Sat.eq (ev_skip h rfl) hr
theorem q_if {a b : List CS} {k : Bool} (h : CE.evT fn e ρ M = .ok k M1) (hr : Sat Q ((if k then evSs fn a ρ M1 else evSs fn b ρ M1).then (evSs fn r))) : Sat Q (evSs fn (.ife e a b p :: r) ρ M) := Sat.eq (ev_if h rfl) hr
theorem q_put {oe ie : CE} {ps : Pos} {x y z : Vl} {M3 M4 : Sto} (h : CE.ev fn e ρ M = .ok z M1) (h2 : CE.ev fn oe ρ M1 = .ok x M2) (h3 : CE.ev fn ie ρ M2 = .ok y M3) (h4 : putV x y z M3 = some M4) (hr : Sat Q (evSs fn r ρ M4)) : Sat Q (evSs fn (.put oe ie e ps p :: r) ρ M) := Sat.eq (ev_put h h2 h3 h4 rfl) hr
theorem q_par {i j : Nat} {x y : Str} {px py pt p2 : Pos} {kt k2 : Nat} {a b : CE} {u w : Vl} (h1 : CE.ev fn a ρ M = .ok u M1) (h2 : CE.ev fn b ρ M1 = .ok w M2) (hr : Sat Q (evSs fn r ((ρ.set i (some u)).set j (some w)) M2)) : Sat Q (evSs fn (.par i j x y px py kt pt a b k2 p2 p :: r) ρ M) := by
  refine Sat.eq (o' := evSs fn r ((ρ.set i (some u)).set j (some w)) M2) ?_ hr
  show (gsPar i j (gCons (a.ev fn) (gCons (b.ev fn) gNil)) ρ M).then (evSs fn r) = _
  simp only [gsPar, gCons, gNil, h1, h2, Out.bind, bindS, OutS.then]
theorem q_par3 {i j l : Nat} {x y z : Str} {px py pz pt p2 : Pos} {kt k2 : Nat} {a b c : CE} {u w s : Vl} {M3 : Sto} (h1 : CE.ev fn a ρ M = .ok u M1) (h2 : CE.ev fn b ρ M1 = .ok w M2) (h3 : CE.ev fn c ρ M2 = .ok s M3) (hr : Sat Q (evSs fn r (((ρ.set i (some u)).set j (some w)).set l (some s)) M3)) : Sat Q (evSs fn (.par3 i j l x y z px py pz kt pt a b c k2 p2 p :: r) ρ M) := by
  refine Sat.eq (o' := evSs fn r (((ρ.set i (some u)).set j (some w)).set l (some s)) M3) ?_ hr
  show (gsPar3 i j l (gCons (a.ev fn) (gCons (b.ev fn) (gCons (c.ev fn) gNil))) ρ M).then (evSs fn r) = _
  simp only [gsPar3, gCons, gNil, h1, h2, h3, Out.bind, bindS, OutS.then]
/-- one turn of a loop: on to the next -/
abbrev Turn (P : Nat → Rho → Sto → Prop) (i : Nat) : OutS → Prop := fun o => ∃ ρ2 M2, (o = .nx ρ2 M2 ∨ o = .ct ρ2 M2) ∧ P (i + 1) ρ2 M2
theorem q_for {t : CT} {it : CI} {b : List CS} {src : ISrc} {xs : List Vl} (hgi : it.ev fn ρ M = .ok src M1) (w : Walks src M1 xs) (P : Nat → Rho → Sto → Prop) (h0 : P 0 ρ M1)
    (h : ∀ i x ρ M, xs[i]? = some x → P i ρ M → ∃ ρ1, t.ev x ρ M = some ρ1 ∧ Sat (Turn P i) (evSs fn b ρ1 M))
    (hr : ∀ ρ' M', P xs.length ρ' M' → Sat Q (evSs fn r ρ' M')) : Sat Q (evSs fn (.forr t it b p :: r) ρ M) := by
  obtain ⟨ρ', M', h1, h2⟩ := forE_inv (t := t.ev) (b := evSs fn b) w.step P h (src.size M1 + 1) 0 ρ M1 (Nat.zero_le _) (by rw [w.size]; omega) h0
  refine Sat.eq (o' := evSs fn r ρ' M') ?_ (hr _ _ h2)
  show (gsFor (it.ev fn) t.ev (evSs fn b) ρ M).then (evSs fn r) = _
  simp only [gsFor, hgi, bindS, h1, OutS.then]
theorem t_nx {P : Nat → Rho → Sto → Prop} {i : Nat} (h : P (i + 1) ρ M) : Sat (Turn P i) (evSs fn [] ρ M) := ⟨ρ, M, .inl rfl, h⟩
/-- a comprehension that changes no cell: its own list lies behind -/
theorem e_lc {own : List (Str × Nat)} {tg : CT} {it : CI} {c : CO} {elt : CE} {sc : Scope} {src : ISrc} {xs : List Vl} (hgi : it.ev fn ρ M = .ok src M) (w : Walks src M xs) (hz : xs.length < sizeLine) (keep : Vl → Bool) (f : Vl → PyData)
    (h : ∀ x ∈ xs, ∀ acc, ∃ ρ1, tg.ev x (wipeR ρ (own.map (·.2))) (M ++ [.lst acc]) = some ρ1 ∧ c.evC fn ρ1 (M ++ [.lst acc]) = .ok (keep x) (M ++ [.lst acc]) ∧ (keep x = true → elt.ev fn ρ1 (M ++ [.lst acc]) = .ok (.d (f x)) (M ++ [.lst acc]))) :
    CE.ev fn (.lc false elt tg it c sc own p) ρ M = .ok (.d (.list ((xs.filter keep).map f))) M := by
  show gLc false (own.map (·.2)) (it.ev fn) tg.ev (c.evC fn) (elt.ev fn) ρ M = _
  obtain ⟨S', ys, h1, h2, h3⟩ := lc_inv (own := own.map (·.2)) (t := tg.ev) (c := c.evC fn) (e := elt.ev fn) hgi w (fun i S acc => i ≤ xs.length ∧ S = M ∧ acc = ((xs.take i).filter keep).map f) ⟨Nat.zero_le _, rfl, by simp⟩
    (fun i S acc hP => by
      obtain ⟨h1, rfl, rfl⟩ := hP
      refine ⟨rfl, ?_⟩
      rw [List.length_map]
      refine Nat.lt_of_le_of_lt (List.length_filter_le _ _) (Nat.lt_of_le_of_lt (by rw [List.length_take]; omega) hz))
    (fun i x S acc hx hP => by
      obtain ⟨h1, rfl, rfl⟩ := hP
      obtain ⟨ρ1, g1, g2, g3⟩ := h x (List.mem_of_getElem? hx) (((xs.take i).filter keep).map f)
      have hlt := (List.getElem?_eq_some_iff.mp hx).1
      have etk : xs.take (i + 1) = xs.take i ++ [x] := by rw [List.take_succ, hx]; rfl
      refine ⟨ρ1, g1, ?_⟩
      cases hk : keep x with
      | false =>
        rw [hk] at g2
        exact .inl ⟨g2, hlt, rfl, by rw [etk, List.filter_append, List.filter_cons, hk]; simp⟩
      | true =>
        rw [hk] at g2
        exact .inr ⟨g2, f x, S, rfl, g3 hk, hlt, rfl, by rw [etk, List.filter_append, List.filter_cons, hk]; simp⟩)
  obtain ⟨rfl, rfl⟩ := h3
  rw [h1, List.take_length]
/-- the same without a condition -/
theorem e_lcA {own : List (Str × Nat)} {tg : CT} {it : CI} {elt : CE} {sc : Scope} {src : ISrc} {xs : List Vl} (hgi : it.ev fn ρ M = .ok src M) (w : Walks src M xs) (hz : xs.length < sizeLine) (f : Vl → PyData)
    (h : ∀ x ∈ xs, ∀ acc, ∃ ρ1, tg.ev x (wipeR ρ (own.map (·.2))) (M ++ [.lst acc]) = some ρ1 ∧ elt.ev fn ρ1 (M ++ [.lst acc]) = .ok (.d (f x)) (M ++ [.lst acc])) :
    CE.ev fn (.lc false elt tg it .none sc own p) ρ M = .ok (.d (.list (xs.map f))) M := by
  have := e_lc (fn := fn) (ρ := ρ) (own := own) (tg := tg) (it := it) (c := .none) (elt := elt) (sc := sc) (p := p) hgi w hz (fun _ => true) f (fun x hx acc => by
    obtain ⟨ρ1, h1, h2⟩ := h x hx acc
    exact ⟨ρ1, h1, rfl, fun _ => h2⟩)
  rw [this, List.filter_eq_self.mpr (fun _ _ => rfl)]
theorem q_pars {ts : Nms} {es : CEs} {kt k2 : Nat} {pt p2 : Pos} {xs : List Vl} {ρ' : Rho} (h : CEs.ev fn es ρ M = .ok xs M1) (hz : xs.length ≤ sizeLine) (h2 : setAll (ts.map (·.1)) xs ρ = some ρ') (hr : Sat Q (evSs fn r ρ' M1)) : Sat Q (evSs fn (.pars ts kt pt es k2 p2 p :: r) ρ M) := by
  refine Sat.eq (o' := evSs fn r ρ' M1) ?_ hr
  show (gsPars (ts.map (·.1)) (es.ev fn) ρ M).then (evSs fn r) = _
  simp only [gsPars, h, bindS, if_pos hz, h2, OutS.then]
theorem e_blt1 {f : Blt} {pf : Pos} {w : Vl} (h : CE.ev fn e ρ M = .ok v M1) (h2 : f.ev [v] M1 = .ok w M2) : CE.ev fn (.blt f e .nil pf p) ρ M = .ok w M2 := by
  show gCall f.ev (gCons (e.ev fn) gNil) ρ M = _
  simp only [gCall, gCons, gNil, h, Out.bind, h2]
theorem eT_blt1 {f : Blt} {pf : Pos} {k : Bool} (h : CE.ev fn e ρ M = .ok v M1) (h2 : f.ev [v] M1 = .ok (.d (.bool k)) M2) : CE.evT fn (.blt f e .nil pf p) ρ M = .ok k M2 := by
  show gTru (gCall f.ev (gCons (e.ev fn) gNil)) ρ M = _
  simp only [gTru, gCall, gCons, gNil, h, Out.bind, h2, truV, peek, truD, PyData.truthy]
theorem e_cmp {op : COp} {a b : CE} {x y w : Vl} {M3 : Sto} (h1 : CE.ev fn a ρ M = .ok x M1) (h2 : CE.ev fn b ρ M1 = .ok y M2) (h3 : op.ev x y M2 = .ok w M3) : CE.ev fn (.cmp op a b p) ρ M = .ok w M3 := by
  show gBin op.ev (a.ev fn) (b.ev fn) ρ M = _
  simp only [gBin, h1, h2, Out.bind, h3]
theorem eT_cmp {op : COp} {a b : CE} {x y : Vl} {k : Bool} {M3 : Sto} (h1 : CE.ev fn a ρ M = .ok x M1) (h2 : CE.ev fn b ρ M1 = .ok y M2) (h3 : op.ev x y M2 = .ok (.d (.bool k)) M3) : CE.evT fn (.cmp op a b p) ρ M = .ok k M3 := by
  show gB (gBin op.ev (a.ev fn) (b.ev fn)) ρ M = _
  simp only [gB, gBin, h1, h2, Out.bind, h3, asBool]
theorem e_bin {op : BOp} {a b : CE} {x y w : Vl} {M3 : Sto} (h1 : CE.ev fn a ρ M = .ok x M1) (h2 : CE.ev fn b ρ M1 = .ok y M2) (h3 : lift2 op.ev x y M2 = .ok w M3) : CE.ev fn (.bin op a b p) ρ M = .ok w M3 := by
  show gBin (lift2 op.ev) (a.ev fn) (b.ev fn) ρ M = _
  simp only [gBin, h1, h2, Out.bind, h3]
theorem e_ix {a b : CE} {x y w : Vl} {M3 : Sto} (h1 : CE.ev fn a ρ M = .ok x M1) (h2 : CE.ev fn b ρ M1 = .ok y M2) (h3 : ixV x y M2 = .ok w M3) : CE.ev fn (.ix a b p) ρ M = .ok w M3 := by
  show gBin ixV (a.ev fn) (b.ev fn) ρ M = _
  simp only [gBin, h1, h2, Out.bind, h3]
theorem e_call {t : Nat → Op1} {j : Nat} {x : Str} {a : CE} {es : CEs} {pf : Pos} {xs : List Vl} {w : Vl} (h : CEs.ev (some t) (.cons a es) ρ M = .ok xs M1) (h2 : t j xs M1 = .ok w M2) : CE.ev (some t) (.call j x a es pf p) ρ M = .ok w M2 := by
  show gCall (t j) (gCons (a.ev (some t)) (es.ev (some t))) ρ M = _
  have h : gCons (a.ev (some t)) (es.ev (some t)) ρ M = .ok xs M1 := h
  simp only [gCall, h, Out.bind, h2]
theorem e_call0 {t : Nat → Op1} {j : Nat} {x : Str} {pf : Pos} {w : Vl} (h2 : t j [] M = .ok w M2) : CE.ev (some t) (.call0 j x pf p) ρ M = .ok w M2 := h2
theorem es_nil : CEs.ev fn .nil ρ M = .ok [] M := rfl
theorem es_cons {a : CE} {es : CEs} {xs : List Vl} (h : CE.ev fn a ρ M = .ok v M1) (h2 : CEs.ev fn es ρ M1 = .ok xs M2) : CEs.ev fn (.cons a es) ρ M = .ok (v :: xs) M2 := by
  show gCons (a.ev fn) (es.ev fn) ρ M = _
  simp only [gCons, h, Out.bind, h2]
theorem e_tup {es : CEs} {k : Nat} {xs : List Vl} {ds : List PyData} (h : CEs.ev fn es ρ M = .ok xs M1) (h2 : toDs M1 xs = some (ds, M2)) (hz : ds.length ≤ sizeLine) : CE.ev fn (.tup es k p) ρ M = .ok (.d (.tuple ds)) M2 := by
  show gTup (es.ev fn) ρ M = _
  simp only [gTup, h, Out.bind, h2, if_pos hz]
theorem e_lst {es : CEs} {xs : List Vl} {ds : List PyData} (h : CEs.ev fn es ρ M = .ok xs M1) (h2 : toDs M1 xs = some (ds, M2)) (hz : ds.length ≤ sizeLine) : CE.ev fn (.lst false es p) ρ M = .ok (.d (.list ds)) M2 := by
  show gLst (es.ev fn) ρ M = _
  simp only [gLst, h, Out.bind, h2, if_pos hz]
theorem e_if {c a b : CE} {k : Bool} {w : Vl} (h : CE.evT fn c ρ M = .ok k M1) (h2 : CE.ev fn (if k then a else b) ρ M1 = .ok w M2) : CE.ev fn (.ife c a b p) ρ M = .ok w M2 := by
  show gIf (c.evT fn) (a.ev fn) (b.ev fn) ρ M = _
  simp only [gIf, h, Out.bind]
  cases k <;> exact h2
theorem eT_not {a : CE} {k : Bool} (h : CE.evT fn a ρ M = .ok k M1) : CE.evT fn (.not a p) ρ M = .ok (!k) M1 := by
  show gNotT (a.evT fn) ρ M = _
  simp only [gNotT, h, Out.bind]
theorem eT_call {t : Nat → Op1} {j : Nat} {x : Str} {a : CE} {es : CEs} {pf : Pos} {xs : List Vl} {k : Bool} (h : CEs.ev (some t) (.cons a es) ρ M = .ok xs M1) (h2 : t j xs M1 = .ok (.d (.bool k)) M2) : CE.evT (some t) (.call j x a es pf p) ρ M = .ok k M2 := by
  show gTru (gCall (t j) (gCons (a.ev (some t)) (es.ev (some t)))) ρ M = _
  have h : gCons (a.ev (some t)) (es.ev (some t)) ρ M = .ok xs M1 := h
  simp only [gTru, gCall, h, Out.bind, h2, truV, peek, truD, PyData.truthy]
theorem eT_orF {a b : CE} (h : CE.evT fn a ρ M = .ok false M1) (h2 : CE.evT fn b ρ M1 = .ok false M2) : CE.evT fn (.or a (.cons b .nil) p) ρ M = .ok false M2 := by
  show gOrT (a.evT fn) (b.evT fn) ρ M = _
  simp only [gOrT, h, Out.bind, h2]
  rfl
/-- the same over typed items -/
theorem e_lcT {α : Type} {own : List (Str × Nat)} {tg : CT} {it : CI} {c : CO} {elt : CE} {sc : Scope} {src : ISrc} {l : List α} {g : α → Vl} (hgi : it.ev fn ρ M = .ok src M1) (w : Walks src M1 (l.map g)) (hz : l.length < sizeLine) (keep : α → Bool) (f : α → PyData)
    (h : ∀ (i : Nat) (x : α), l[i]? = some x → ∀ acc, ∃ ρ1, tg.ev (g x) (wipeR ρ (own.map (·.2))) (M1 ++ [.lst acc]) = some ρ1 ∧ c.evC fn ρ1 (M1 ++ [.lst acc]) = .ok (keep x) (M1 ++ [.lst acc]) ∧ (keep x = true → elt.ev fn ρ1 (M1 ++ [.lst acc]) = .ok (.d (f x)) (M1 ++ [.lst acc]))) :
    CE.ev fn (.lc false elt tg it c sc own p) ρ M = .ok (.d (.list ((l.filter keep).map f))) M1 := by
  show gLc false (own.map (·.2)) (it.ev fn) tg.ev (c.evC fn) (elt.ev fn) ρ M = _
  have hs := lcE_inv (t := tg.ev) (c := c.evC fn) (e := elt.ev fn) (ρ0 := wipeR ρ (own.map (·.2))) (n := M1.length) w.step (fun i S acc => i ≤ l.length ∧ S = M1 ∧ acc = ((l.take i).filter keep).map f)
    (fun i S acc hP => by
      obtain ⟨h1, rfl, rfl⟩ := hP
      refine ⟨rfl, ?_⟩
      rw [List.length_map]
      refine Nat.lt_of_le_of_lt (List.length_filter_le _ _) (Nat.lt_of_le_of_lt (by rw [List.length_take]; omega) hz))
    (fun i x S acc hx hP => by
      obtain ⟨h1, rfl, rfl⟩ := hP
      rw [List.getElem?_map] at hx
      cases hy : l[i]? with
      | none => rw [hy] at hx; simp at hx
      | some y =>
        rw [hy] at hx
        simp at hx
        subst hx
        obtain ⟨ρ1, g1, g2, g3⟩ := h i y hy (((l.take i).filter keep).map f)
        have hlt := (List.getElem?_eq_some_iff.mp hy).1
        have etk : l.take (i + 1) = l.take i ++ [y] := by rw [List.take_succ, hy]; rfl
        refine ⟨ρ1, g1, ?_⟩
        cases hk : keep y with
        | false =>
          rw [hk] at g2
          exact .inl ⟨g2, hlt, rfl, by rw [etk, List.filter_append, List.filter_cons, hk]; simp⟩
        | true =>
          rw [hk] at g2
          exact .inr ⟨g2, f y, S, rfl, g3 hk, hlt, rfl, by rw [etk, List.filter_append, List.filter_cons, hk]; simp⟩)
    (src.size M1 + 1) 0 M1 [] (Nat.zero_le _) (by rw [w.size]; omega) ⟨Nat.zero_le _, rfl, by simp⟩
  obtain ⟨S', ys, h1, h2, rfl, rfl⟩ := hs
  simp only [gLc, hgi, Out.bind, h1, lcFin]
  rw [cell_new]
  simp only [Bool.false_eq_true, if_false, take_new]
  rw [List.length_map, List.take_length]
theorem e_lcTA {α : Type} {own : List (Str × Nat)} {tg : CT} {it : CI} {elt : CE} {sc : Scope} {src : ISrc} {l : List α} {g : α → Vl} (hgi : it.ev fn ρ M = .ok src M1) (w : Walks src M1 (l.map g)) (hz : l.length < sizeLine) (f : α → PyData)
    (h : ∀ (i : Nat) (x : α), l[i]? = some x → ∀ acc, ∃ ρ1, tg.ev (g x) (wipeR ρ (own.map (·.2))) (M1 ++ [.lst acc]) = some ρ1 ∧ elt.ev fn ρ1 (M1 ++ [.lst acc]) = .ok (.d (f x)) (M1 ++ [.lst acc])) :
    CE.ev fn (.lc false elt tg it .none sc own p) ρ M = .ok (.d (.list (l.map f))) M1 := by
  have := e_lcT (fn := fn) (ρ := ρ) (own := own) (tg := tg) (it := it) (c := .none) (elt := elt) (sc := sc) (p := p) hgi w hz (fun _ => true) f (fun i x hx acc => by
    obtain ⟨ρ1, h1, h2⟩ := h i x hx acc
    exact ⟨ρ1, h1, rfl, fun _ => h2⟩)
  rw [this, List.filter_eq_self.mpr (fun _ _ => rfl)]
theorem evC_some (a : CE) : CO.evC fn (.some a) = a.evT fn := by simp only [CO.evC]
theorem OutS.then_then (o : OutS) (f g : EvS) : (o.then f).then g = o.then (fun ρ M => (f ρ M).then g) := by cases o <;> rfl
theorem evSs_app : ∀ (a r : List CS) (ρ : Rho) (M : Sto), evSs fn (a ++ r) ρ M = (evSs fn a ρ M).then (evSs fn r)
  | [], r, ρ, M => rfl
  | s :: a, r, ρ, M => by
    show (s.ev fn ρ M).then (evSs fn (a ++ r)) = ((s.ev fn ρ M).then (evSs fn a)).then (evSs fn r)
    rw [OutS.then_then]
    congr 1
    funext ρ' M'
    exact evSs_app a r ρ' M'
theorem q_if2 {a b : List CS} {k : Bool} (h : CE.evT fn e ρ M = .ok k M1) (ht : k = true → Sat Q (evSs fn (a ++ r) ρ M1)) (hf : k = false → Sat Q (evSs fn (b ++ r) ρ M1)) : Sat Q (evSs fn (.ife e a b p :: r) ρ M) := by
  refine q_if h ?_
  cases k with
  | true => rw [if_pos rfl, ← evSs_app]; exact ht rfl
  | false => rw [if_neg (by decide), ← evSs_app]; exact hf rfl
/-- x.append(e) on the cell at n -/
theorem e_append {a b : CE} {apos cpos : Pos} {n : Nat} {x : PyData} {xs : List PyData} (ha : CE.ev fn a ρ M = .ok (.ref n) M1) (hm : M1[n]? = some (.lst xs) ) (hb : CE.ev fn b ρ M1 = .ok (.d x) M2) (hm2 : M2[n]? = some (.lst xs)) (hz : xs.length < sizeLine) : CE.ev fn (.meth .append a b .nil apos cpos) ρ M = .ok (.d .none) (M2.set n (.lst (xs ++ [x]))) := by
  show gMeth MT.list appendV (a.ev fn) (gCons (b.ev fn) gNil) ρ M = _
  simp only [gMeth, gCons, gNil, ha, hb, Out.bind, tyM, peek, hm, appendV, toD, lstAt, hm2, if_pos hz, if_true]
theorem e_extend {a b : CE} {apos cpos : Pos} {n : Nat} {y : Vl} {z : PyData} {ds xs xs2 : List PyData} (ha : CE.ev fn a ρ M = .ok (.ref n) M1) (hm : M1[n]? = some (.lst xs)) (hb : CE.ev fn b ρ M1 = .ok y M2) (hy : peek M2 y = some z) (hi : itemsOf z = some ds) (hm2 : M2[n]? = some (.lst xs2)) (hz : xs2.length + ds.length ≤ sizeLine) : CE.ev fn (.meth .extend a b .nil apos cpos) ρ M = .ok (.d .none) (M2.set n (.lst (xs2 ++ ds))) := by
  show gMeth MT.list extendV (a.ev fn) (gCons (b.ev fn) gNil) ρ M = _
  have hm' : peek M1 (.ref n) = some (.list xs) := by simp only [peek, hm]
  simp only [gMeth, gCons, gNil, ha, hb, Out.bind, tyM, hm', extendV, hy, hi, lstAt, hm2, if_pos hz, if_true]
end
end Ev

namespace Law
open PySem PySem.Spec Ev
abbrev tb : List FnS := ts.map (·.F)
abbrev I (i : Int) : Vl := .d (.int i)
theorem mul_bd {a b : Int} {k m : Nat} (ha : a.natAbs < 2 ^ k) (hb : b.natAbs < 2 ^ m) : (a * b).natAbs < 2 ^ (k + m) := by
  rw [Int.natAbs_mul, Nat.pow_add]
  exact Nat.mul_lt_mul'' ha hb
theorem ne_ok (a b : PyData) (h : min a.depth b.depth ≤ 64) : neD a b = some (.bool (!PyData.eqv a b)) := by simp only [neD, if_pos h]
theorem eq_ok (a b : PyData) (h : min a.depth b.depth ≤ 64) : eqD a b = some (.bool (PyData.eqv a b)) := by simp only [eqD, if_pos h]
theorem eqI (a b : Int) : eqD (.int a) (.int b) = some (.bool (a == b)) := by
  rw [eq_ok _ _ (by simp [PyData.depth])]
  simp [PyData.eqv]
theorem neI (a b : Int) : neD (.int a) (.int b) = some (.bool (!(a == b))) := by
  rw [ne_ok _ _ (by simp [PyData.depth])]
  simp [PyData.eqv]

end Law

namespace Law
open PySem PySem.Spec Ev
/-! ### the feed -/
def rdL (a b c d : PyData) : PyData := .list [a, b, c, d]
def rdC (cs : List Int) (sp re ca : Int) : Cell := .lst [.list (cs.map .int), .int sp, .int re, .int ca]
theorem cut63 (ns : List Int) : cutD (List.map PyData.int ns) none (some 63) = (ns.take 63).map PyData.int := by
  simp only [cutD, HT.sIx, List.length_map]
  rw [if_neg (by decide)]
  simp [List.map_take, List.take_eq_take_iff]
theorem s_feed (n : Nat) (M : Sto) (ns : List Int) : Ev.run tb (n + 1) 7 [scriptD ns] M = .ok (.ref M.length) (M ++ [rdC (ns.take 63) 0 0 0]) := by
  rw [runS n 7 f7.F rfl]
  simp [runF, evSs, CS.ev, CE.ev, CE.evT, CEs.ev, CI.ev, CO.evI, CO.evC, CT.ev, CTs.ev, CTs.len, CT.slots, CTs.slots, gStar, gsPar3, extendV, insertV, getV, dictV, pairsD, gDisp0, gsPars, setAll, lstAt, tgName, tgTup, tgCons, tgNil, evAnd, evOr, evAndT, evOrT, callE, gsSeq, gsNil, gsSet, gsTgt, gsPar, gsExp, gsRet, gsRetN, gsIf, gsPut, gBin, gUn, gVar, gCon, gB, gIf, gTru, gAndT, gOrT, gNotT, gAnd, gOr, gNot, gChain, gNil, gCons, gCall, gTup, gLst, gLstM, gDisp, gSl, gNoPart, gPart, gMeth, giVal, giRng1, giRng2, giZip, giEnu, srcOf, asInt, asBool, startR, COp.ev, BOp.ev, Blt.ev, Mth.ev, Mth.ty, leD_int, fldV, insAt, putS, gsFld, gProp, gMake, gMCall, gMCallK, propE, mkE, mcE, mckE, lift2, lift1, liftC1, peek, toD, toDs, ixV, dctAt, ixL, ixT, L2.atI, L2.ixN, give, Out.bind, bindS, OutS.then, finR, finV, addD, subD, cmpI, isaD, negD, absD, intD, lenV, lenD, tupleD, listD, PyData.isInt, PyData.isBool, PyData.isTuple, PyData.isList, PyData.isStr, itemsOf, callK, gCallK, pick, giZipS, seqK, truV, truD, PyData.truthy, sizeLine_eq, slD, putV, keyD, isNoneV, f7, scriptD, gLstM]
  rw [cut63]
  rfl
theorem get_set (M : Sto) (r : Nat) (c : Cell) (h : r < M.length) : (M.set r c)[r]? = some c := by simp [h]
theorem pow5 (i : Int) (h : i.natAbs < 2 ^ 64) : powD (.int i) (.int 5) = some (.int (i ^ 5)) := pow_ok (by decide) (by decide) h
theorem pow3 (i : Int) (h : i.natAbs < 2 ^ 64) : powD (.int i) (.int 3) = some (.int (i ^ 3)) := pow_ok (by decide) (by decide) h
theorem pow18 : powD (.int 10) (.int 18) = some (.int (10 ^ 18)) := pow_ok (by decide) (by decide) (by decide)
theorem fm (i : Int) {m : Int} (h : 0 < m) : 0 ≤ i.fmod m ∧ i.fmod m < m := ⟨Int.fmod_nonneg_of_pos i h, Int.fmod_lt_of_pos i h⟩
theorem x0 (a b c d : PyData) : L2.atI [a, b, c, d] 0 = some a := rfl
theorem x1 (a b c d : PyData) : L2.atI [a, b, c, d] 1 = some b := rfl
theorem x2 (a b c d : PyData) : L2.atI [a, b, c, d] 2 = some c := rfl
theorem x3 (a b c d : PyData) : L2.atI [a, b, c, d] 3 = some d := rfl
theorem ne0 : neD (.list []) (.list []) = some (.bool false) := by
  rw [ne_ok _ _ (by simp [PyData.depth, PyData.depthAll])]
  simp [PyData.eqv, PyData.eqvAll]
theorem dpI : ∀ l : List Int, PyData.depthAll (l.map .int) = 0
  | [] => by simp [PyData.depthAll]
  | i :: l => by simp [PyData.depthAll, PyData.depth, dpI l]
theorem neL {cs : List Int} (h : 0 < cs.length) : neD (.list (cs.map .int)) (.list []) = some (.bool true) := by
  rw [ne_ok _ _ (by simp [PyData.depth, PyData.depthAll, dpI])]
  match cs, h with
  | c :: cs, _ => simp [PyData.eqv, PyData.eqvAll]
/-- what a draw leaves -/
def Drawn (r : Nat) (M : Sto) (cs : List Int) (ca : Int) (m : Int) (o : Out Vl) : Prop := ∃ v sp re, o = .ok (I v) (M.set r (rdC cs sp re (ca + 1))) ∧ 0 ≤ sp ∧ 0 ≤ v ∧ v < m
theorem s_draw (n : Nat) (M : Sto) (r : Nat) (cs : List Int) (sp re ca m : Int) (hM : M[r]? = some (rdC cs sp re ca)) (hsp : 0 ≤ sp) (hc0 : 0 ≤ ca) (hc1 : ca < 100000) (hm : 0 < m) (hm2 : m.natAbs < 2 ^ 60) (hl : cs.length ≤ 63) : Drawn r M cs ca m (Ev.run tb (n + 1) 8 [.ref r, I m] M) := by
  have hr : r < M.length := (List.getElem?_eq_some_iff.mp hM).1
  have hm0 : m ≠ 0 := by omega
  rw [runS n 8 f8.F rfl]
  unfold rdC at hM
  have hst : ∀ c, (M.set r c).length = M.length := fun c => List.length_set
  have tk : ∀ c, (M.set r c).take M.length = M.set r c := fun c => by rw [← hst c, List.take_length]
  have gs : ∀ c, (M.set r c)[r]? = some c := fun c => get_set M r c hr
  clear hr
  by_cases h1 : 0 < re
  · have a1 := mod_ok (i := re) hm0
    have a2 := div_ok (i := re) hm2 hm0 (by decide)
    refine ⟨re.fmod m, sp, re.fdiv m, ?_, hsp, fm re hm⟩
    simp [runF, evSs, CS.ev, CE.ev, CE.evT, CEs.ev, CI.ev, CO.evI, CO.evC, CT.ev, CTs.ev, CTs.len, CT.slots, CTs.slots, gStar, gsPar3, extendV, insertV, getV, dictV, pairsD, gDisp0, gsPars, setAll, lstAt, tgName, tgTup, tgCons, tgNil, evAnd, evOr, evAndT, evOrT, callE, gsSeq, gsNil, gsSet, gsTgt, gsPar, gsExp, gsRet, gsRetN, gsIf, gsPut, gBin, gUn, gVar, gCon, gB, gIf, gTru, gAndT, gOrT, gNotT, gAnd, gOr, gNot, gChain, gNil, gCons, gCall, gTup, gLst, gLstM, gDisp, gSl, gNoPart, gPart, gMeth, giVal, giRng1, giRng2, giZip, giEnu, srcOf, asInt, asBool, startR, COp.ev, BOp.ev, Blt.ev, Mth.ev, Mth.ty, leD_int, fldV, insAt, putS, gsFld, gProp, gMake, gMCall, gMCallK, propE, mkE, mcE, mckE, lift2, lift1, liftC1, peek, toD, toDs, ixV, dctAt, ixL, ixT, give, Out.bind, bindS, OutS.then, finR, finV, addD, subD, cmpI, isaD, negD, absD, intD, lenV, lenD, tupleD, listD, PyData.isInt, PyData.isBool, PyData.isTuple, PyData.isList, PyData.isStr, itemsOf, callK, gCallK, pick, giZipS, seqK, truV, truD, PyData.truthy, sizeLine_eq, slD, putV, keyD, isNoneV, f8, hM, x0, x1, x2, x3, gs, tk, h1, a1, a2, rdC, L2.ixN]
  · -- the cell
    obtain ⟨cell, hcell⟩ : ∃ cell : Int, (cs = [] ∧ cell = 73) ∨ (0 < cs.length ∧ modD (.int sp) (.int cs.length) = some (.int (sp.fmod cs.length)) ∧ L2.atI (cs.map PyData.int) (sp.fmod cs.length) = some (.int cell)) := by
      cases cs with
      | nil => exact ⟨73, .inl ⟨rfl, rfl⟩⟩
      | cons c cs =>
        have hp : (0 : Int) < (c :: cs).length := by rw [List.length_cons]; omega
        obtain ⟨f900, f901⟩ := fm sp hp
        refine ⟨(c :: cs).getD (sp.fmod (c :: cs).length).toNat 0, .inr ⟨by rw [List.length_cons]; omega, mod_ok (by omega), ?_⟩⟩
        generalize sp.fmod (c :: cs).length = j at f900 f901
        generalize (c :: cs) = l at *
        show L2.atI (l.map PyData.int) j = _
        unfold L2.atI L2.ixN
        have hj : j.toNat < l.length := by omega
        rw [if_pos f900, if_pos (by rw [List.length_map]; exact f901)]
        simp [List.getElem?_map, List.getElem?_eq_getElem hj]
    have q0 := mod_ok (i := cell) hm0
    have q00 := div_ok (i := cell) hm2 hm0 (by decide)
    have q1 := mod_ok (i := cell) (j := 1000010911) (by decide)
    have q2 := mul_ok (i := 197) (j := ca + 1) (k := 8) (m := 17) (by decide) (by omega) (by decide)
    have q2b := mul_ok (i := 197 * (ca + 1)) (j := ca + 1 + 14) (k := 25) (m := 18) (by omega) (by omega) (by decide)
    have b0 : (197 * (ca + 1) * (ca + 1 + 14)).natAbs < 2 ^ 43 := mul_bd (k := 25) (m := 18) (by omega) (by omega)
    obtain ⟨b1, b2⟩ := fm cell (m := 1000010911) (by decide)
    generalize cell.fmod 1000010911 = c1 at q1 b1 b2
    have q3 := pow5 (c1 + 197 * (ca + 1) * (ca + 1 + 14) + 61) (by omega)
    have q4 := mod_ok (i := (c1 + 197 * (ca + 1) * (ca + 1 + 14) + 61) ^ 5) (j := 2147483249) (by decide)
    obtain ⟨b3, b4⟩ := fm ((c1 + 197 * (ca + 1) * (ca + 1 + 14) + 61) ^ 5) (m := 2147483249) (by decide)
    generalize Int.fmod ((c1 + 197 * (ca + 1) * (ca + 1 + 14) + 61) ^ 5) 2147483249 = once at q4 b3 b4
    have q5 := mul_ok (i := 2) (j := ca + 1) (k := 2) (m := 17) (by decide) (by omega) (by decide)
    have q6 := mul_ok (i := once) (j := 2 * (ca + 1) + 13) (k := 31) (m := 18) (by omega) (by omega) (by decide)
    have q6b := mul_ok (i := 50263) (j := ca + 1) (k := 16) (m := 17) (by decide) (by omega) (by decide)
    have b5 : (once * (2 * (ca + 1) + 13)).natAbs < 2 ^ 49 := mul_bd (k := 31) (m := 18) (by omega) (by omega)
    have q7 := pow3 (once * (2 * (ca + 1) + 13) + 50263 * (ca + 1)) (by omega)
    have q8 := mod_ok (i := (once * (2 * (ca + 1) + 13) + 50263 * (ca + 1)) ^ 3) (j := 2147483171) (by decide)
    have q9 := div_ok (i := Int.fmod ((once * (2 * (ca + 1) + 13) + 50263 * (ca + 1)) ^ 3) 2147483171) (j := 64) (m := 7) (by decide) (by decide) (by decide)
    have q10 := mod_ok (i := (Int.fmod ((once * (2 * (ca + 1) + 13) + 50263 * (ca + 1)) ^ 3) 2147483171).fdiv 64) hm0
    rcases hcell with ⟨rfl, rfl⟩ | ⟨hp, g1, g2⟩
    · refine ⟨((Int.fmod ((once * (2 * (ca + 1) + 13) + 50263 * (ca + 1)) ^ 3) 2147483171).fdiv 64).fmod m, sp + 1, re, ?_, by omega, fm _ hm⟩
      have hs : ¬ sp < 0 := by omega
      simp [runF, evSs, CS.ev, CE.ev, CE.evT, CEs.ev, CI.ev, CO.evI, CO.evC, CT.ev, CTs.ev, CTs.len, CT.slots, CTs.slots, gStar, gsPar3, extendV, insertV, getV, dictV, pairsD, gDisp0, gsPars, setAll, lstAt, tgName, tgTup, tgCons, tgNil, evAnd, evOr, evAndT, evOrT, callE, gsSeq, gsNil, gsSet, gsTgt, gsPar, gsExp, gsRet, gsRetN, gsIf, gsPut, gBin, gUn, gVar, gCon, gB, gIf, gTru, gAndT, gOrT, gNotT, gAnd, gOr, gNot, gChain, gNil, gCons, gCall, gTup, gLst, gLstM, gDisp, gSl, gNoPart, gPart, gMeth, giVal, giRng1, giRng2, giZip, giEnu, srcOf, asInt, asBool, startR, COp.ev, BOp.ev, Blt.ev, Mth.ev, Mth.ty, leD_int, fldV, insAt, putS, gsFld, gProp, gMake, gMCall, gMCallK, propE, mkE, mcE, mckE, lift2, lift1, liftC1, peek, toD, toDs, ixV, dctAt, ixL, ixT, give, Out.bind, bindS, OutS.then, finR, finV, addD, subD, cmpI, isaD, negD, absD, intD, lenV, lenD, tupleD, listD, PyData.isInt, PyData.isBool, PyData.isTuple, PyData.isList, PyData.isStr, itemsOf, callK, gCallK, pick, giZipS, seqK, truV, truD, PyData.truthy, sizeLine_eq, slD, putV, keyD, isNoneV, f8, hM, x0, x1, x2, x3, gs, tk, h1, rdC, hs, q1, q2, q2b, q3, q4, q5, q6, q6b, q7, q8, q9, q10, ne0, pow18, L2.ixN]
    · have hne := neL hp
      by_cases h2 : sp + 1 ≤ cs.length ∧ 1000000000000000000 ≤ cell
      · refine ⟨cell.fmod m, sp + 1, cell.fdiv m, ?_, by omega, fm _ hm⟩
        obtain ⟨h2, h3⟩ := h2
        simp [runF, evSs, CS.ev, CE.ev, CE.evT, CEs.ev, CI.ev, CO.evI, CO.evC, CT.ev, CTs.ev, CTs.len, CT.slots, CTs.slots, gStar, gsPar3, extendV, insertV, getV, dictV, pairsD, gDisp0, gsPars, setAll, lstAt, tgName, tgTup, tgCons, tgNil, evAnd, evOr, evAndT, evOrT, callE, gsSeq, gsNil, gsSet, gsTgt, gsPar, gsExp, gsRet, gsRetN, gsIf, gsPut, gBin, gUn, gVar, gCon, gB, gIf, gTru, gAndT, gOrT, gNotT, gAnd, gOr, gNot, gChain, gNil, gCons, gCall, gTup, gLst, gLstM, gDisp, gSl, gNoPart, gPart, gMeth, giVal, giRng1, giRng2, giZip, giEnu, srcOf, asInt, asBool, startR, COp.ev, BOp.ev, Blt.ev, Mth.ev, Mth.ty, leD_int, fldV, insAt, putS, gsFld, gProp, gMake, gMCall, gMCallK, propE, mkE, mcE, mckE, lift2, lift1, liftC1, peek, toD, toDs, ixV, dctAt, ixL, ixT, give, Out.bind, bindS, OutS.then, finR, finV, addD, subD, cmpI, isaD, negD, absD, intD, lenV, lenD, tupleD, listD, PyData.isInt, PyData.isBool, PyData.isTuple, PyData.isList, PyData.isStr, itemsOf, callK, gCallK, pick, giZipS, seqK, truV, truD, PyData.truthy, sizeLine_eq, slD, putV, keyD, isNoneV, f8, hM, x0, x1, x2, x3, gs, tk, h1, rdC, hp, g1, g2, h2, pow18, h3, q0, q00, hne, L2.ixN]
      · refine ⟨((Int.fmod ((once * (2 * (ca + 1) + 13) + 50263 * (ca + 1)) ^ 3) 2147483171).fdiv 64).fmod m, sp + 1, re, ?_, by omega, fm _ hm⟩
        by_cases h4 : sp + 1 ≤ cs.length
        · have h3 : ¬ 1000000000000000000 ≤ cell := fun h => h2 ⟨h4, h⟩
          simp [runF, evSs, CS.ev, CE.ev, CE.evT, CEs.ev, CI.ev, CO.evI, CO.evC, CT.ev, CTs.ev, CTs.len, CT.slots, CTs.slots, gStar, gsPar3, extendV, insertV, getV, dictV, pairsD, gDisp0, gsPars, setAll, lstAt, tgName, tgTup, tgCons, tgNil, evAnd, evOr, evAndT, evOrT, callE, gsSeq, gsNil, gsSet, gsTgt, gsPar, gsExp, gsRet, gsRetN, gsIf, gsPut, gBin, gUn, gVar, gCon, gB, gIf, gTru, gAndT, gOrT, gNotT, gAnd, gOr, gNot, gChain, gNil, gCons, gCall, gTup, gLst, gLstM, gDisp, gSl, gNoPart, gPart, gMeth, giVal, giRng1, giRng2, giZip, giEnu, srcOf, asInt, asBool, startR, COp.ev, BOp.ev, Blt.ev, Mth.ev, Mth.ty, leD_int, fldV, insAt, putS, gsFld, gProp, gMake, gMCall, gMCallK, propE, mkE, mcE, mckE, lift2, lift1, liftC1, peek, toD, toDs, ixV, dctAt, ixL, ixT, give, Out.bind, bindS, OutS.then, finR, finV, addD, subD, cmpI, isaD, negD, absD, intD, lenV, lenD, tupleD, listD, PyData.isInt, PyData.isBool, PyData.isTuple, PyData.isList, PyData.isStr, itemsOf, callK, gCallK, pick, giZipS, seqK, truV, truD, PyData.truthy, sizeLine_eq, slD, putV, keyD, isNoneV, f8, hM, x0, x1, x2, x3, gs, tk, h1, rdC, hp, g1, g2, h4, pow18, h3, q1, q2, q2b, q3, q4, q5, q6, q6b, q7, q8, q9, q10, hne, L2.ixN]
        · simp [runF, evSs, CS.ev, CE.ev, CE.evT, CEs.ev, CI.ev, CO.evI, CO.evC, CT.ev, CTs.ev, CTs.len, CT.slots, CTs.slots, gStar, gsPar3, extendV, insertV, getV, dictV, pairsD, gDisp0, gsPars, setAll, lstAt, tgName, tgTup, tgCons, tgNil, evAnd, evOr, evAndT, evOrT, callE, gsSeq, gsNil, gsSet, gsTgt, gsPar, gsExp, gsRet, gsRetN, gsIf, gsPut, gBin, gUn, gVar, gCon, gB, gIf, gTru, gAndT, gOrT, gNotT, gAnd, gOr, gNot, gChain, gNil, gCons, gCall, gTup, gLst, gLstM, gDisp, gSl, gNoPart, gPart, gMeth, giVal, giRng1, giRng2, giZip, giEnu, srcOf, asInt, asBool, startR, COp.ev, BOp.ev, Blt.ev, Mth.ev, Mth.ty, leD_int, fldV, insAt, putS, gsFld, gProp, gMake, gMCall, gMCallK, propE, mkE, mcE, mckE, lift2, lift1, liftC1, peek, toD, toDs, ixV, dctAt, ixL, ixT, give, Out.bind, bindS, OutS.then, finR, finV, addD, subD, cmpI, isaD, negD, absD, intD, lenV, lenD, tupleD, listD, PyData.isInt, PyData.isBool, PyData.isTuple, PyData.isList, PyData.isStr, itemsOf, callK, gCallK, pick, giZipS, seqK, truV, truD, PyData.truthy, sizeLine_eq, slD, putV, keyD, isNoneV, f8, hM, x0, x1, x2, x3, gs, tk, h1, rdC, hp, g1, g2, h4, q1, q2, q2b, q3, q4, q5, q6, q6b, q7, q8, q9, q10, hne, pow18, L2.ixN]
end Law

namespace Law
open PySem PySem.Spec Ev
/-! ### the feed at 0, c draws at most -/
def Rd (c : Int) (M : Sto) : Prop := ∃ cs sp re ca, M[0]? = some (rdC cs sp re ca) ∧ cs.length ≤ 63 ∧ 0 ≤ sp ∧ 0 ≤ ca ∧ ca ≤ c
def Up (M M' : Sto) : Prop := ∃ x, M' = M.set 0 x
theorem Up.len {M M' : Sto} (h : Up M M') : M'.length = M.length := by obtain ⟨x, rfl⟩ := h; exact List.length_set
theorem Up.trans {M M' M2 : Sto} (h : Up M M') (h' : Up M' M2) : Up M M2 := by
  obtain ⟨x, rfl⟩ := h
  obtain ⟨y, rfl⟩ := h'
  exact ⟨y, by rw [List.set_set]⟩
theorem Rd.pos {c : Int} {M : Sto} (h : Rd c M) : 0 < M.length := by
  obtain ⟨_, _, _, _, h, _⟩ := h
  exact (List.getElem?_eq_some_iff.mp h).1
theorem Rd.app {c : Int} {M : Sto} (h : Rd c M) (N : Sto) : Rd c (M ++ N) := by
  have hp := h.pos
  obtain ⟨cs, sp, re, ca, h, r⟩ := h
  exact ⟨cs, sp, re, ca, by rw [List.getElem?_append_left hp]; exact h, r⟩
theorem Rd.mono {c d : Int} {M : Sto} (h : Rd c M) (hd : c ≤ d) : Rd d M := by
  obtain ⟨cs, sp, re, ca, h, r1, r2, r3, r4⟩ := h
  exact ⟨cs, sp, re, ca, h, r1, r2, r3, by omega⟩
theorem Up.refl {c : Int} {M : Sto} (h : Rd c M) : Up M M := by
  have hp := h.pos
  exact ⟨M[0], by rw [List.set_getElem_self]⟩
theorem Up.app {S N M' : Sto} (hp : 0 < S.length) (h : Up (S ++ N) M') : ∃ S', M' = S' ++ N ∧ Up S S' := by
  obtain ⟨x, rfl⟩ := h
  exact ⟨S.set 0 x, by rw [List.set_append_left _ _ hp], x, rfl⟩
theorem Rd.left {c : Int} {S N : Sto} (hp : 0 < S.length) (h : Rd c (S ++ N)) : Rd c S := by
  obtain ⟨cs, sp, re, ca, h, r⟩ := h
  exact ⟨cs, sp, re, ca, by rw [List.getElem?_append_left hp] at h; exact h, r⟩
theorem d_draw (n : Nat) (M : Sto) {c : Int} (m : Int) (h : Rd c M) (hc : c < 100000) (hm : 0 < m) (hm2 : m.natAbs < 2 ^ 60) : ∃ v M', Ev.run tb (n + 1) 8 [.ref 0, I m] M = .ok (I v) M' ∧ Rd (c + 1) M' ∧ Up M M' ∧ 0 ≤ v ∧ v < m := by
  have hp := h.pos
  obtain ⟨cs, sp, re, ca, h1, h2, h3, h4, h5⟩ := h
  obtain ⟨v, sp', re', e, g1, g2, g3⟩ := s_draw n M 0 cs sp re ca m h1 h3 h4 (by omega) hm hm2 h2
  exact ⟨v, _, e, ⟨cs, sp', re', ca + 1, by simp [hp], h2, g1, by omega, by omega⟩, ⟨_, rfl⟩, g2, g3⟩
theorem ix_in {xs : List PyData} {v : Int} (h0 : 0 ≤ v) (h1 : v < xs.length) : ∃ x ∈ xs, L2.atI xs v = some x := by
  have h3 : v.toNat < xs.length := by omega
  refine ⟨xs[v.toNat], List.getElem_mem h3, ?_⟩
  unfold L2.atI L2.ixN
  rw [if_pos h0, if_pos h1]
  simp [h3]
theorem d_choice (n : Nat) (M : Sto) {c : Int} (xs : List PyData) (h : Rd c M) (hc : c < 100000) (h0 : 0 < xs.length) (h1 : xs.length ≤ 100) : ∃ x ∈ xs, ∃ M', Ev.run tb (n + 2) 9 [.ref 0, .d (.list xs)] M = .ok (.d x) M' ∧ Rd (c + 1) M' ∧ Up M M' := by
  obtain ⟨v, M', e, r, u, v0, v1⟩ := d_draw n M (xs.length : Nat) h hc (by omega) (by omega)
  obtain ⟨x, hx, hi⟩ := ix_in v0 v1
  refine ⟨x, hx, M', ?_, r, u⟩
  rw [runS (n + 1) 9 f9.F rfl]
  simp [f9, runF, evSs, CS.ev, CE.ev, CE.evT, CEs.ev, CI.ev, CO.evI, CO.evC, CT.ev, CTs.ev, CTs.len, CT.slots, CTs.slots, gStar, gsPar3, extendV, insertV, getV, dictV, pairsD, gDisp0, gsPars, setAll, lstAt, tgName, tgTup, tgCons, tgNil, evAnd, evOr, evAndT, evOrT, callE, gsSeq, gsNil, gsSet, gsTgt, gsPar, gsExp, gsRet, gsRetN, gsIf, gsPut, gBin, gUn, gVar, gCon, gB, gIf, gTru, gAndT, gOrT, gNotT, gAnd, gOr, gNot, gChain, gNil, gCons, gCall, gTup, gLst, gLstM, gDisp, gSl, gNoPart, gPart, gMeth, giVal, giRng1, giRng2, giZip, giEnu, srcOf, asInt, asBool, startR, COp.ev, BOp.ev, Blt.ev, Mth.ev, Mth.ty, leD_int, fldV, insAt, putS, gsFld, gProp, gMake, gMCall, gMCallK, propE, mkE, mcE, mckE, lift2, lift1, liftC1, peek, toD, toDs, ixV, dctAt, ixL, ixT, give, Out.bind, bindS, OutS.then, finR, finV, addD, subD, cmpI, isaD, negD, absD, intD, lenV, lenD, tupleD, listD, PyData.isInt, PyData.isBool, PyData.isTuple, PyData.isList, PyData.isStr, itemsOf, callK, gCallK, pick, giZipS, seqK, truV, truD, PyData.truthy, sizeLine_eq, slD, putV, keyD, isNoneV, e, hi]
  rw [← u.len, List.take_length]
/-! ### trees and spans -/
def T (l : List Int) : PyData := .tuple (l.map .int)
inductive Tr where
  | nd (s : Str) (m : Int) (ts : List Tr)
mutual
def Tr.d : Tr → PyData
  | .nd s m ts => .tuple [.str s, .int m, .tuple (Tr.ds ts)]
def Tr.ds : List Tr → List PyData
  | [] => []
  | t :: ts => t.d :: Tr.ds ts
end
theorem ds_map : ∀ ts : List Tr, Tr.ds ts = ts.map Tr.d
  | [] => by simp [Tr.ds]
  | t :: ts => by simp [Tr.ds, ds_map ts]
theorem tr_d (s : Str) (m : Int) (ts : List Tr) : (Tr.nd s m ts).d = .tuple [.str s, .int m, .tuple (ts.map Tr.d)] := by rw [Tr.d, ds_map]
abbrev Sp := List Int × Str × Int
def Sp.d (s : Sp) : PyData := .tuple [T s.1, .str s.2.1, .int s.2.2]
mutual
def Tr.sp : Tr → List Int → List Sp
  | .nd s m ts, w => (w, s, m) :: Tr.sps ts w 0
def Tr.sps : List Tr → List Int → Nat → List Sp
  | [], _, _ => []
  | t :: ts, w, j => t.sp (w ++ [(j : Int)]) ++ Tr.sps ts w (j + 1)
end
theorem sps_app : ∀ (a b : List Tr) (w : List Int) (j : Nat), Tr.sps (a ++ b) w j = Tr.sps a w j ++ Tr.sps b w (j + a.length)
  | [], b, w, j => by simp [Tr.sps]
  | t :: a, b, w, j => by
    rw [List.cons_append, Tr.sps, Tr.sps, sps_app a b w (j + 1), List.append_assoc, List.length_cons]
    congr 3
    omega
theorem sps_take {ts : List Tr} {i : Nat} {t : Tr} (h : ts[i]? = some t) (w : List Int) : Tr.sps (ts.take (i + 1)) w 0 = Tr.sps (ts.take i) w 0 ++ t.sp (w ++ [(i : Int)]) := by
  have hi := (List.getElem?_eq_some_iff.mp h).1
  rw [List.take_succ, h, sps_app]
  simp [Tr.sps, Nat.min_eq_left (Nat.le_of_lt hi)]
def names : List Str := ["db", "front", "pay"]
def Ok1 (s : Str) (m : Int) : Prop := s ∈ names ∧ (m = 0 ∨ m = 1)
def Good : Nat → Tr → Prop
  | 0, .nd s m ts => Ok1 s m ∧ ts = []
  | d + 1, .nd s m ts => Ok1 s m ∧ ts.length ≤ 5 ∧ ∀ t ∈ ts, Good d t
theorem Good.inv {d : Nat} {s : Str} {m : Int} {ts : List Tr} (h : Good d (.nd s m ts)) : Ok1 s m ∧ ts.length ≤ 5 ∧ ∀ t ∈ ts, ∃ d', d = d' + 1 ∧ Good d' t := by
  cases d with
  | zero =>
    obtain ⟨h1, rfl⟩ := h
    exact ⟨h1, by simp, by simp⟩
  | succ d =>
    obtain ⟨h1, h2, h3⟩ := h
    exact ⟨h1, h2, fun t ht => ⟨d, rfl, h3 t ht⟩⟩
theorem Good.up {d : Nat} : ∀ {t : Tr}, Good d t → Good (d + 1) t := by
  induction d with
  | zero =>
    intro t h
    cases t with
    | nd s m ts =>
      obtain ⟨h1, rfl⟩ := h
      exact ⟨h1, by simp, by simp⟩
  | succ d ih =>
    intro t h
    cases t with
    | nd s m ts =>
      obtain ⟨h1, h2, h3⟩ := h
      exact ⟨h1, h2, fun t ht => ih (h3 t ht)⟩
theorem sps_len {K : Nat} : ∀ {ts : List Tr} {w : List Int} {j : Nat}, (∀ t ∈ ts, ∀ w, (t.sp w).length ≤ K) → (Tr.sps ts w j).length ≤ ts.length * K
  | [], w, j, h => by simp [Tr.sps]
  | t :: ts, w, j, h => by
    have h1 := h t (by simp) (w ++ [(j : Int)])
    have h2 := sps_len (ts := ts) (w := w) (j := j + 1) fun t ht => h t (by simp [ht])
    rw [Tr.sps, List.length_append, List.length_cons, Nat.succ_mul]
    omega
theorem sp_len : ∀ (d : Nat) {t : Tr}, Good d t → ∀ w, (t.sp w).length ≤ 6 ^ d := by
  intro d
  induction d with
  | zero =>
    intro t h w
    cases t with
    | nd s m ts =>
      obtain ⟨h1, rfl⟩ := h
      simp [Tr.sp, Tr.sps]
  | succ d ih =>
    intro t h w
    cases t with
    | nd s m ts =>
      obtain ⟨h1, h2, h3⟩ := h
      have := sps_len (ts := ts) (w := w) (j := 0) fun t ht w => ih (h3 t ht) w
      have h4 : ts.length * 6 ^ d ≤ 5 * 6 ^ d := Nat.mul_le_mul_right _ h2
      have h5 : 0 < 6 ^ d := Nat.pow_pos (by decide)
      rw [Tr.sp, List.length_cons, Nat.pow_succ]
      omega
theorem addT {a b : List Int} (h : a.length + b.length ≤ 1000) : addD (T a) (T b) = some (T (a ++ b)) := by
  simp [addD, T, sizeLine_eq]
  omega
theorem T1 (i : Int) : PyData.tuple [.int i] = T [i] := rfl
theorem T0 : PyData.tuple [] = T [] := rfl
theorem slLx (a b : Option Int) (l : List PyData) : slD a b (.list l) = some (.list (cutD l a b)) := rfl
theorem slTx (a b : Option Int) (l : List PyData) : slD a b (.tuple l) = some (.tuple (cutD l a b)) := rfl
theorem iL (l : List PyData) : itemsOf (.list l) = some l := rfl
theorem iT (l : List PyData) : itemsOf (.tuple l) = some l := rfl
theorem addI (i j : Int) : addD (.int i) (.int j) = some (.int (i + j)) := rfl
theorem subI (i j : Int) : subD (.int i) (.int j) = some (.int (i - j)) := rfl
theorem cmpII (p : Int → Int → Bool) (i j : Int) : cmpI p (.int i) (.int j) = some (.bool (p i j)) := rfl
theorem negI (i : Int) : negD (.int i) = some (.int (-i)) := rfl
theorem intI (i : Int) : intD (.int i) = some (.int i) := rfl
theorem intB (b : Bool) : intD (.bool b) = some (.int (if b then 1 else 0)) := rfl
theorem lenLi (xs : List PyData) : lenD (.list xs) = some (.int xs.length) := rfl
theorem lenTu (xs : List PyData) : lenD (.tuple xs) = some (.int xs.length) := rfl
theorem tupL (xs : List PyData) : tupleD (.list xs) = some (.tuple xs) := rfl
theorem tupT (xs : List PyData) : tupleD (.tuple xs) = some (.tuple xs) := rfl
theorem lisL (xs : List PyData) : listD (.list xs) = some (.list xs) := rfl
theorem lisT (xs : List PyData) : listD (.tuple xs) = some (.list xs) := rfl
theorem toDs_map (M : Sto) : ∀ l : List PyData, toDs M (l.map Vl.d) = some (l, M)
  | [] => rfl
  | x :: l => by
    show (match toD M (.d x) with | some (d, M1) => (match toDs M1 (l.map Vl.d) with | some (ds, M2) => some (d :: ds, M2) | none => none) | none => none) = _
    simp only [toD, toDs_map M l]
theorem toDs_app (M : Sto) (l : List PyData) (x : PyData) : toDs M (l.map Vl.d ++ [.d x]) = some (l ++ [x], M) := by
  rw [show l.map Vl.d ++ [Vl.d x] = (l ++ [x]).map Vl.d by simp, toDs_map]
theorem itT (l : List Int) : itemsOf (T l) = some (l.map .int) := rfl
theorem s_within : ∀ (d : Nat) (t : Tr), Good d t → d ≤ 3 → ∀ (n : Nat) (w : List Int) (M : Sto), d ≤ n → w.length + d ≤ 50 → Sat (fun o => o = .ok (.d (.list ((t.sp w).map Sp.d))) M) (Ev.run tb (n + 1) 0 [.d t.d, .d (T w)] M) := by
  intro d
  induction d using Nat.strongRecOn with
  | ind d ih =>
    intro t hg hd3 n w M hn hw
    cases t with
    | nd s m ts =>
      obtain ⟨h1, h2, h3⟩ := hg.inv
      have hlen : (Tr.sps ts w 0).length ≤ 5 * 6 ^ 2 := by
        refine Nat.le_trans (sps_len (K := 6 ^ 2) fun t ht w => ?_) (Nat.mul_le_mul_right _ h2)
        obtain ⟨d', hd', hg'⟩ := h3 t ht
        exact Nat.le_trans (sp_len d' hg' w) (Nat.pow_le_pow_right (by decide) (by omega))
      rw [runS n 0 f0.F rfl]
      refine q_run rfl ?_
      rw [tr_d]
      refine q_tgt (v := .d (.tuple [.str s, .int m, .tuple (ts.map Tr.d)])) (M1 := M) (ρ' := [some (.d (.tuple [.str s, .int m, .tuple (ts.map Tr.d)])), some (.d (T w)), some (.d (.str s)), some (.d (.int m)), some (.d (.tuple (ts.map Tr.d))), none, none, none]) rfl rfl ?_
      refine q_set (v := .ref M.length) (M1 := M ++ [.lst [Sp.d (w, s, m)]]) rfl ?_
      refine q_for (src := .enu true (.d (.tuple (ts.map Tr.d)))) (M1 := M ++ [.lst [Sp.d (w, s, m)]]) rfl (walks_enuT _ _)
        (fun i ρ M' => ∃ a b, ρ = [some (.d (.tuple [.str s, .int m, .tuple (ts.map Tr.d)])), some (.d (T w)), some (.d (.str s)), some (.d (.int m)), some (.d (.tuple (ts.map Tr.d))), some (.ref M.length), a, b] ∧ M' = M ++ [.lst (((w, s, m) :: Tr.sps (ts.take i) w 0).map Sp.d)]) ⟨none, none, rfl, by simp [Tr.sps]⟩ ?_ ?_
      · rintro i x ρ M' hx ⟨a, b, rfl, rfl⟩
        rw [enuW_at, List.getElem?_map] at hx
        cases ht : ts[i]? with
        | none => rw [ht] at hx; simp at hx
        | some t =>
          rw [ht] at hx
          simp at hx
          subst hx
          refine ⟨_, rfl, ?_⟩
          obtain ⟨d', rfl, hg'⟩ := h3 t (List.mem_of_getElem? ht)
          obtain ⟨n', rfl⟩ : ∃ n', n = n' + 1 := ⟨n - 1, by omega⟩
          have e := ih d' (by omega) t hg' (by omega) n' (w ++ [(i : Int)]) (M ++ [.lst (((w, s, m) :: Tr.sps (ts.take i) w 0).map Sp.d)]) (by omega) (by simp; omega)
          replace e : _ = _ := e
          have hl : (Tr.sps (ts.take i) w 0).length + (t.sp (w ++ [(i : Int)])).length ≤ 5 * 6 ^ 2 := by
            rw [← List.length_append, ← sps_take ht]
            refine Nat.le_trans ?_ hlen
            conv => rhs; rw [← List.take_append_drop (i + 1) ts, sps_app, List.length_append]
            omega
          have eT : PyData.tuple (List.map PyData.int w ++ [PyData.int i]) = T (w ++ [(i : Int)]) := by simp [T]
          refine q_exp (v := .d .none) (M1 := M ++ [.lst (((w, s, m) :: Tr.sps (ts.take (i + 1)) w 0).map Sp.d)]) ?_ (t_nx ⟨_, _, rfl, rfl⟩)
          have hsz : (Tr.sps (ts.take i) w 0).length + 1 + (t.sp (w ++ [(i : Int)])).length ≤ 16777216 := by omega
          have hz3 : w.length + 1 ≤ 16777216 := by omega
          have eS : List.map Sp.d ((w, s, m) :: Tr.sps (ts.take i) w 0) ++ List.map Sp.d (t.sp (w ++ [(i : Int)])) = List.map Sp.d ((w, s, m) :: Tr.sps (ts.take (i + 1)) w 0) := by rw [← List.map_append, sps_take ht, List.cons_append]
          have e2 := toDs_app (M ++ [.lst (((w, s, m) :: Tr.sps (ts.take i) w 0).map Sp.d)]) (w.map PyData.int) (.int i)
          simp [runF, evSs, CS.ev, CE.ev, CE.evT, CEs.ev, CI.ev, CO.evI, CO.evC, CT.ev, CTs.ev, CTs.len, CT.slots, CTs.slots, gStar, gsPar3, extendV, insertV, getV, dictV, pairsD, gDisp0, gsPars, setAll, lstAt, tgName, tgTup, tgCons, tgNil, evAnd, evOr, evAndT, evOrT, callE, gsSeq, gsNil, gsSet, gsTgt, gsPar, gsExp, gsRet, gsRetN, gsIf, gsPut, gBin, gUn, gVar, gCon, gB, gIf, gTru, gAndT, gOrT, gNotT, gAnd, gOr, gNot, gChain, gNil, gCons, gCall, gTup, gLst, gLstM, gDisp, gSl, gNoPart, gPart, gMeth, giVal, giRng1, giRng2, giZip, giEnu, srcOf, asInt, asBool, startR, COp.ev, BOp.ev, Blt.ev, Mth.ev, Mth.ty, leD_int, fldV, insAt, putS, gsFld, gProp, gMake, gMCall, gMCallK, propE, mkE, mcE, mckE, lift2, lift1, liftC1, peek, toD, toDs, ixV, dctAt, ixL, ixT, give, Out.bind, bindS, OutS.then, finR, finV, addI, subI, cmpII, isaD, negI, intI, intB, lenV, lenLi, lenTu, tupL, tupT, lisL, lisT, PyData.isInt, PyData.isBool, PyData.isTuple, PyData.isList, PyData.isStr, iL, iT, callK, gCallK, pick, giZipS, seqK, truV, truD, PyData.truthy, sizeLine_eq, slLx, slTx, putV, keyD, isNoneV, itT, e2, eT, hz3, e, hsz, eS, tyM, -List.map_append, -List.map_cons, -List.map_map]
      · rintro ρ' M' ⟨a, b, rfl, rfl⟩
        refine q_ret rfl ?_
        have hl : (enuW (ts.map Tr.d)).length = ts.length := by rw [enuW_len, List.length_map]
        rw [hl, List.take_length]
        show finR false M.length _ = _
        simp [finR, finV, Tr.sp]
theorem s_spans : ∀ (d : Nat) (t : Tr), Good d t → d ≤ 3 → ∀ (n : Nat) (w : List Int) (M : Sto), d ≤ n → w.length + d ≤ 50 → Sat (fun o => o = .ok (.d (.list ((t.sp w).map Sp.d))) M) (Ev.run tb (n + 1) 10 [.d t.d, .d (T w)] M) := by
  intro d
  induction d using Nat.strongRecOn with
  | ind d ih =>
    intro t hg hd3 n w M hn hw
    cases t with
    | nd s m ts =>
      obtain ⟨h1, h2, h3⟩ := hg.inv
      have hlen : (Tr.sps ts w 0).length ≤ 5 * 6 ^ 2 := by
        refine Nat.le_trans (sps_len (K := 6 ^ 2) fun t ht w => ?_) (Nat.mul_le_mul_right _ h2)
        obtain ⟨d', hd', hg'⟩ := h3 t ht
        exact Nat.le_trans (sp_len d' hg' w) (Nat.pow_le_pow_right (by decide) (by omega))
      rw [runS n 10 f10.F rfl]
      refine q_run rfl ?_
      rw [tr_d]
      refine q_set (v := .ref M.length) (M1 := M ++ [.lst [Sp.d (w, s, m)]]) rfl ?_
      refine q_for (src := .enu true (.d (.tuple (ts.map Tr.d)))) (M1 := M ++ [.lst [Sp.d (w, s, m)]]) rfl (walks_enuT _ _)
        (fun i ρ M' => ∃ a b, ρ = [some (.d (.tuple [.str s, .int m, .tuple (ts.map Tr.d)])), some (.d (T w)), some (.ref M.length), a, b] ∧ M' = M ++ [.lst (((w, s, m) :: Tr.sps (ts.take i) w 0).map Sp.d)]) ⟨none, none, rfl, by simp [Tr.sps]⟩ ?_ ?_
      · rintro i x ρ M' hx ⟨a, b, rfl, rfl⟩
        rw [enuW_at, List.getElem?_map] at hx
        cases ht : ts[i]? with
        | none => rw [ht] at hx; simp at hx
        | some t =>
          rw [ht] at hx
          simp at hx
          subst hx
          refine ⟨_, rfl, ?_⟩
          obtain ⟨d', rfl, hg'⟩ := h3 t (List.mem_of_getElem? ht)
          obtain ⟨n', rfl⟩ : ∃ n', n = n' + 1 := ⟨n - 1, by omega⟩
          have e := ih d' (by omega) t hg' (by omega) n' (w ++ [(i : Int)]) (M ++ [.lst (((w, s, m) :: Tr.sps (ts.take i) w 0).map Sp.d)]) (by omega) (by simp; omega)
          replace e : _ = _ := e
          have hl : (Tr.sps (ts.take i) w 0).length + (t.sp (w ++ [(i : Int)])).length ≤ 5 * 6 ^ 2 := by
            rw [← List.length_append, ← sps_take ht]
            refine Nat.le_trans ?_ hlen
            conv => rhs; rw [← List.take_append_drop (i + 1) ts, sps_app, List.length_append]
            omega
          have eT := addT (a := w) (b := [(i : Int)]) (by simp; omega)
          refine q_exp (v := .d .none) (M1 := M ++ [.lst (((w, s, m) :: Tr.sps (ts.take (i + 1)) w 0).map Sp.d)]) ?_ (t_nx ⟨_, _, rfl, rfl⟩)
          have hsz : (Tr.sps (ts.take i) w 0).length + 1 + (t.sp (w ++ [(i : Int)])).length ≤ 16777216 := by omega
          have hz3 : w.length + 1 ≤ 16777216 := by omega
          have eS : List.map Sp.d ((w, s, m) :: Tr.sps (ts.take i) w 0) ++ List.map Sp.d (t.sp (w ++ [(i : Int)])) = List.map Sp.d ((w, s, m) :: Tr.sps (ts.take (i + 1)) w 0) := by rw [← List.map_append, sps_take ht, List.cons_append]
          simp [runF, evSs, CS.ev, CE.ev, CE.evT, CEs.ev, CI.ev, CO.evI, CO.evC, CT.ev, CTs.ev, CTs.len, CT.slots, CTs.slots, gStar, gsPar3, extendV, insertV, getV, dictV, pairsD, gDisp0, gsPars, setAll, lstAt, tgName, tgTup, tgCons, tgNil, evAnd, evOr, evAndT, evOrT, callE, gsSeq, gsNil, gsSet, gsTgt, gsPar, gsExp, gsRet, gsRetN, gsIf, gsPut, gBin, gUn, gVar, gCon, gB, gIf, gTru, gAndT, gOrT, gNotT, gAnd, gOr, gNot, gChain, gNil, gCons, gCall, gTup, gLst, gLstM, gDisp, gSl, gNoPart, gPart, gMeth, giVal, giRng1, giRng2, giZip, giEnu, srcOf, asInt, asBool, startR, COp.ev, BOp.ev, Blt.ev, Mth.ev, Mth.ty, leD_int, fldV, insAt, putS, gsFld, gProp, gMake, gMCall, gMCallK, propE, mkE, mcE, mckE, lift2, lift1, liftC1, peek, toD, toDs, ixV, dctAt, ixL, ixT, give, Out.bind, bindS, OutS.then, finR, finV, addI, subI, cmpII, isaD, negI, intI, intB, lenV, lenLi, lenTu, tupL, tupT, lisL, lisT, PyData.isInt, PyData.isBool, PyData.isTuple, PyData.isList, PyData.isStr, iL, iT, callK, gCallK, pick, giZipS, seqK, truV, truD, PyData.truthy, sizeLine_eq, slLx, slTx, putV, keyD, isNoneV, T1, eT, hz3, e, hsz, eS, tyM, -List.map_append, -List.map_cons, -List.map_map]
      · rintro ρ' M' ⟨a, b, rfl, rfl⟩
        refine q_ret rfl ?_
        have hl : (enuW (ts.map Tr.d)).length = ts.length := by rw [enuW_len, List.length_map]
        rw [hl, List.take_length]
        show finR false M.length _ = _
        simp [finR, finV, Tr.sp]
end Law

namespace Law
open PySem PySem.Spec PySem.W Ev
/-! ### sights, typed -/
mutual
theorem tok_tr : ∀ (t u : Tr) (l m : List (Int ⊕ List Nat)), keyToks t.d ++ l = keyToks u.d ++ m → t = u ∧ l = m
  | .nd s i ts, .nd s' i' us, l, m, h => by
    rw [Tr.d, Tr.d] at h
    simp only [keyToks, keyToksAll, List.cons_append, List.nil_append, List.append_assoc, List.cons.injEq, Sum.inl.injEq, Sum.inr.injEq, true_and] at h
    obtain ⟨h1, h2, h3⟩ := h
    obtain ⟨rfl, h4⟩ := tok_trs ts us _ _ h3
    rw [str_of_cps h1, h2]
    exact ⟨rfl, by simpa using h4⟩
theorem tok_trs : ∀ (ts us : List Tr) (l m : List (Int ⊕ List Nat)), keyToksAll (Tr.ds ts) ++ l = keyToksAll (Tr.ds us) ++ m → ts = us ∧ l = m
  | [], [], l, m, h => by
    simp only [Tr.ds, keyToksAll, List.cons_append, List.nil_append, List.cons.injEq, true_and] at h
    exact ⟨rfl, h⟩
  | [], u :: us, l, m, h => by
    simp [Tr.ds, keyToksAll] at h
  | t :: ts, [], l, m, h => by
    simp [Tr.ds, keyToksAll] at h
  | t :: ts, u :: us, l, m, h => by
    simp only [Tr.ds, keyToksAll, List.cons_append, List.append_assoc, List.cons.injEq, true_and] at h
    obtain ⟨rfl, h2⟩ := tok_tr t u _ _ h
    obtain ⟨rfl, h3⟩ := tok_trs ts us _ _ h2
    exact ⟨rfl, h3⟩
end
inductive Pc where
  | top (t : Tr)
  | lost (ts : List Tr)
def Pc.d : Pc → PyData
  | .top t => .tuple [.str "top", t.d]
  | .lost ts => .tuple [.str "lost", .tuple (ts.map Tr.d)]
theorem tl_ne : ("top" : Str).cps.toList ≠ ("lost" : Str).cps.toList := by decide +kernel
theorem tok_pc {a b : Pc} (h : keyToks a.d = keyToks b.d) : a = b := by
  cases a with
  | top t =>
    cases b with
    | top u =>
      simp only [Pc.d, keyToks, keyToksAll, List.cons_append, List.nil_append, List.cons.injEq, true_and] at h
      rw [(tok_tr t u _ _ h).1]
    | lost us =>
      simp only [Pc.d, keyToks, keyToksAll, List.cons_append, List.nil_append, List.cons.injEq, true_and, Sum.inr.injEq] at h
      exact absurd h.1 tl_ne
  | lost ts =>
    cases b with
    | top u =>
      simp only [Pc.d, keyToks, keyToksAll, List.cons_append, List.nil_append, List.cons.injEq, true_and, Sum.inr.injEq] at h
      exact absurd h.1.symm tl_ne
    | lost us =>
      simp only [Pc.d, keyToks, keyToksAll, List.cons_append, List.nil_append, List.cons.injEq, true_and] at h
      rw [← ds_map, ← ds_map] at h
      rw [(tok_trs ts us _ _ h).1]
def leT (t u : Tr) : Bool := dataLe false id t.d u.d
def leP (a b : Pc) : Bool := dataLe false id a.d b.d
def srt (ts : List Tr) : List Tr := ts.mergeSort leT
def srtP (l : List Pc) : List Pc := l.mergeSort leP
theorem srt_d (ts : List Tr) : (ts.map Tr.d).mergeSort (dataLe false id) = (srt ts).map Tr.d := (List.map_mergeSort (r := leT) (s := dataLe false id) (f := Tr.d) (l := ts) fun a _ b _ => rfl).symm
theorem srtP_d (l : List Pc) : (l.map Pc.d).mergeSort (dataLe false id) = (srtP l).map Pc.d := (List.map_mergeSort (r := leP) (s := dataLe false id) (f := Pc.d) (l := l) fun a _ b _ => rfl).symm
theorem tot : TotalLe (dataLe (β := PyData) false id) := sortLe_total _ _ _
theorem leT_trans (a b c : Tr) (h1 : leT a b = true) (h2 : leT b c = true) : leT a c = true := tot.trans a.d b.d c.d h1 h2
theorem leT_total (a b : Tr) : (leT a b || leT b a) = true := Bool.or_eq_true_iff.mpr (tot.total a.d b.d)
theorem leP_trans (a b c : Pc) (h1 : leP a b = true) (h2 : leP b c = true) : leP a c = true := tot.trans a.d b.d c.d h1 h2
theorem leP_total (a b : Pc) : (leP a b || leP b a) = true := Bool.or_eq_true_iff.mpr (tot.total a.d b.d)
theorem leP_anti (a b : Pc) (h1 : leP a b = true) (h2 : leP b a = true) : a = b := by
  refine tok_pc ?_
  have h1 : (!dataLt b.d a.d) = true := h1
  have h2 : (!dataLt a.d b.d) = true := h2
  have h1' : dataLt b.d a.d = false := by simpa using h1
  have h2' : dataLt a.d b.d = false := by simpa using h2
  exact PyProof.Rows.lex_total (O := PyProof.Rows.itemOrd) _ _ h2' h1'
theorem srtP_perm {l l' : List Pc} (h : l.Perm l') : srtP l = srtP l' := sort_perm leP_trans leP_total leP_anti h
/-! #### what is seen -/
mutual
def keptT (has : List Int → Bool) : Tr → List Int → Tr
  | .nd s m ts, w => .nd s m (srt (keptTs has ts w 0))
def keptTs (has : List Int → Bool) : List Tr → List Int → Nat → List Tr
  | [], _, _ => []
  | t :: ts, w, j => if has (w ++ [(j : Int)]) then keptT has t (w ++ [(j : Int)]) :: keptTs has ts w (j + 1) else keptTs has ts w (j + 1)
end
def lostHere (has : List Int → Bool) (ts : List Tr) (w : List Int) : List Pc := if (!has w && !(keptTs has ts w 0).isEmpty) = true then [.lost (srt (keptTs has ts w 0))] else []
mutual
def lostP (has : List Int → Bool) : Tr → List Int → List Pc
  | .nd _ _ ts, w => lostHere has ts w ++ lostPs has ts w 0
def lostPs (has : List Int → Bool) : List Tr → List Int → Nat → List Pc
  | [], _, _ => []
  | t :: ts, w, j => lostP has t (w ++ [(j : Int)]) ++ lostPs has ts w (j + 1)
end
mutual
def seenP (has : List Int → Bool) : Tr → List Int → List Pc
  | .nd _ _ ts, w => seenPs has ts w 0 ++ lostHere has ts w
def seenPs (has : List Int → Bool) : List Tr → List Int → Nat → List Pc
  | [], _, _ => []
  | t :: ts, w, j => seenP has t (w ++ [(j : Int)]) ++ seenPs has ts w (j + 1)
end
mutual
theorem seen_lost (has : List Int → Bool) : ∀ (t : Tr) (w : List Int), (seenP has t w).Perm (lostP has t w)
  | .nd s m ts, w => by
    rw [seenP, lostP]
    exact (List.perm_append_comm).trans (List.Perm.append_left _ (seens_losts has ts w 0))
theorem seens_losts (has : List Int → Bool) : ∀ (ts : List Tr) (w : List Int) (j : Nat), (seenPs has ts w j).Perm (lostPs has ts w j)
  | [], w, j => by rw [seenPs, lostPs]
  | t :: ts, w, j => by
    rw [seenPs, lostPs]
    exact (seen_lost has t _).append (seens_losts has ts w _)
end
def topOf (has : List Int → Bool) (t : Tr) (w : List Int) : List Pc := if has w then [.top (keptT has t w)] else []
def rawS (has : List Int → Bool) (t : Tr) : List Pc := srtP (topOf has t [] ++ lostP has t [])
def ownS (has : List Int → Bool) (t : Tr) (w : List Int) : List Pc := srtP (seenP has t w ++ topOf has t w)
/-! both look under other names of the paths -/
mutual
theorem kept_shift (has has' : List Int → Bool) (p : List Int) (h : ∀ w, has' (p ++ w) = has w) : ∀ (t : Tr) (w : List Int), keptT has' t (p ++ w) = keptT has t w
  | .nd s m ts, w => by rw [keptT, keptT, kepts_shift has has' p h ts w 0]
theorem kepts_shift (has has' : List Int → Bool) (p : List Int) (h : ∀ w, has' (p ++ w) = has w) : ∀ (ts : List Tr) (w : List Int) (j : Nat), keptTs has' ts (p ++ w) j = keptTs has ts w j
  | [], w, j => by rw [keptTs, keptTs]
  | t :: ts, w, j => by
    rw [keptTs, keptTs, List.append_assoc, h, kept_shift has has' p h t, kepts_shift has has' p h ts w]
end
theorem here_shift (has has' : List Int → Bool) (p : List Int) (h : ∀ w, has' (p ++ w) = has w) (ts : List Tr) (w : List Int) : lostHere has' ts (p ++ w) = lostHere has ts w := by
  unfold lostHere
  rw [h, kepts_shift has has' p h]
mutual
theorem seen_shift (has has' : List Int → Bool) (p : List Int) (h : ∀ w, has' (p ++ w) = has w) : ∀ (t : Tr) (w : List Int), seenP has' t (p ++ w) = seenP has t w
  | .nd s m ts, w => by rw [seenP, seenP, seens_shift has has' p h ts w 0, here_shift has has' p h]
theorem seens_shift (has has' : List Int → Bool) (p : List Int) (h : ∀ w, has' (p ++ w) = has w) : ∀ (ts : List Tr) (w : List Int) (j : Nat), seenPs has' ts (p ++ w) j = seenPs has ts w j
  | [], w, j => by rw [seenPs, seenPs]
  | t :: ts, w, j => by
    rw [seenPs, seenPs, List.append_assoc, seen_shift has has' p h t, seens_shift has has' p h ts w]
end
theorem raw_own (has has' : List Int → Bool) (p : List Int) (h : ∀ w, has' (p ++ w) = has w) (t : Tr) : ownS has' t p = rawS has t := by
  have e1 := seen_shift has has' p h t []
  have e2 := kept_shift has has' p h t []
  have e3 := h []
  rw [List.append_nil] at e1 e2 e3
  unfold ownS rawS topOf
  rw [e1, e2, e3]
  exact srtP_perm (List.perm_append_comm.trans (List.Perm.append_left _ (seen_lost has t [])))
end Law

namespace Law
open PySem PySem.Spec Ev
theorem fin_len (M M' : Sto) (x : PyData) (h : M'.length = M.length) : finR false M.length (.rt (.d x) M') = .ok (.d x) M' := by
  simp only [finR, finV]
  rw [← h, List.take_length]
theorem fin_ret (M : Sto) (x : PyData) : finR false M.length (.rt (.d x) M) = .ok (.d x) M := by simp [finR, finV]
mutual
theorem alike_tr : ∀ t u : Tr, PySem.W.alike t.d u.d = true
  | .nd s m ts, .nd s' m' us => by
    rw [Tr.d, Tr.d]
    simp only [PySem.W.alike, PySem.W.alikeAll, Bool.and_true, Bool.true_and]
    exact alike_trs ts us
theorem alike_trs : ∀ ts us : List Tr, PySem.W.alikeAll (Tr.ds ts) (Tr.ds us) = true
  | [], us => by rw [Tr.ds]; simp [PySem.W.alikeAll]
  | t :: ts, [] => by rw [Tr.ds, Tr.ds]; simp [PySem.W.alikeAll]
  | t :: ts, u :: us => by
    rw [Tr.ds, Tr.ds]
    simp only [PySem.W.alikeAll, alike_tr t u, alike_trs ts us, Bool.and_true]
end
theorem dep_all {K : Nat} : ∀ {xs : List PyData}, (∀ x ∈ xs, x.depth ≤ K) → PyData.depthAll xs ≤ K
  | [], _ => by simp [PyData.depthAll]
  | x :: xs, h => by
    have h1 := h x (by simp)
    have h2 := dep_all (xs := xs) fun y hy => h y (by simp [hy])
    simp only [PyData.depthAll]
    omega
theorem dep_good : ∀ (d : Nat) {t : Tr}, Good d t → t.d.depth ≤ 2 * d + 2 := by
  intro d
  induction d with
  | zero =>
    intro t h
    cases t with
    | nd s m ts =>
      obtain ⟨h1, rfl⟩ := h
      simp [Tr.d, Tr.ds, PyData.depth, PyData.depthAll]
  | succ d ih =>
    intro t h
    cases t with
    | nd s m ts =>
      obtain ⟨h1, h2, h3⟩ := h
      have := dep_all (K := 2 * d + 2) (xs := ts.map Tr.d) fun x hx => by
        obtain ⟨t, ht, rfl⟩ := List.mem_map.mp hx
        exact ih (h3 t ht)
      rw [tr_d]
      simp only [PyData.depth, PyData.depthAll]
      omega

/-! ### trees whose calls are sorted; sizes -/
mutual
def Tr.sz : Tr → Nat
  | .nd _ _ ts => 1 + Tr.szs ts
def Tr.szs : List Tr → Nat
  | [] => 0
  | t :: ts => t.sz + Tr.szs ts
end
theorem szs_sum : ∀ ts : List Tr, Tr.szs ts = (ts.map Tr.sz).sum
  | [] => by simp [Tr.szs]
  | t :: ts => by simp [Tr.szs, szs_sum ts]
theorem szs_app (a b : List Tr) : Tr.szs (a ++ b) = Tr.szs a + Tr.szs b := by simp [szs_sum]
theorem szs_perm {a b : List Tr} (h : a.Perm b) : Tr.szs a = Tr.szs b := by
  rw [szs_sum, szs_sum]
  exact (h.map Tr.sz).sum_nat
mutual
theorem sp_sz : ∀ (t : Tr) (w : List Int), (t.sp w).length = t.sz
  | .nd s m ts, w => by rw [Tr.sp, Tr.sz, List.length_cons, sps_sz ts w 0]; omega
theorem sps_sz : ∀ (ts : List Tr) (w : List Int) (j : Nat), (Tr.sps ts w j).length = Tr.szs ts
  | [], w, j => by simp [Tr.sps, Tr.szs]
  | t :: ts, w, j => by rw [Tr.sps, Tr.szs, List.length_append, sp_sz t, sps_sz ts]
end
abbrev Asc (ts : List Tr) : Prop := ts.Pairwise fun a b => leT a b = true
def GS : Nat → Tr → Prop
  | 0, .nd s m ts => Ok1 s m ∧ ts = []
  | d + 1, .nd s m ts => Ok1 s m ∧ ts.length ≤ 5 ∧ (∀ t ∈ ts, GS d t) ∧ Asc ts
theorem GS.good : ∀ (d : Nat) {t : Tr}, GS d t → Good d t := by
  intro d
  induction d with
  | zero =>
    intro t h
    cases t with
    | nd s m ts => exact h
  | succ d ih =>
    intro t h
    cases t with
    | nd s m ts =>
      obtain ⟨h1, h2, h3, _⟩ := h
      exact ⟨h1, h2, fun t ht => ih (h3 t ht)⟩
theorem srt_perm (ts : List Tr) : (srt ts).Perm ts := List.mergeSort_perm ts leT
theorem srt_asc (ts : List Tr) : Asc (srt ts) := List.pairwise_mergeSort leT_trans leT_total ts
theorem srt_len (ts : List Tr) : (srt ts).length = ts.length := (srt_perm ts).length_eq
theorem srt_mem {ts : List Tr} {t : Tr} : t ∈ srt ts ↔ t ∈ ts := (srt_perm ts).mem_iff
theorem trs_cond {D : Nat} (hD : D ≤ 28) {ts : List Tr} (h : ∀ t ∈ ts, t.d.depth ≤ 2 * D + 2) : sortB (ts.map Tr.d) = true ∧ ((ts.map Tr.d).all fun d => decide (d.depth ≤ 60)) = true := by
  have c1 : alikeB (ts.map Tr.d) = true := by
    refine List.all_eq_true.mpr fun x hx => List.all_eq_true.mpr fun y hy => ?_
    obtain ⟨t, _, rfl⟩ := List.mem_map.mp hx
    obtain ⟨u, _, rfl⟩ := List.mem_map.mp hy
    exact alike_tr t u
  have c2 : ((ts.map Tr.d).all isTupC || (ts.map Tr.d).all noTup) = true := by
    refine Bool.or_eq_true_iff.mpr (.inl (List.all_eq_true.mpr fun x hx => ?_))
    obtain ⟨t, _, rfl⟩ := List.mem_map.mp hx
    cases t
    rfl
  refine ⟨Bool.or_eq_true_iff.mpr (.inl (Bool.and_eq_true_iff.mpr ⟨c1, c2⟩)), List.all_eq_true.mpr fun x hx => ?_⟩
  obtain ⟨t, ht, rfl⟩ := List.mem_map.mp hx
  have := h t ht
  exact decide_eq_true (by omega)
theorem sortD_trs {D : Nat} (hD : D ≤ 28) {ts : List Tr} (h : ∀ t ∈ ts, t.d.depth ≤ 2 * D + 2) (hl : ts.length ≤ 1000) : sortD (.list (ts.map Tr.d)) = some (.list ((srt ts).map Tr.d)) ∧ sortD (.tuple (ts.map Tr.d)) = some (.list ((srt ts).map Tr.d)) := by
  obtain ⟨c1, c4⟩ := trs_cond hD h
  have c3 : (ts.map Tr.d).length ≤ sizeLine := by rw [List.length_map, sizeLine_eq]; omega
  constructor
  · simp only [sortD]
    rw [if_pos ⟨c1, c3, c4⟩, srt_d]
  · simp only [sortD]
    rw [if_pos ⟨c1, c3, c4⟩, srt_d]
theorem t0 (x : PyData) : L2.atI [x] 0 = some x := rfl
/-- only the feed and the cell at p have changed -/
def Fm (p : Nat) (M M' : Sto) : Prop := M'.length = M.length ∧ ∀ i, i ≠ 0 → i ≠ p → M'[i]? = M[i]?
theorem Up.fm {M M' : Sto} (p : Nat) (h : Up M M') : Fm p M M' := by
  obtain ⟨x, rfl⟩ := h
  exact ⟨List.length_set, fun i h0 _ => List.getElem?_set_ne (fun e => h0 e.symm)⟩
theorem Fm.trans {p : Nat} {M M1 M2 : Sto} (h : Fm p M M1) (h' : Fm p M1 M2) : Fm p M M2 := ⟨h'.1.trans h.1, fun i a b => (h'.2 i a b).trans (h.2 i a b)⟩
theorem fm_set (p : Nat) (M : Sto) (x : Cell) : Fm p M (M.set p x) := ⟨List.length_set, fun i _ h => List.getElem?_set_ne (fun e => h e.symm)⟩
theorem Fm.app {p : Nat} {S M' : Sto} {c : Cell} (h0 : 0 < S.length) (hp : p < S.length) (h : Fm p (S ++ [c]) M') : ∃ S', M' = S' ++ [c] ∧ Fm p S S' := by
  obtain ⟨h1, h2⟩ := h
  rw [List.length_append, List.length_singleton] at h1
  have h3 := h2 S.length (by omega) (by omega)
  rw [cell_new] at h3
  refine ⟨M'.take S.length, ?_, by rw [List.length_take]; omega, fun i a b => ?_⟩
  · have := List.take_append_drop S.length M'
    rw [← this]
    congr 1
    · rw [List.take_append_drop]
    · have hl : (M'.drop S.length).length = 1 := by rw [List.length_drop]; omega
      obtain ⟨y, hy⟩ := List.length_eq_one_iff.mp hl
      rw [hy]
      have : (M'.drop S.length)[0]? = some c := by rw [List.getElem?_drop]; exact h3
      rw [hy] at this
      simpa using this
  · by_cases hi : i < S.length
    · rw [List.getElem?_take_of_lt hi, h2 i a b, List.getElem?_append_left hi]
    · rw [List.getElem?_eq_none (by rw [List.length_take]; omega), List.getElem?_eq_none (by omega)]
def cost : Nat → Int
  | 0 => 3
  | d + 1 => 3 + 2 * cost d
theorem cost_le : ∀ d, d ≤ 3 → 0 ≤ cost d ∧ cost d ≤ 45
  | 0, _ => by decide
  | 1, _ => by decide
  | 2, _ => by decide
  | 3, _ => by decide
  | d + 4, h => by omega
def Trd (d : Nat) (p : Nat) (M : Sto) (c k : Int) : Out Vl → Prop := fun o => ∃ (t : Tr) (M' : Sto) (k' : Int), o = .ok (.d t.d) M' ∧ GS d t ∧ Rd (c + cost d) M' ∧ Fm p M M' ∧ M'[p]? = some (.lst [.int k']) ∧ 0 ≤ k' ∧ (t.sz : Int) + k' ≤ k + 1
theorem fin_cut (M S : Sto) (c : Cell) (x : PyData) (h : S.length = M.length) : finR false M.length (.rt (.d x) (S ++ [c])) = .ok (.d x) S := by
  simp only [finR, finV]
  rw [← h, List.take_left]
theorem d_tree : ∀ (d : Nat), d ≤ 3 → ∀ (n p : Nat) (M : Sto) (c k : Int), Rd c M → c + cost d < 80000 → p ≠ 0 → M[p]? = some (.lst [.int k]) → 0 ≤ k → Sat (Trd d p M c k) (Ev.run tb (n + d + 3) 15 [.ref 0, .ref p, I d] M) := by
  intro d
  induction d using Nat.strongRecOn with
  | ind d ih =>
    intro hd n p M c k hr hc0 hp0 hpk hk0
    have hc : c < 80000 := by
      have := cost_le d hd
      omega
    obtain ⟨x, hx, M1, e1, r1, u1⟩ := d_choice (n + d) M [.str "db", .str "front", .str "pay"] hr (by omega) (by decide) (by decide)
    obtain ⟨s, rfl, hs⟩ : ∃ s : Str, x = .str s ∧ s ∈ names := by
      simp only [List.mem_cons, List.not_mem_nil, or_false] at hx
      rcases hx with rfl | rfl | rfl
      · exact ⟨"db", rfl, by simp [names]⟩
      · exact ⟨"front", rfl, by simp [names]⟩
      · exact ⟨"pay", rfl, by simp [names]⟩
    obtain ⟨v2, M2, e2, r2, u2, v20, v21⟩ := d_draw (n + d + 1) M1 3 r1 (by omega) (by decide) (by decide)
    have u12 := u1.trans u2
    let m : Int := if (v2 == 0) = true then 1 else 0
    have hm : m = 0 ∨ m = 1 := by
      by_cases h : (v2 == 0) = true
      · exact .inr (if_pos h)
      · exact .inl (if_neg h)
    have hpl : p < M.length := (List.getElem?_eq_some_iff.mp hpk).1
    have hpk2 : M2[p]? = some (.lst [.int k]) := by rw [((u12.fm p).2 · · ·) |> fun _ => (by
      obtain ⟨y, rfl⟩ := u12
      exact List.getElem?_set_ne (fun e => hp0 e.symm) : M2[p]? = M[p]?)]; exact hpk
    have hl2 : M2.length = M.length := u12.len
    obtain ⟨v3, M4, e3, r4, u4, v30, v31⟩ := d_draw (n + d + 1) (M2 ++ [.lst []]) 3 (r2.app _) (by omega) (by decide) (by decide)
    obtain ⟨S4, rfl, u4'⟩ := Up.app r2.pos u4
    obtain ⟨N, S5, hN, hsrc, r5, f905, h5⟩ : ∃ (N : Nat) (S5 : Sto), N ≤ 2 ∧ ((d = 0 ∧ N = 0 ∧ S5 = M2) ∨ (0 < d ∧ N = v3.toNat ∧ S5 = S4)) ∧ Rd (c + 3) S5 ∧ Fm p M S5 ∧ S5[p]? = some (.lst [.int k]) := by
      by_cases h : d = 0
      · exact ⟨0, M2, by omega, .inl ⟨h, rfl, rfl⟩, r2.mono (by omega), u12.fm p, hpk2⟩
      · refine ⟨v3.toNat, S4, by omega, .inr ⟨by omega, rfl, rfl⟩, (r4.left (by rw [u4'.len]; exact r2.pos)).mono (by omega), (u12.fm p).trans (u4'.fm p), ?_⟩
        obtain ⟨y, rfl⟩ := u4'
        rw [List.getElem?_set_ne (fun e => hp0 e.symm)]
        exact hpk2
    rw [show n + d + 3 = (n + d + 2) + 1 by omega, runS (n + d + 2) 15 f15.F rfl]
    refine q_run rfl ?_
    refine q_par3 (u := .d (.str s)) (w := .d (.int m)) (s := .ref M.length) (M1 := M1) (M2 := M2) (M3 := M2 ++ [.lst []]) (e_call (xs := [.ref 0, .d (.list [.str "db", .str "front", .str "pay"])]) ?_ e1) ?_ ?_ ?_
    · exact es_cons rfl (es_cons (by simp [runF, evSs, CS.ev, CE.ev, CE.evT, CEs.ev, CI.ev, CO.evI, CO.evC, CT.ev, CTs.ev, CTs.len, CT.slots, CTs.slots, gStar, gsPar3, extendV, insertV, getV, dictV, pairsD, gDisp0, gsPars, setAll, lstAt, tgName, tgTup, tgCons, tgNil, evAnd, evOr, evAndT, evOrT, callE, gsSeq, gsNil, gsSet, gsTgt, gsPar, gsExp, gsRet, gsRetN, gsIf, gsPut, gBin, gUn, gVar, gCon, gB, gIf, gTru, gAndT, gOrT, gNotT, gAnd, gOr, gNot, gChain, gNil, gCons, gCall, gTup, gLst, gLstM, gDisp, gSl, gNoPart, gPart, gMeth, giVal, giRng1, giRng2, giZip, giEnu, srcOf, asInt, asBool, startR, COp.ev, BOp.ev, Blt.ev, Mth.ev, Mth.ty, leD_int, fldV, insAt, putS, gsFld, gProp, gMake, gMCall, gMCallK, propE, mkE, mcE, mckE, lift2, lift1, liftC1, peek, toD, toDs, ixV, dctAt, ixL, ixT, give, Out.bind, bindS, OutS.then, finR, finV, addI, subI, cmpII, isaD, negI, intI, intB, lenV, lenLi, lenTu, tupL, tupT, lisL, lisT, PyData.isInt, PyData.isBool, PyData.isTuple, PyData.isList, PyData.isStr, iL, iT, callK, gCallK, pick, giZipS, seqK, truV, truD, PyData.truthy, sizeLine_eq, slLx, slTx, putV, keyD, isNoneV]) es_nil)
    · refine e_blt1 (v := .d (.bool (v2 == 0))) (M1 := M2) (e_cmp (x := I v2) (y := I 0) (M1 := M2) (M2 := M2) (e_call (xs := [.ref 0, I 3]) rfl e2) rfl ?_) ?_
      · simp only [COp.ev, lift2, peek, eqI, give]
      · simp only [Blt.ev, liftC1, lift1, peek, intB, give, m]
    · rw [← hl2]; rfl
    have hK := cost_le (d - 1) (by omega)
    refine q_for (src := .rng 0 N) (M1 := S5 ++ [.lst []]) ?_ (walks_rng 0 N _)
      (fun i ρ M' => ∃ (ts : List Tr) (S : Sto) (k' : Int) (b : Option Vl), ρ = [some (.ref 0), some (.ref p), some (I d), some (.d (.str s)), some (.d (.int m)), some (.ref M.length), b] ∧ M' = S ++ [.lst (ts.map Tr.d)] ∧ ts.length ≤ i ∧ (∀ t ∈ ts, ∃ d', d = d' + 1 ∧ GS d' t) ∧ Rd (c + 3 + i * cost (d - 1)) S ∧ Fm p M S ∧ S[p]? = some (.lst [.int k']) ∧ 0 ≤ k' ∧ (Tr.szs ts : Int) + k' ≤ k)
      ⟨[], S5, k, none, rfl, rfl, Nat.le_refl _, by simp, by simpa using r5, f905, h5, hk0, by simp [Tr.szs]⟩ ?_ ?_
    · rcases hsrc with ⟨hd0, hN0, rfl⟩ | ⟨hd0, hN0, rfl⟩
      · subst hN0
        simp [runF, evSs, CS.ev, CE.ev, CE.evT, CEs.ev, CI.ev, CO.evI, CO.evC, CT.ev, CTs.ev, CTs.len, CT.slots, CTs.slots, gStar, gsPar3, extendV, insertV, getV, dictV, pairsD, gDisp0, gsPars, setAll, lstAt, tgName, tgTup, tgCons, tgNil, evAnd, evOr, evAndT, evOrT, callE, gsSeq, gsNil, gsSet, gsTgt, gsPar, gsExp, gsRet, gsRetN, gsIf, gsPut, gBin, gUn, gVar, gCon, gB, gIf, gTru, gAndT, gOrT, gNotT, gAnd, gOr, gNot, gChain, gNil, gCons, gCall, gTup, gLst, gLstM, gDisp, gSl, gNoPart, gPart, gMeth, giVal, giRng1, giRng2, giZip, giEnu, srcOf, asInt, asBool, startR, COp.ev, BOp.ev, Blt.ev, Mth.ev, Mth.ty, leD_int, fldV, insAt, putS, gsFld, gProp, gMake, gMCall, gMCallK, propE, mkE, mcE, mckE, lift2, lift1, liftC1, peek, toD, toDs, ixV, dctAt, ixL, ixT, give, Out.bind, bindS, OutS.then, finR, finV, addI, subI, cmpII, isaD, negI, intI, intB, lenV, lenLi, lenTu, tupL, tupT, lisL, lisT, PyData.isInt, PyData.isBool, PyData.isTuple, PyData.isList, PyData.isStr, iL, iT, callK, gCallK, pick, giZipS, seqK, truV, truD, PyData.truthy, sizeLine_eq, slLx, slTx, putV, keyD, isNoneV, hd0]
      · subst hN0
        have hh : (-4611686018427387904 ≤ v3 ∧ v3 < 4611686018427387904) := by omega
        simp [runF, evSs, CS.ev, CE.ev, CE.evT, CEs.ev, CI.ev, CO.evI, CO.evC, CT.ev, CTs.ev, CTs.len, CT.slots, CTs.slots, gStar, gsPar3, extendV, insertV, getV, dictV, pairsD, gDisp0, gsPars, setAll, lstAt, tgName, tgTup, tgCons, tgNil, evAnd, evOr, evAndT, evOrT, callE, gsSeq, gsNil, gsSet, gsTgt, gsPar, gsExp, gsRet, gsRetN, gsIf, gsPut, gBin, gUn, gVar, gCon, gB, gIf, gTru, gAndT, gOrT, gNotT, gAnd, gOr, gNot, gChain, gNil, gCons, gCall, gTup, gLst, gLstM, gDisp, gSl, gNoPart, gPart, gMeth, giVal, giRng1, giRng2, giZip, giEnu, srcOf, asInt, asBool, startR, COp.ev, BOp.ev, Blt.ev, Mth.ev, Mth.ty, leD_int, fldV, insAt, putS, gsFld, gProp, gMake, gMCall, gMCallK, propE, mkE, mcE, mckE, lift2, lift1, liftC1, peek, toD, toDs, ixV, dctAt, ixL, ixT, give, Out.bind, bindS, OutS.then, finR, finV, addI, subI, cmpII, isaD, negI, intI, intB, lenV, lenLi, lenTu, tupL, tupT, lisL, lisT, PyData.isInt, PyData.isBool, PyData.isTuple, PyData.isList, PyData.isStr, iL, iT, callK, gCallK, pick, giZipS, seqK, truV, truD, PyData.truthy, sizeLine_eq, slLx, slTx, putV, keyD, isNoneV, hd0, e3, hh]
    · rintro i x ρ M' hx ⟨ts, S, k', b, rfl, rfl, ht1, ht2, rS, fS, hk', hk0', hsz⟩
      have hi : i < N := by
        have := (List.getElem?_eq_some_iff.mp hx).1
        simpa using this
      have hik : (i : Int) * cost (d - 1) ≤ 45 := by
        have : i = 0 ∨ i = 1 := by omega
        rcases this with rfl | rfl
        · simp
        · simpa using hK.2
      have hd1 : ∃ d', d = d' + 1 := by
        rcases hsrc with ⟨_, h, _⟩ | ⟨h, _, _⟩
        · omega
        · exact ⟨d - 1, by omega⟩
      obtain ⟨d', rfl⟩ := hd1
      have hSl : S.length = M.length := fS.1
      have hk2 : (S ++ [.lst (ts.map Tr.d)])[p]? = some (.lst [.int k']) := by rw [List.getElem?_append_left (by omega)]; exact hk'
      refine ⟨_, rfl, ?_⟩
      refine q_if2 (k := decide (0 < k')) (M1 := S ++ [.lst (ts.map Tr.d)]) ?_ (fun hpos => ?_) (fun _ => ?_)
      · simp [runF, evSs, CS.ev, CE.ev, CE.evT, CEs.ev, CI.ev, CO.evI, CO.evC, CT.ev, CTs.ev, CTs.len, CT.slots, CTs.slots, gStar, gsPar3, extendV, insertV, getV, dictV, pairsD, gDisp0, gsPars, setAll, lstAt, tgName, tgTup, tgCons, tgNil, evAnd, evOr, evAndT, evOrT, callE, gsSeq, gsNil, gsSet, gsTgt, gsPar, gsExp, gsRet, gsRetN, gsIf, gsPut, gBin, gUn, gVar, gCon, gB, gIf, gTru, gAndT, gOrT, gNotT, gAnd, gOr, gNot, gChain, gNil, gCons, gCall, gTup, gLst, gLstM, gDisp, gSl, gNoPart, gPart, gMeth, giVal, giRng1, giRng2, giZip, giEnu, srcOf, asInt, asBool, startR, COp.ev, BOp.ev, Blt.ev, Mth.ev, Mth.ty, leD_int, fldV, insAt, putS, gsFld, gProp, gMake, gMCall, gMCallK, propE, mkE, mcE, mckE, lift2, lift1, liftC1, peek, toD, toDs, ixV, dctAt, ixL, ixT, give, Out.bind, bindS, OutS.then, finR, finV, addI, subI, cmpII, isaD, negI, intI, intB, lenV, lenLi, lenTu, tupL, tupT, lisL, lisT, PyData.isInt, PyData.isBool, PyData.isTuple, PyData.isList, PyData.isStr, iL, iT, callK, gCallK, pick, giZipS, seqK, truV, truD, PyData.truthy, sizeLine_eq, slLx, slTx, putV, keyD, isNoneV, hk2, t0]
      · have hS1 : (S ++ [Cell.lst (ts.map Tr.d)]).set p (.lst [.int (k' - 1)]) = S.set p (.lst [.int (k' - 1)]) ++ [.lst (ts.map Tr.d)] := List.set_append_left _ _ (by omega)
        refine q_put (z := I (k' - 1)) (x := .ref p) (y := I 0) (M1 := S ++ [.lst (ts.map Tr.d)]) (M2 := S ++ [.lst (ts.map Tr.d)]) (M3 := S ++ [.lst (ts.map Tr.d)]) (M4 := S.set p (.lst [.int (k' - 1)]) ++ [.lst (ts.map Tr.d)]) ?_ rfl rfl ?_ ?_
        · simp [runF, evSs, CS.ev, CE.ev, CE.evT, CEs.ev, CI.ev, CO.evI, CO.evC, CT.ev, CTs.ev, CTs.len, CT.slots, CTs.slots, gStar, gsPar3, extendV, insertV, getV, dictV, pairsD, gDisp0, gsPars, setAll, lstAt, tgName, tgTup, tgCons, tgNil, evAnd, evOr, evAndT, evOrT, callE, gsSeq, gsNil, gsSet, gsTgt, gsPar, gsExp, gsRet, gsRetN, gsIf, gsPut, gBin, gUn, gVar, gCon, gB, gIf, gTru, gAndT, gOrT, gNotT, gAnd, gOr, gNot, gChain, gNil, gCons, gCall, gTup, gLst, gLstM, gDisp, gSl, gNoPart, gPart, gMeth, giVal, giRng1, giRng2, giZip, giEnu, srcOf, asInt, asBool, startR, COp.ev, BOp.ev, Blt.ev, Mth.ev, Mth.ty, leD_int, fldV, insAt, putS, gsFld, gProp, gMake, gMCall, gMCallK, propE, mkE, mcE, mckE, lift2, lift1, liftC1, peek, toD, toDs, ixV, dctAt, ixL, ixT, give, Out.bind, bindS, OutS.then, finR, finV, addI, subI, cmpII, isaD, negI, intI, intB, lenV, lenLi, lenTu, tupL, tupT, lisL, lisT, PyData.isInt, PyData.isBool, PyData.isTuple, PyData.isList, PyData.isStr, iL, iT, callK, gCallK, pick, giZipS, seqK, truV, truD, PyData.truthy, sizeLine_eq, slLx, slTx, putV, keyD, isNoneV, hk2, t0]
        · simp only [putV, toD, hk2]
          rw [← hS1]
          rfl
        have rS' : Rd (c + 3 + i * cost d') (S.set p (.lst [.int (k' - 1)])) := by
          obtain ⟨cs, sp, re, ca, h, q⟩ := rS
          exact ⟨cs, sp, re, ca, by rw [List.getElem?_set_ne hp0]; exact h, q⟩
        have hSl2 : (S.set p (Cell.lst [.int (k' - 1)])).length = M.length := by rw [List.length_set, hSl]
        have hih := ih d' (by omega) (by omega) n p (S.set p (.lst [.int (k' - 1)]) ++ [.lst (ts.map Tr.d)]) (c + 3 + i * cost d') (k' - 1) (rS'.app _) (by
          have hi2 : (i : Int) * cost d' ≤ cost d' := by
            have : i = 0 ∨ i = 1 := by omega
            have h0 := (cost_le d' (by omega)).1
            rcases this with rfl | rfl
            · simpa using h0
            · simp
          rw [cost] at hc0
          omega) hp0 (by rw [List.getElem?_append_left (by omega), List.getElem?_set_self (by omega)]) (by have := of_decide_eq_true hpos; omega)
        obtain ⟨t, M'', k'', e4, g4, r6, f906, h6, hk0'', hsz2⟩ := hih
        obtain ⟨S'', rfl, f907⟩ := Fm.app (by have := rS'.pos; omega) (by omega) f906
        have hS''l : S''.length = M.length := f907.1.trans hSl2
        have e4' : Ev.run tb (n + (d' + 1) + 2) 15 [.ref 0, .ref p, I d'] (S.set p (.lst [.int (k' - 1)]) ++ [.lst (ts.map Tr.d)]) = .ok (.d t.d) (S'' ++ [.lst (ts.map Tr.d)]) := by
          rw [show n + (d' + 1) + 2 = n + d' + 3 by omega]
          exact e4
        have hg1 : (S.set p (Cell.lst [.int (k' - 1)]) ++ [Cell.lst (ts.map Tr.d)])[M.length]? = some (.lst (ts.map Tr.d)) := by
          have := cell_new (S.set p (Cell.lst [.int (k' - 1)])) (.lst (ts.map Tr.d))
          rw [hSl2] at this
          exact this
        have hg2 : (S'' ++ [Cell.lst (ts.map Tr.d)])[M.length]? = some (.lst (ts.map Tr.d)) := by
          have := cell_new S'' (.lst (ts.map Tr.d))
          rw [hS''l] at this
          exact this
        generalize S.set p (Cell.lst [.int (k' - 1)]) ++ [Cell.lst (ts.map Tr.d)] = Ma at hg1 e4' ⊢
        have hz : (ts.map Tr.d).length < sizeLine := by rw [List.length_map, sizeLine_eq]; omega
        refine q_exp (e_append (n := M.length) (x := t.d) (xs := ts.map Tr.d) (M1 := Ma) (M2 := S'' ++ [.lst (ts.map Tr.d)]) rfl hg1 (e_call (M1 := Ma) (xs := [.ref 0, .ref p, I d']) (es_cons (M1 := Ma) rfl (es_cons (M1 := Ma) rfl (es_cons (M1 := Ma) (by simp [runF, evSs, CS.ev, CE.ev, CE.evT, CEs.ev, CI.ev, CO.evI, CO.evC, CT.ev, CTs.ev, CTs.len, CT.slots, CTs.slots, gStar, gsPar3, extendV, insertV, getV, dictV, pairsD, gDisp0, gsPars, setAll, lstAt, tgName, tgTup, tgCons, tgNil, evAnd, evOr, evAndT, evOrT, callE, gsSeq, gsNil, gsSet, gsTgt, gsPar, gsExp, gsRet, gsRetN, gsIf, gsPut, gBin, gUn, gVar, gCon, gB, gIf, gTru, gAndT, gOrT, gNotT, gAnd, gOr, gNot, gChain, gNil, gCons, gCall, gTup, gLst, gLstM, gDisp, gSl, gNoPart, gPart, gMeth, giVal, giRng1, giRng2, giZip, giEnu, srcOf, asInt, asBool, startR, COp.ev, BOp.ev, Blt.ev, Mth.ev, Mth.ty, leD_int, fldV, insAt, putS, gsFld, gProp, gMake, gMCall, gMCallK, propE, mkE, mcE, mckE, lift2, lift1, liftC1, peek, toD, toDs, ixV, dctAt, ixL, ixT, give, Out.bind, bindS, OutS.then, finR, finV, addI, subI, cmpII, isaD, negI, intI, intB, lenV, lenLi, lenTu, tupL, tupT, lisL, lisT, PyData.isInt, PyData.isBool, PyData.isTuple, PyData.isList, PyData.isStr, iL, iT, callK, gCallK, pick, giZipS, seqK, truV, truD, PyData.truthy, sizeLine_eq, slLx, slTx, putV, keyD, isNoneV]) es_nil))) e4') hg2 hz) ?_
        have hset : (S'' ++ [Cell.lst (ts.map Tr.d)]).set M.length (.lst (ts.map Tr.d ++ [t.d])) = S'' ++ [.lst ((ts ++ [t]).map Tr.d)] := by
          rw [← hS''l, set_new]
          simp
        rw [hset]
        refine t_nx ⟨ts ++ [t], S'', k'', _, rfl, rfl, by rw [List.length_append, List.length_singleton]; omega, ?_, ?_, fS.trans ((fm_set p S _).trans f907), ?_, hk0'', ?_⟩
        · intro u hu
          rcases List.mem_append.mp hu with hu | hu
          · exact ht2 u hu
          · rw [List.mem_singleton.mp hu]
            exact ⟨d', rfl, g4⟩
        · have := r6.left (by rw [hS''l]; omega)
          refine this.mono ?_
          have e : (d' + 1 - 1) = d' := by omega
          rw [e]
          have : (((i + 1 : Nat) : Int)) * cost d' = i * cost d' + cost d' := by
            rw [show ((i + 1 : Nat) : Int) = (i : Int) + 1 by omega, Int.add_mul, Int.one_mul]
          omega
        · rw [List.getElem?_append_left (by omega)] at h6
          exact h6
        · rw [szs_app]
          simp only [Tr.szs]
          omega
      · refine t_nx ⟨ts, S, k', _, rfl, rfl, by omega, ht2, rS.mono ?_, fS, hk', hk0', hsz⟩
        have : (((i + 1 : Nat) : Int)) * cost (d' + 1 - 1) = i * cost (d' + 1 - 1) + cost (d' + 1 - 1) := by
          rw [show ((i + 1 : Nat) : Int) = (i : Int) + 1 by omega, Int.add_mul, Int.one_mul]
        omega
    · rintro ρ' M' ⟨ts, S, k', b, rfl, rfl, ht1, ht2, rS, fS, hk', hk0', hsz⟩
      have hlN : (List.map (fun k : Nat => Vl.d (.int (0 + (k : Nat)))) (List.range N)).length = N := by simp
      rw [hlN] at ht1 rS
      have hgood : ∀ t ∈ ts, Good (d - 1) t := fun t ht => by
        obtain ⟨d', h, g⟩ := ht2 t ht
        subst h
        exact GS.good _ g
      have hsort := (sortD_trs (D := d - 1) (by omega) (fun t ht => dep_good _ (hgood t ht)) (by omega : ts.length ≤ 1000)).1
      have hus : GS d (.nd s m (srt ts)) := by
        cases d with
        | zero =>
          have : ts = [] := by
            cases ts with
            | nil => rfl
            | cons t ts =>
              obtain ⟨d', h, _⟩ := ht2 t (by simp)
              omega
          subst this
          exact ⟨⟨hs, hm⟩, by simp [srt]⟩
        | succ d' =>
          refine ⟨⟨hs, hm⟩, by rw [srt_len]; omega, fun t ht => ?_, srt_asc ts⟩
          obtain ⟨d2, h, g⟩ := ht2 t (srt_mem.mp ht)
          have : d2 = d' := by omega
          subst this
          exact g
      generalize hu : srt ts = us at hsort hus
      have hsz3 : (Tr.nd s m us).sz = 1 + Tr.szs ts := by rw [Tr.sz, ← hu, szs_perm (srt_perm ts)]
      have hSl : S.length = M.length := fS.1
      refine q_ret (v := .d (Tr.nd s m us).d) (M1 := S ++ [.lst (ts.map Tr.d)]) ?_ ?_
      · rw [tr_d]
        refine e_tup (xs := [.d (.str s), .d (.int m), .d (.tuple (us.map Tr.d))]) (M1 := S ++ [.lst (ts.map Tr.d)]) (es_cons (M1 := S ++ [.lst (ts.map Tr.d)]) rfl (es_cons (M1 := S ++ [.lst (ts.map Tr.d)]) rfl (es_cons (M1 := S ++ [.lst (ts.map Tr.d)]) (e_blt1 (v := .d (.list (us.map Tr.d))) (M1 := S ++ [.lst (ts.map Tr.d)]) (e_blt1 (v := .ref M.length) (M1 := S ++ [.lst (ts.map Tr.d)]) rfl ?_) rfl) es_nil))) rfl (by simp [sizeLine_eq])
        rw [← hSl]
        simp only [Blt.ev, liftC1, lift1, peek, cell_new, hsort, give]
      · refine ⟨.nd s m us, S, k', fin_cut M S _ _ hSl, hus, rS.mono ?_, fS, hk', hk0', by rw [hsz3]; omega⟩
        have hNN : N = 0 ∨ N = 1 ∨ N = 2 := by omega
        rcases hsrc with ⟨rfl, h, _⟩ | ⟨h, _, _⟩
        · subst h
          simp [cost]
        · obtain ⟨d', rfl⟩ : ∃ d', d = d' + 1 := ⟨d - 1, by omega⟩
          have e : (d' + 1 - 1) = d' := by omega
          have hK' : 0 ≤ cost d' ∧ cost d' ≤ 45 := hK
          show c + 3 + (N : Int) * cost d' ≤ c + cost (d' + 1)
          rw [cost]
          rcases hNN with h | h | h <;> rw [h] <;> omega
end Law

namespace Law
open PySem PySem.Spec Ev
theorem t20 (x y : PyData) : L2.atI [x, y] 0 = some x := rfl
theorem t21 (x y : PyData) : L2.atI [x, y] 1 = some y := rfl
theorem t30 (x y z : PyData) : L2.atI [x, y, z] 0 = some x := rfl
theorem t31 (x y z : PyData) : L2.atI [x, y, z] 1 = some y := rfl
theorem t32 (x y z : PyData) : L2.atI [x, y, z] 2 = some z := rfl
theorem depT : ∀ kept : List (List Int), PyData.depthAll (kept.map T) ≤ 1
  | [] => by simp [PyData.depthAll]
  | w :: k => by
    have := depT k
    have h1 : (T w).depth = 1 := by simp [T, PyData.depth, dpI]
    simp only [List.map_cons, PyData.depthAll, h1]
    omega
/-- the lot of paths kept, as the program has it (a tuple), and membership -/
def K (ws : List (List Int)) : PyData := .tuple (ws.map T)
def hasL (ws : List (List Int)) (w : List Int) : Bool := (ws.map T).any fun y => PyData.eqv y (T w)
theorem inK (ws : List (List Int)) (w : List Int) : inD false (T w) (K ws) = some (.bool (hasL ws w)) := by
  have := depT ws
  simp only [inD, K]
  rw [if_pos (by omega)]
  simp [hasL]
theorem ninK (ws : List (List Int)) (w : List Int) : inD true (T w) (K ws) = some (.bool (!hasL ws w)) := by
  have := depT ws
  simp only [inD, K]
  rw [if_pos (by omega)]
  simp [hasL]
theorem gi_val {fn : Fn} {e : CE} {ρ : Rho} {M M1 : Sto} {xs : List PyData} (h : CE.ev fn e ρ M = .ok (.d (.list xs)) M1) : CI.ev fn (.val e) ρ M = .ok (.lst (.d (.list xs))) M1 := by
  show giVal (e.ev fn) ρ M = _
  simp only [giVal, h, Out.bind]
  rfl
/-! ### what is kept is of the same kind -/
theorem kepts_zip (has : List Int → Bool) : ∀ (ts : List Tr) (w : List Int) (j : Nat), keptTs has ts w j = ((ts.zipIdx j).filter fun p => has (w ++ [(p.2 : Int)])).map fun p => keptT has p.1 (w ++ [(p.2 : Int)])
  | [], w, j => by simp [keptTs]
  | t :: ts, w, j => by
    rw [keptTs, kepts_zip has ts w (j + 1), List.zipIdx_cons, List.filter_cons]
    by_cases h : has (w ++ [(j : Int)]) = true
    · rw [if_pos h, if_pos h, List.map_cons]
    · rw [if_neg h, if_neg h]
theorem kepts_len (has : List Int → Bool) (ts : List Tr) (w : List Int) : (keptTs has ts w 0).length ≤ ts.length := by
  rw [kepts_zip, List.length_map]
  refine Nat.le_trans (List.length_filter_le _ _) ?_
  rw [List.length_zipIdx]
  exact Nat.le_refl _
theorem kepts_mem {has : List Int → Bool} {ts : List Tr} {w : List Int} {u : Tr} (h : u ∈ keptTs has ts w 0) : ∃ t ∈ ts, ∃ w', u = keptT has t w' := by
  rw [kepts_zip] at h
  obtain ⟨⟨t, j⟩, hp, rfl⟩ := List.mem_map.mp h
  have := (List.mem_filter.mp hp).1
  have := List.mem_zipIdx this
  refine ⟨t, ?_, _, rfl⟩
  rw [this.2.2]
  exact List.getElem_mem _
theorem kept_gs (has : List Int → Bool) : ∀ (d : Nat) {t : Tr}, GS d t → ∀ w, GS d (keptT has t w) := by
  intro d
  induction d with
  | zero =>
    intro t h w
    cases t with
    | nd s m ts =>
      obtain ⟨h1, rfl⟩ := h
      rw [keptT]
      exact ⟨h1, by simp [keptTs, srt]⟩
  | succ d ih =>
    intro t h w
    cases t with
    | nd s m ts =>
      obtain ⟨h1, h2, h3, h4⟩ := h
      rw [keptT]
      refine ⟨h1, by rw [srt_len]; exact Nat.le_trans (kepts_len has ts w) h2, fun u hu => ?_, srt_asc _⟩
      obtain ⟨t, ht, w', rfl⟩ := kepts_mem (srt_mem.mp hu)
      exact ih (h3 t ht) w'
theorem GS.inv {d : Nat} {s : Str} {m : Int} {ts : List Tr} (h : GS d (.nd s m ts)) : Ok1 s m ∧ ts.length ≤ 5 ∧ (∀ t ∈ ts, ∃ d', d = d' + 1 ∧ GS d' t) ∧ Asc ts := by
  cases d with
  | zero =>
    obtain ⟨h1, rfl⟩ := h
    exact ⟨h1, by simp, by simp, List.Pairwise.nil⟩
  | succ d =>
    obtain ⟨h1, h2, h3, h4⟩ := h
    exact ⟨h1, h2, fun t ht => ⟨d, rfl, h3 t ht⟩, h4⟩
theorem GS.dep {d : Nat} {t : Tr} (h : GS d t) : t.d.depth ≤ 2 * d + 2 := dep_good d (GS.good d h)
/-! ### spans and paths of a tree -/
theorem s_spans_of (n : Nat) (M : Sto) {d : Nat} {t : Tr} (hg : Good d t) (hd : d ≤ 3) : Ev.run tb (n + 5) 1 [.d t.d] M = .ok (.d (.tuple ((t.sp []).map Sp.d))) M := by
  have e : _ = _ := s_within d t hg hd (n + 3) [] M (by omega) (by simp; omega)
  show Sat (fun o => o = _) _
  rw [runS (n + 4) 1 f1.F rfl]
  refine q_run rfl ?_
  refine q_ret (v := .d (.tuple ((t.sp []).map Sp.d))) (M1 := M) (e_blt1 (v := .d (.list ((t.sp []).map Sp.d))) (M1 := M) (e_call (xs := [.d t.d, .d (T [])]) rfl e) rfl) (fin_ret _ _)
theorem spans_map (l : List Sp) : (l.map Sp.d).map Vl.d = l.map fun s => Vl.d (Sp.d s) := by
  rw [List.map_map]
  rfl
theorem gi_tup {fn : Fn} {e : CE} {ρ : Rho} {M M1 : Sto} {xs : List PyData} (h : CE.ev fn e ρ M = .ok (.d (.tuple xs)) M1) : CI.ev fn (.val e) ρ M = .ok (.tup (.d (.tuple xs))) M1 := by
  show giVal (e.ev fn) ρ M = _
  simp only [giVal, h, Out.bind]
  rfl
theorem s_paths_of (n : Nat) (M : Sto) {d : Nat} {t : Tr} (hg : Good d t) (hd : d ≤ 3) : Ev.run tb (n + 6) 2 [.d t.d] M = .ok (.d (.list ((t.sp []).map fun s => T s.1))) M := by
  have hsz := sp_len d hg []
  have h6 : 6 ^ d ≤ 6 ^ 3 := Nat.pow_le_pow_right (by decide) hd
  have e := s_spans_of n M hg hd
  generalize t.sp [] = sps at *
  show Sat (fun o => o = _) _
  rw [runS (n + 5) 2 f2.F rfl]
  refine q_run rfl ?_
  refine q_ret (v := .d (.list (sps.map fun s : Sp => T s.1))) (M1 := M) ?_ (fin_ret M (.list (sps.map fun s : Sp => T s.1)))
  have wl := walks_tup (sps.map Sp.d) M
  rw [spans_map] at wl
  exact e_lcTA (src := .tup (.d (.tuple (sps.map Sp.d)))) (gi_tup (e_call (xs := [.d t.d]) rfl e)) wl (by rw [sizeLine_eq]; omega) (fun s => T s.1) (fun i s hs acc => ⟨_, rfl, rfl⟩)
/-! ### the calls below with their paths -/
def bel (w : List Int) (p : Tr × Nat) : PyData := .tuple [p.1.d, T (w ++ [(p.2 : Int)])]
theorem enu_trs (ts : List Tr) : enuW (ts.map Tr.d) = ts.zipIdx.map fun p => Vl.d (.tuple [.int (p.2 : Nat), p.1.d]) := by
  rw [enuW, List.zipIdx_map, List.map_map]
  rfl
theorem bel_map (w : List Int) (l : List (Tr × Nat)) : (l.map (bel w)).map Vl.d = l.map fun p => Vl.d (bel w p) := by
  rw [List.map_map]
  rfl
theorem zip_at {ts : List Tr} {i : Nat} {p : Tr × Nat} (h : ts.zipIdx[i]? = some p) : ts[i]? = some p.1 ∧ p.2 = i := by
  rw [List.getElem?_zipIdx] at h
  cases hp : ts[i]? with
  | none => rw [hp] at h; simp at h
  | some q =>
    rw [hp] at h
    simp at h
    subst h
    exact ⟨rfl, rfl⟩
theorem toDs_star (M : Sto) (w : List Int) (j : Nat) : toDs M (List.map Vl.d (w.map PyData.int) ++ [Vl.d (.int (j : Int))]) = some (w.map PyData.int ++ [.int (j : Int)], M) := toDs_app M _ _
theorem s_kept_tree (ws : List (List Int)) : ∀ (d : Nat) (t : Tr), GS d t → d ≤ 3 → ∀ (n : Nat) (w : List Int) (M : Sto), d ≤ n → w.length + d ≤ 50 → Sat (fun o => o = .ok (.d (keptT (hasL ws) t w).d) M) (Ev.run tb (n + 1) 3 [.d t.d, .d (T w), .d (K ws)] M) := by
  intro d
  induction d using Nat.strongRecOn with
  | ind d ih =>
    intro t hg hd3 n w M hn hw
    cases t with
    | nd s m ts =>
      obtain ⟨h1, h2, h3, h4⟩ := hg.inv
      rw [runS n 3 f3.F rfl]
      refine q_run rfl ?_
      rw [tr_d, keptT, tr_d]
      refine q_tgt (v := .d (.tuple [.str s, .int m, .tuple (ts.map Tr.d)])) (M1 := M) (ρ' := [some (.d (.tuple [.str s, .int m, .tuple (ts.map Tr.d)])), some (.d (T w)), some (.d (K ws)), some (.d (.str s)), some (.d (.int m)), some (.d (.tuple (ts.map Tr.d))), none, none, none, none, none]) rfl rfl ?_
      have hzl : ts.zipIdx.length < sizeLine := by rw [List.length_zipIdx, sizeLine_eq]; omega
      refine q_set (v := .d (.list (ts.zipIdx.map (bel w)))) (M1 := M) ?_ ?_
      · have wz := walks_enuT (ts.map Tr.d) M
        rw [enu_trs] at wz
        refine e_lcTA (src := .enu true (.d (.tuple (ts.map Tr.d)))) rfl wz hzl (bel w) ?_
        intro j p hp acc
        refine ⟨[some (.d (.tuple [.str s, .int m, .tuple (ts.map Tr.d)])), some (.d (T w)), some (.d (K ws)), some (.d (.str s)), some (.d (.int m)), some (.d (.tuple (ts.map Tr.d))), none, none, some (.d (.int (p.2 : Int))), some (.d p.1.d), none], rfl, ?_⟩
        have eT : PyData.tuple (List.map PyData.int w ++ [PyData.int (p.2 : Int)]) = T (w ++ [(p.2 : Int)]) := by simp [T]
        have e2 := toDs_app (M ++ [.lst acc]) (w.map PyData.int) (.int (p.2 : Int))
        have hz3 : w.length + 1 ≤ 16777216 := by omega
        simp [runF, evSs, CS.ev, CE.ev, CE.evT, CEs.ev, CI.ev, CO.evI, CO.evC, CT.ev, CTs.ev, CTs.len, CT.slots, CTs.slots, gStar, gsPar3, extendV, insertV, getV, dictV, pairsD, gDisp0, gsPars, setAll, lstAt, tgName, tgTup, tgCons, tgNil, evAnd, evOr, evAndT, evOrT, callE, gsSeq, gsNil, gsSet, gsTgt, gsPar, gsExp, gsRet, gsRetN, gsIf, gsPut, gBin, gUn, gVar, gCon, gB, gIf, gTru, gAndT, gOrT, gNotT, gAnd, gOr, gNot, gChain, gNil, gCons, gCall, gTup, gLst, gLstM, gDisp, gSl, gNoPart, gPart, gMeth, giVal, giRng1, giRng2, giZip, giEnu, srcOf, asInt, asBool, startR, COp.ev, BOp.ev, Blt.ev, Mth.ev, Mth.ty, leD_int, fldV, insAt, putS, gsFld, gProp, gMake, gMCall, gMCallK, propE, mkE, mcE, mckE, lift2, lift1, liftC1, peek, toD, toDs, ixV, dctAt, ixL, ixT, give, Out.bind, bindS, OutS.then, finR, finV, addI, subI, cmpII, isaD, negI, intI, intB, lenV, lenLi, lenTu, tupL, tupT, lisL, lisT, PyData.isInt, PyData.isBool, PyData.isTuple, PyData.isList, PyData.isStr, iL, iT, callK, gCallK, pick, giZipS, seqK, truV, truD, PyData.truthy, sizeLine_eq, slLx, slTx, putV, keyD, isNoneV, itT, e2, eT, hz3, bel, -List.map_append, -List.map_cons, -List.map_map]
      · have wl := walks_lst (ts.zipIdx.map (bel w)) M
        rw [bel_map] at wl
        have hkl := kepts_len (hasL ws) ts w
        have hgk : ∀ u ∈ keptTs (hasL ws) ts w 0, u.d.depth ≤ 2 * 3 + 2 := fun u hu => by
          obtain ⟨t, ht, w', rfl⟩ := kepts_mem hu
          obtain ⟨d', rfl, hg'⟩ := h3 t ht
          have := (kept_gs (hasL ws) d' hg' w').dep
          omega
        have hsort := (sortD_trs (D := 3) (by omega) hgk (by omega)).1
        have hlc : (ts.zipIdx.filter fun p => hasL ws (w ++ [(p.2 : Int)])).map (fun p => (keptT (hasL ws) p.1 (w ++ [(p.2 : Int)])).d) = (keptTs (hasL ws) ts w 0).map Tr.d := by
          rw [kepts_zip, List.map_map]
          rfl
        refine q_ret (v := .d (.tuple [.str s, .int m, .tuple ((srt (keptTs (hasL ws) ts w 0)).map Tr.d)])) (M1 := M) ?_ (fin_ret _ _)
        refine e_tup (xs := [.d (.str s), .d (.int m), .d (.tuple ((srt (keptTs (hasL ws) ts w 0)).map Tr.d))]) (M1 := M) (es_cons (M1 := M) rfl (es_cons (M1 := M) rfl (es_cons (M1 := M) (e_blt1 (v := .d (.list ((srt (keptTs (hasL ws) ts w 0)).map Tr.d))) (M1 := M) (e_blt1 (v := .d (.list ((keptTs (hasL ws) ts w 0).map Tr.d))) (M1 := M) ?_ ?_) rfl) es_nil))) rfl (by simp [sizeLine_eq])
        · rw [← hlc]
          refine e_lcT (src := .lst (.d (.list (ts.zipIdx.map (bel w))))) rfl wl hzl (fun p => hasL ws (w ++ [(p.2 : Int)])) (fun p => (keptT (hasL ws) p.1 (w ++ [(p.2 : Int)])).d) ?_
          intro j p hp acc
          obtain ⟨hpt, hpj⟩ := zip_at hp
          obtain ⟨d', rfl, hg'⟩ := h3 p.1 (List.mem_of_getElem? hpt)
          obtain ⟨n', rfl⟩ : ∃ n', n = n' + 1 := ⟨n - 1, by omega⟩
          have e : _ = _ := ih d' (by omega) p.1 hg' (by omega) n' (w ++ [(p.2 : Int)]) (M ++ [.lst acc]) (by omega) (by simp; omega)
          refine ⟨_, rfl, ?_, fun _ => e_call (xs := [.d p.1.d, .d (T (w ++ [(p.2 : Int)])), .d (K ws)]) rfl e⟩
          rw [evC_some]
          refine eT_cmp (x := .d (T (w ++ [(p.2 : Int)]))) (y := .d (K ws)) (M1 := M ++ [.lst acc]) (M2 := M ++ [.lst acc]) rfl rfl ?_
          simp only [COp.ev, inV, dctAt, lift2, peek, inK, give]
        · simp only [Blt.ev, liftC1, lift1, peek, hsort, give]
/-! ### lost pieces -/
theorem lostPs_app (has : List Int → Bool) : ∀ (a b : List Tr) (w : List Int) (j : Nat), lostPs has (a ++ b) w j = lostPs has a w j ++ lostPs has b w (j + a.length)
  | [], b, w, j => by simp [lostPs]
  | t :: a, b, w, j => by
    rw [List.cons_append, lostPs, lostPs, lostPs_app has a b w (j + 1), List.append_assoc, List.length_cons]
    congr 3
    omega
theorem lostPs_take (has : List Int → Bool) {ts : List Tr} {i : Nat} {t : Tr} (h : ts[i]? = some t) (w : List Int) : lostPs has (ts.take (i + 1)) w 0 = lostPs has (ts.take i) w 0 ++ lostP has t (w ++ [(i : Int)]) := by
  have hi := (List.getElem?_eq_some_iff.mp h).1
  rw [List.take_succ, h, lostPs_app]
  simp [lostPs, Nat.min_eq_left (Nat.le_of_lt hi)]
theorem here_len (has : List Int → Bool) (ts : List Tr) (w : List Int) : (lostHere has ts w).length ≤ 1 := by
  unfold lostHere
  split <;> simp
mutual
theorem lost_len (has : List Int → Bool) : ∀ (t : Tr) (w : List Int), (lostP has t w).length ≤ t.sz
  | .nd s m ts, w => by
    have h1 := here_len has ts w
    have h2 := losts_len has ts w 0
    rw [lostP, List.length_append, Tr.sz]
    omega
theorem losts_len (has : List Int → Bool) : ∀ (ts : List Tr) (w : List Int) (j : Nat), (lostPs has ts w j).length ≤ Tr.szs ts
  | [], w, j => by simp [lostPs, Tr.szs]
  | t :: ts, w, j => by
    have h1 := lost_len has t (w ++ [(j : Int)])
    have h2 := losts_len has ts w (j + 1)
    rw [lostPs, List.length_append, Tr.szs]
    omega
end
/-- a piece is well made -/
def PcOk : Pc → Prop
  | .top t => GS 3 t
  | .lost ts => ts ≠ [] ∧ ts.length ≤ 5 ∧ (∀ t ∈ ts, GS 3 t) ∧ Asc ts
theorem GS.up {d : Nat} : ∀ {t : Tr}, GS d t → GS (d + 1) t := by
  induction d with
  | zero =>
    intro t h
    cases t with
    | nd s m ts =>
      obtain ⟨h1, rfl⟩ := h
      exact ⟨h1, by simp, by simp, List.Pairwise.nil⟩
  | succ d ih =>
    intro t h
    cases t with
    | nd s m ts =>
      obtain ⟨h1, h2, h3, h4⟩ := h
      exact ⟨h1, h2, fun t ht => ih (h3 t ht), h4⟩
theorem GS.to3 {d : Nat} {t : Tr} (h : GS d t) (hd : d ≤ 3) : GS 3 t := by
  have : d = 0 ∨ d = 1 ∨ d = 2 ∨ d = 3 := by omega
  rcases this with rfl | rfl | rfl | rfl
  · exact h.up.up.up
  · exact h.up.up
  · exact h.up
  · exact h
theorem here_ok (has : List Int → Bool) {d : Nat} {s : Str} {m : Int} {ts : List Tr} (hg : GS d (.nd s m ts)) (hd : d ≤ 3) (w : List Int) : ∀ p ∈ lostHere has ts w, PcOk p := by
  intro p hp
  unfold lostHere at hp
  split at hp
  · rename_i hc
    simp only [List.mem_singleton] at hp
    subst hp
    simp only [Bool.and_eq_true, Bool.not_eq_true'] at hc
    obtain ⟨h1, h2, h3, h4⟩ := hg.inv
    refine ⟨fun e => ?_, by rw [srt_len]; exact Nat.le_trans (kepts_len has ts w) h2, fun u hu => ?_, srt_asc _⟩
    · have e2 := congrArg List.length e
      rw [srt_len] at e2
      have : keptTs has ts w 0 = [] := List.length_eq_zero_iff.mp e2
      rw [this] at hc
      simp at hc
    · obtain ⟨t, ht, w', rfl⟩ := kepts_mem (srt_mem.mp hu)
      obtain ⟨d', rfl, hg'⟩ := h3 t ht
      exact (kept_gs has d' hg' w').to3 (by omega)
  · simp at hp
theorem losts_mem {has : List Int → Bool} : ∀ {ts : List Tr} {w : List Int} {j : Nat} {p : Pc}, p ∈ lostPs has ts w j → ∃ t ∈ ts, ∃ w', p ∈ lostP has t w'
  | [], w, j, p, h => by simp [lostPs] at h
  | t :: ts, w, j, p, h => by
    rw [lostPs] at h
    rcases List.mem_append.mp h with h | h
    · exact ⟨t, by simp, _, h⟩
    · obtain ⟨u, hu, w', h'⟩ := losts_mem h
      exact ⟨u, by simp [hu], w', h'⟩
theorem lost_ok (has : List Int → Bool) : ∀ (d : Nat) {t : Tr}, GS d t → d ≤ 3 → ∀ w, ∀ p ∈ lostP has t w, PcOk p := by
  intro d
  induction d using Nat.strongRecOn with
  | ind d ih =>
    intro t hg hd w p hp
    cases t with
    | nd s m ts =>
      obtain ⟨h1, h2, h3, h4⟩ := hg.inv
      rw [lostP] at hp
      rcases List.mem_append.mp hp with h | h
      · exact here_ok has hg hd w p h
      · obtain ⟨t, ht, w', h'⟩ := losts_mem h
        obtain ⟨d', rfl, hg'⟩ := h3 t ht
        exact ih d' (by omega) hg' (by omega) w' p h'
theorem pc_dep {p : Pc} (h : PcOk p) : p.d.depth ≤ 60 := by
  cases p with
  | top t =>
    have := GS.dep h
    simp only [Pc.d, PyData.depth, PyData.depthAll]
    omega
  | lost ts =>
    obtain ⟨_, _, h, _⟩ := h
    have := dep_all (K := 8) (xs := ts.map Tr.d) fun x hx => by
      obtain ⟨t, ht, rfl⟩ := List.mem_map.mp hx
      exact (h t ht).dep
    simp only [Pc.d, PyData.depth, PyData.depthAll]
    omega
theorem alike_ds (ts us : List Tr) : PySem.W.alike (.tuple (ts.map Tr.d)) (.tuple (us.map Tr.d)) = true := by
  rw [← ds_map, ← ds_map]
  simp only [PySem.W.alike]
  exact alike_trs ts us
theorem wk2 (a b : Str) (x y : PyData) (h : a = b → PySem.W.alike x y = true) : wkB (.tuple [.str a, x]) (.tuple [.str b, y]) = true := by
  show (PySem.W.alike (.str a) (.str b) && (!PyData.eqv (.str a) (.str b) || (PySem.W.alike x y && (!PyData.eqv x y || true)))) = true
  have e0 : PySem.W.alike (.str a) (.str b) = true := by simp [PySem.W.alike]
  rw [e0]
  by_cases hab : a = b
  · rw [h hab, Bool.or_true, Bool.and_true, Bool.or_true, Bool.and_true]
  · have e1 : PyData.eqv (.str a) (.str b) = false := by simp [PyData.eqv, hab]
    rw [e1]
    rfl
theorem tl_str : ("top" : Str) ≠ "lost" := fun h => tl_ne (by rw [h])
theorem wk_pc (a b : Pc) : wkB a.d b.d = true := by
  cases a with
  | top t =>
    cases b with
    | top u => exact wk2 _ _ _ _ fun _ => alike_tr t u
    | lost us => exact wk2 _ _ _ _ fun h => absurd h tl_str
  | lost ts =>
    cases b with
    | top u => exact wk2 _ _ _ _ fun h => absurd h.symm tl_str
    | lost us => exact wk2 _ _ _ _ fun _ => alike_ds ts us
theorem sortD_pcs {l : List Pc} (h : ∀ p ∈ l, PcOk p) (hl : l.length ≤ 1000) : sortD (.list (l.map Pc.d)) = some (.list ((srtP l).map Pc.d)) := by
  have c1 : sortB (l.map Pc.d) = true := by
    refine Bool.or_eq_true_iff.mpr (.inr (List.all_eq_true.mpr fun x hx => List.all_eq_true.mpr fun y hy => ?_))
    obtain ⟨t, _, rfl⟩ := List.mem_map.mp hx
    obtain ⟨u, _, rfl⟩ := List.mem_map.mp hy
    exact wk_pc t u
  have c2 : (l.map Pc.d).length ≤ sizeLine := by rw [List.length_map, sizeLine_eq]; omega
  have c3 : ((l.map Pc.d).all fun d => decide (d.depth ≤ 60)) = true := by
    refine List.all_eq_true.mpr fun x hx => ?_
    obtain ⟨t, ht, rfl⟩ := List.mem_map.mp hx
    exact decide_eq_true (pc_dep (h t ht))
  simp only [sortD]
  rw [if_pos ⟨c1, c2, c3⟩, srtP_d]
theorem neE (l : List PyData) : neD (.list l) (.list []) = some (.bool (!l.isEmpty)) := by
  rw [ne_ok _ _ (by simp [PyData.depth, PyData.depthAll])]
  cases l <;> simp [PyData.eqv, PyData.eqvAll]
end Law

namespace Law
open PySem PySem.Spec Ev
theorem gi_enuT {fn : Fn} {e : CE} {p1 p2 : Pos} {ρ : Rho} {M M1 : Sto} {xs : List PyData} (h : CE.ev fn e ρ M = .ok (.d (.tuple xs)) M1) : CI.ev fn (.enu e p1 p2) ρ M = .ok (.enu true (.d (.tuple xs))) M1 := by
  show giEnu (gCons (e.ev fn) gNil) ρ M = _
  simp only [giEnu, gCons, gNil, h, Out.bind]
  rfl
theorem s_lost (ws : List (List Int)) : ∀ (d : Nat) (t : Tr), GS d t → d ≤ 3 → ∀ (n : Nat) (w : List Int) (M : Sto), d ≤ n → w.length + d ≤ 50 → Sat (fun o => o = .ok (.d (.list ((lostP (hasL ws) t w).map Pc.d))) M) (Ev.run tb (n + 1) 4 [.d t.d, .d (T w), .d (K ws)] M) := by
  intro d
  induction d using Nat.strongRecOn with
  | ind d ih =>
    intro t hg hd3 n w M hn hw
    cases t with
    | nd s m ts =>
      obtain ⟨h1, h2, h3, h4⟩ := hg.inv
      have hlen : (lostP (hasL ws) (.nd s m ts) w).length ≤ 216 := by
        have a1 := lost_len (hasL ws) (.nd s m ts) w
        rw [← sp_sz _ w] at a1
        have a2 := sp_len d (GS.good d hg) w
        have a3 : 6 ^ d ≤ 6 ^ 3 := Nat.pow_le_pow_right (by decide) hd3
        omega
      rw [lostP] at hlen ⊢
      rw [runS n 4 f4.F rfl]
      refine q_run rfl ?_
      rw [tr_d]
      have hzl : ts.zipIdx.length < sizeLine := by rw [List.length_zipIdx, sizeLine_eq]; omega
      have wl := fun M => walks_lst (ts.zipIdx.map (bel w)) M
      simp only [bel_map] at wl
      have hlc : (ts.zipIdx.filter fun p => hasL ws (w ++ [(p.2 : Int)])).map (fun p => (keptT (hasL ws) p.1 (w ++ [(p.2 : Int)])).d) = (keptTs (hasL ws) ts w 0).map Tr.d := by
        rw [kepts_zip, List.map_map]
        rfl
      have hkl := kepts_len (hasL ws) ts w
      have hgk : ∀ u ∈ keptTs (hasL ws) ts w 0, u.d.depth ≤ 2 * 3 + 2 := fun u hu => by
        obtain ⟨t, ht, w', rfl⟩ := kepts_mem hu
        obtain ⟨d', rfl, hg'⟩ := h3 t ht
        have := (kept_gs (hasL ws) d' hg' w').dep
        omega
      have hsort := (sortD_trs (D := 3) (by omega) hgk (by omega)).1
      refine q_set (v := .d (.list (ts.zipIdx.map (bel w)))) (M1 := M) ?_ ?_
      · have wz := walks_enuT (ts.map Tr.d) M
        rw [enu_trs] at wz
        refine e_lcTA (src := .enu true (.d (.tuple (ts.map Tr.d)))) (gi_enuT (by simp [runF, evSs, CS.ev, CE.ev, CE.evT, CEs.ev, CI.ev, CO.evI, CO.evC, CT.ev, CTs.ev, CTs.len, CT.slots, CTs.slots, gStar, gsPar3, extendV, insertV, getV, dictV, pairsD, gDisp0, gsPars, setAll, lstAt, tgName, tgTup, tgCons, tgNil, evAnd, evOr, evAndT, evOrT, callE, gsSeq, gsNil, gsSet, gsTgt, gsPar, gsExp, gsRet, gsRetN, gsIf, gsPut, gBin, gUn, gVar, gCon, gB, gIf, gTru, gAndT, gOrT, gNotT, gAnd, gOr, gNot, gChain, gNil, gCons, gCall, gTup, gLst, gLstM, gDisp, gSl, gNoPart, gPart, gMeth, giVal, giRng1, giRng2, giZip, giEnu, srcOf, asInt, asBool, startR, COp.ev, BOp.ev, Blt.ev, Mth.ev, Mth.ty, leD_int, fldV, insAt, putS, gsFld, gProp, gMake, gMCall, gMCallK, propE, mkE, mcE, mckE, lift2, lift1, liftC1, peek, toD, toDs, ixV, dctAt, ixL, ixT, give, Out.bind, bindS, OutS.then, finR, finV, addI, subI, cmpII, isaD, negI, intI, intB, lenV, lenLi, lenTu, tupL, tupT, lisL, lisT, PyData.isInt, PyData.isBool, PyData.isTuple, PyData.isList, PyData.isStr, iL, iT, callK, gCallK, pick, giZipS, seqK, truV, truD, PyData.truthy, sizeLine_eq, slLx, slTx, putV, keyD, isNoneV, t32])) wz hzl (bel w) ?_
        intro j p hp acc
        refine ⟨[some (.d (.tuple [.str s, .int m, .tuple (ts.map Tr.d)])), some (.d (T w)), some (.d (K ws)), some (.d p.1.d), none, none, none, none, none, some (.d (.int (p.2 : Int)))], rfl, ?_⟩
        have eT : PyData.tuple (List.map PyData.int w ++ [PyData.int (p.2 : Int)]) = T (w ++ [(p.2 : Int)]) := by simp [T]
        have e2 := toDs_app (M ++ [.lst acc]) (w.map PyData.int) (.int (p.2 : Int))
        have hz3 : w.length + 1 ≤ 16777216 := by omega
        simp [runF, evSs, CS.ev, CE.ev, CE.evT, CEs.ev, CI.ev, CO.evI, CO.evC, CT.ev, CTs.ev, CTs.len, CT.slots, CTs.slots, gStar, gsPar3, extendV, insertV, getV, dictV, pairsD, gDisp0, gsPars, setAll, lstAt, tgName, tgTup, tgCons, tgNil, evAnd, evOr, evAndT, evOrT, callE, gsSeq, gsNil, gsSet, gsTgt, gsPar, gsExp, gsRet, gsRetN, gsIf, gsPut, gBin, gUn, gVar, gCon, gB, gIf, gTru, gAndT, gOrT, gNotT, gAnd, gOr, gNot, gChain, gNil, gCons, gCall, gTup, gLst, gLstM, gDisp, gSl, gNoPart, gPart, gMeth, giVal, giRng1, giRng2, giZip, giEnu, srcOf, asInt, asBool, startR, COp.ev, BOp.ev, Blt.ev, Mth.ev, Mth.ty, leD_int, fldV, insAt, putS, gsFld, gProp, gMake, gMCall, gMCallK, propE, mkE, mcE, mckE, lift2, lift1, liftC1, peek, toD, toDs, ixV, dctAt, ixL, ixT, give, Out.bind, bindS, OutS.then, finR, finV, addI, subI, cmpII, isaD, negI, intI, intB, lenV, lenLi, lenTu, tupL, tupT, lisL, lisT, PyData.isInt, PyData.isBool, PyData.isTuple, PyData.isList, PyData.isStr, iL, iT, callK, gCallK, pick, giZipS, seqK, truV, truD, PyData.truthy, sizeLine_eq, slLx, slTx, putV, keyD, isNoneV, itT, e2, eT, hz3, bel, -List.map_append, -List.map_cons, -List.map_map]
      refine q_set (v := .d (.list ((keptTs (hasL ws) ts w 0).map Tr.d))) (M1 := M) ?_ ?_
      · rw [← hlc]
        refine e_lcT (src := .lst (.d (.list (ts.zipIdx.map (bel w))))) rfl (wl M) hzl (fun p => hasL ws (w ++ [(p.2 : Int)])) (fun p => (keptT (hasL ws) p.1 (w ++ [(p.2 : Int)])).d) ?_
        intro j p hp acc
        obtain ⟨hpt, hpj⟩ := zip_at hp
        obtain ⟨d', rfl, hg'⟩ := h3 p.1 (List.mem_of_getElem? hpt)
        obtain ⟨n', rfl⟩ : ∃ n', n = n' + 1 := ⟨n - 1, by omega⟩
        have e : _ = _ := s_kept_tree ws d' p.1 hg' (by omega) n' (w ++ [(p.2 : Int)]) (M ++ [.lst acc]) (by omega) (by simp; omega)
        refine ⟨_, rfl, ?_, fun _ => e_call (xs := [.d p.1.d, .d (T (w ++ [(p.2 : Int)])), .d (K ws)]) rfl e⟩
        rw [evC_some]
        refine eT_cmp (x := .d (T (w ++ [(p.2 : Int)]))) (y := .d (K ws)) (M1 := M ++ [.lst acc]) (M2 := M ++ [.lst acc]) rfl rfl ?_
        simp only [COp.ev, inV, dctAt, lift2, peek, inK, give]
      show Sat _ (evSs _ _ [some (.d (.tuple [.str s, .int m, .tuple (ts.map Tr.d)])), some (.d (T w)), some (.d (K ws)), none, some (.d (.list (ts.zipIdx.map (bel w)))), none, some (.d (.list ((keptTs (hasL ws) ts w 0).map Tr.d))), none, none, none] _)
      refine q_set (v := .ref M.length) (M1 := M ++ [.lst ((lostHere (hasL ws) ts w).map Pc.d)]) ?_ ?_
      · have hin := ninK ws w
        have hn2 := neE ((keptTs (hasL ws) ts w 0).map Tr.d)
        have hem : ((keptTs (hasL ws) ts w 0).map Tr.d).isEmpty = (keptTs (hasL ws) ts w 0).isEmpty := by cases keptTs (hasL ws) ts w 0 <;> rfl
        rw [hem] at hn2
        generalize hks : keptTs (hasL ws) ts w 0 = ks at *
        refine e_if (k := (!hasL ws w && !ks.isEmpty)) (M1 := M) ?_ ?_
        · cases hb : hasL ws w <;> rw [hb] at hin <;> simp [runF, evSs, CS.ev, CE.ev, CE.evT, CEs.ev, CI.ev, CO.evI, CO.evC, CT.ev, CTs.ev, CTs.len, CT.slots, CTs.slots, gStar, gsPar3, extendV, insertV, getV, dictV, pairsD, gDisp0, gsPars, setAll, lstAt, tgName, tgTup, tgCons, tgNil, evAnd, evOr, evAndT, evOrT, callE, gsSeq, gsNil, gsSet, gsTgt, gsPar, gsExp, gsRet, gsRetN, gsIf, gsPut, gBin, gUn, gVar, gCon, gB, gIf, gTru, gAndT, gOrT, gNotT, gAnd, gOr, gNot, gChain, gNil, gCons, gCall, gTup, gLst, gLstM, gDisp, gSl, gNoPart, gPart, gMeth, giVal, giRng1, giRng2, giZip, giEnu, srcOf, asInt, asBool, startR, COp.ev, BOp.ev, Blt.ev, Mth.ev, Mth.ty, leD_int, fldV, insAt, putS, gsFld, gProp, gMake, gMCall, gMCallK, propE, mkE, mcE, mckE, lift2, lift1, liftC1, peek, toD, toDs, ixV, dctAt, ixL, ixT, give, Out.bind, bindS, OutS.then, finR, finV, addI, subI, cmpII, isaD, negI, intI, intB, lenV, lenLi, lenTu, tupL, tupT, lisL, lisT, PyData.isInt, PyData.isBool, PyData.isTuple, PyData.isList, PyData.isStr, iL, iT, callK, gCallK, pick, giZipS, seqK, truV, truD, PyData.truthy, sizeLine_eq, slLx, slTx, putV, keyD, isNoneV, inV, hin, hn2]
        · by_cases hc : (!hasL ws w && !ks.isEmpty) = true
          · have hh : lostHere (hasL ws) ts w = [.lost (srt ks)] := by
              unfold lostHere
              rw [hks, if_pos hc]
            rw [hh, if_pos hc]
            simp [runF, evSs, CS.ev, CE.ev, CE.evT, CEs.ev, CI.ev, CO.evI, CO.evC, CT.ev, CTs.ev, CTs.len, CT.slots, CTs.slots, gStar, gsPar3, extendV, insertV, getV, dictV, pairsD, gDisp0, gsPars, setAll, lstAt, tgName, tgTup, tgCons, tgNil, evAnd, evOr, evAndT, evOrT, callE, gsSeq, gsNil, gsSet, gsTgt, gsPar, gsExp, gsRet, gsRetN, gsIf, gsPut, gBin, gUn, gVar, gCon, gB, gIf, gTru, gAndT, gOrT, gNotT, gAnd, gOr, gNot, gChain, gNil, gCons, gCall, gTup, gLst, gLstM, gDisp, gSl, gNoPart, gPart, gMeth, giVal, giRng1, giRng2, giZip, giEnu, srcOf, asInt, asBool, startR, COp.ev, BOp.ev, Blt.ev, Mth.ev, Mth.ty, leD_int, fldV, insAt, putS, gsFld, gProp, gMake, gMCall, gMCallK, propE, mkE, mcE, mckE, lift2, lift1, liftC1, peek, toD, toDs, ixV, dctAt, ixL, ixT, give, Out.bind, bindS, OutS.then, finR, finV, addI, subI, cmpII, isaD, negI, intI, intB, lenV, lenLi, lenTu, tupL, tupT, lisL, lisT, PyData.isInt, PyData.isBool, PyData.isTuple, PyData.isList, PyData.isStr, iL, iT, callK, gCallK, pick, giZipS, seqK, truV, truD, PyData.truthy, sizeLine_eq, slLx, slTx, putV, keyD, isNoneV, hsort, Pc.d]
          · have hh : lostHere (hasL ws) ts w = [] := by
              unfold lostHere
              rw [hks, if_neg hc]
            rw [hh, if_neg hc]
            rfl
      refine q_for (src := .lst (.d (.list (ts.zipIdx.map (bel w))))) (M1 := M ++ [.lst ((lostHere (hasL ws) ts w).map Pc.d)]) rfl (wl _)
        (fun i ρ M' => ∃ a b c e, ρ = [some (.d (.tuple [.str s, .int m, .tuple (ts.map Tr.d)])), some (.d (T w)), some (.d (K ws)), a, some (.d (.list (ts.zipIdx.map (bel w)))), b, some (.d (.list ((keptTs (hasL ws) ts w 0).map Tr.d))), some (.ref M.length), c, e] ∧ M' = M ++ [.lst ((lostHere (hasL ws) ts w ++ lostPs (hasL ws) (ts.take i) w 0).map Pc.d)]) ⟨none, none, none, none, rfl, by simp [lostPs]⟩ ?_ ?_
      · rintro i x ρ M' hx ⟨a, b, c, e, rfl, rfl⟩
        rw [List.getElem?_map] at hx
        cases hp : ts.zipIdx[i]? with
        | none => rw [hp] at hx; simp at hx
        | some p =>
          rw [hp] at hx
          simp at hx
          subst hx
          obtain ⟨hpt, hpj⟩ := zip_at hp
          obtain ⟨u, j⟩ := p
          simp only at hpt hpj
          subst hpj
          refine ⟨_, rfl, ?_⟩
          obtain ⟨d', rfl, hg'⟩ := h3 u (List.mem_of_getElem? hpt)
          obtain ⟨n', rfl⟩ : ∃ n', n = n' + 1 := ⟨n - 1, by omega⟩
          have hst := lostPs_take (hasL ws) hpt w
          have hl : (lostHere (hasL ws) ts w).length + ((lostPs (hasL ws) (ts.take j) w 0).length + (lostP (hasL ws) u (w ++ [(j : Int)])).length) ≤ 216 := by
            rw [← List.length_append, ← hst]
            refine Nat.le_trans ?_ hlen
            rw [List.length_append]
            refine Nat.add_le_add_left ?_ _
            conv => rhs; rw [← List.take_append_drop (j + 1) ts, lostPs_app, List.length_append]
            omega
          have e : _ = _ := ih d' (by omega) u hg' (by omega) n' (w ++ [(j : Int)]) (M ++ [.lst ((lostHere (hasL ws) ts w ++ lostPs (hasL ws) (ts.take j) w 0).map Pc.d)]) (by omega) (by simp; omega)
          refine q_exp (e_extend (n := M.length) (y := .d (.list ((lostP (hasL ws) u (w ++ [(j : Int)])).map Pc.d))) (z := .list ((lostP (hasL ws) u (w ++ [(j : Int)])).map Pc.d)) (ds := (lostP (hasL ws) u (w ++ [(j : Int)])).map Pc.d) (xs := (lostHere (hasL ws) ts w ++ lostPs (hasL ws) (ts.take j) w 0).map Pc.d) (xs2 := (lostHere (hasL ws) ts w ++ lostPs (hasL ws) (ts.take j) w 0).map Pc.d) (M1 := M ++ [.lst ((lostHere (hasL ws) ts w ++ lostPs (hasL ws) (ts.take j) w 0).map Pc.d)]) (M2 := M ++ [.lst ((lostHere (hasL ws) ts w ++ lostPs (hasL ws) (ts.take j) w 0).map Pc.d)]) rfl (cell_new _ _) (e_call (xs := [.d u.d, .d (T (w ++ [(j : Int)])), .d (K ws)]) rfl e) rfl rfl (cell_new _ _) ?_) ?_
          · rw [List.length_map, List.length_map, List.length_append, sizeLine_eq]
            omega
          · rw [set_new, ← List.map_append, List.append_assoc, ← hst]
            exact t_nx ⟨_, _, _, _, rfl, rfl⟩
      · rintro ρ' M' ⟨a, b, c, e, rfl, rfl⟩
        refine q_ret rfl ?_
        have hl : (List.map (fun p => Vl.d (bel w p)) ts.zipIdx).length = ts.length := by rw [List.length_map, List.length_zipIdx]
        rw [hl, List.take_length]
        show finR false M.length _ = _
        simp [finR, finV]
/-! ### the raw sight -/
theorem raw_ok (has : List Int → Bool) {d : Nat} {t : Tr} (hg : GS d t) (hd : d ≤ 3) (w : List Int) : ∀ p ∈ topOf has t w ++ lostP has t w, PcOk p := by
  intro p hp
  rcases List.mem_append.mp hp with h | h
  · unfold topOf at h
    split at h
    · simp only [List.mem_singleton] at h
      subst h
      exact (kept_gs has d hg w).to3 hd
    · simp at h
  · exact lost_ok has d hg hd w p h
theorem s_raw (ws : List (List Int)) {d : Nat} {t : Tr} (hg : GS d t) (hd : d ≤ 3) (n : Nat) (M : Sto) : Ev.run tb (n + 5) 5 [.d t.d, .d (K ws)] M = .ok (.d (.tuple ((rawS (hasL ws) t).map Pc.d))) M := by
  have hlen : (lostP (hasL ws) t []).length ≤ 216 := by
    have a1 := lost_len (hasL ws) t []
    rw [← sp_sz _ []] at a1
    have a2 := sp_len d (GS.good d hg) []
    have a3 : 6 ^ d ≤ 6 ^ 3 := Nat.pow_le_pow_right (by decide) hd
    omega
  have e1 : _ = _ := s_kept_tree ws d t hg hd (n + 3) [] M (by omega) (by simp; omega)
  have e2 : _ = _ := s_lost ws d t hg hd (n + 3) [] M (by omega) (by simp; omega)
  have hok := raw_ok (hasL ws) hg hd []
  have htl : (topOf (hasL ws) t []).length ≤ 1 := by unfold topOf; split <;> simp
  have hsort := sortD_pcs hok (by rw [List.length_append]; omega)
  have hin := inK ws []
  show Sat (fun o => o = _) _
  rw [runS (n + 4) 5 f5.F rfl]
  refine q_run rfl ?_
  refine q_set (v := .d (.list ((topOf (hasL ws) t []).map Pc.d))) (M1 := M) ?_ ?_
  · refine e_if (k := hasL ws []) (M1 := M) ?_ ?_
    · refine eT_cmp (x := .d (T [])) (y := .d (K ws)) (M1 := M) (M2 := M) rfl rfl ?_
      simp only [COp.ev, inV, dctAt, lift2, peek, hin, give]
    · by_cases hc : hasL ws [] = true
      · have hh : topOf (hasL ws) t [] = [.top (keptT (hasL ws) t [])] := by unfold topOf; rw [if_pos hc]
        rw [hh, if_pos hc]
        refine e_lst (xs := [.d (Pc.top (keptT (hasL ws) t [])).d]) (M1 := M) (es_cons (M1 := M) ?_ es_nil) rfl (by simp [sizeLine_eq])
        refine e_tup (xs := [.d (.str "top"), .d (keptT (hasL ws) t []).d]) (M1 := M) (es_cons (M1 := M) rfl (es_cons (M1 := M) ?_ es_nil)) rfl (by simp [sizeLine_eq])
        exact e_call (xs := [.d t.d, .d (T []), .d (K ws)]) rfl e1
      · have hh : topOf (hasL ws) t [] = [] := by unfold topOf; rw [if_neg hc]
        rw [hh, if_neg hc]
        rfl
  · refine q_ret (v := .d (.tuple ((rawS (hasL ws) t).map Pc.d))) (M1 := M) ?_ (fin_ret _ _)
    refine e_blt1 (v := .d (.list ((rawS (hasL ws) t).map Pc.d))) (M1 := M) (e_blt1 (v := .d (.list ((topOf (hasL ws) t [] ++ lostP (hasL ws) t []).map Pc.d))) (M1 := M) (e_bin (x := .d (.list ((topOf (hasL ws) t []).map Pc.d))) (y := .d (.list ((lostP (hasL ws) t []).map Pc.d))) (M1 := M) (M2 := M) rfl (e_call (xs := [.d t.d, .d (T []), .d (K ws)]) rfl e2) ?_) ?_) rfl
    · have hz : ((topOf (hasL ws) t []).map Pc.d).length + ((lostP (hasL ws) t []).map Pc.d).length ≤ 16777216 := by rw [List.length_map, List.length_map]; omega
      simp only [lift2, peek, BOp.ev, addD, sizeLine_eq, if_pos hz, give, List.map_append]
    · simp only [Blt.ev, liftC1, lift1, peek, hsort, give]
      rfl
end Law

namespace Law
open PySem PySem.Spec Ev
/-! ### the law's own look -/
def Lw (ws : List (List Int)) : PyData := .list (ws.map T)
theorem inLw (ws : List (List Int)) (w : List Int) : inD false (T w) (Lw ws) = some (.bool (hasL ws w)) := by
  have := depT ws
  simp only [inD, Lw]
  rw [if_pos (by omega)]
  simp [hasL]
theorem c2a (M : Sto) (a b : Cell) : (M ++ [a, b])[M.length]? = some a := by simp
theorem c2b (M : Sto) (a b : Cell) : (M ++ [a, b])[M.length + 1]? = some b := by simp
theorem s2a (M : Sto) (a b x : Cell) : (M ++ [a, b]).set M.length x = M ++ [x, b] := by simp
theorem s2b (M : Sto) (a b x : Cell) : (M ++ [a, b]).set (M.length + 1) x = M ++ [a, x] := by simp
theorem seenPs_app (has : List Int → Bool) : ∀ (a b : List Tr) (w : List Int) (j : Nat), seenPs has (a ++ b) w j = seenPs has a w j ++ seenPs has b w (j + a.length)
  | [], b, w, j => by simp [seenPs]
  | t :: a, b, w, j => by
    rw [List.cons_append, seenPs, seenPs, seenPs_app has a b w (j + 1), List.append_assoc, List.length_cons]
    congr 3
    omega
theorem seenPs_take (has : List Int → Bool) {ts : List Tr} {i : Nat} {t : Tr} (h : ts[i]? = some t) (w : List Int) : seenPs has (ts.take (i + 1)) w 0 = seenPs has (ts.take i) w 0 ++ seenP has t (w ++ [(i : Int)]) := by
  have hi := (List.getElem?_eq_some_iff.mp h).1
  rw [List.take_succ, h, seenPs_app]
  simp [seenPs, Nat.min_eq_left (Nat.le_of_lt hi)]
theorem keptTs_app (has : List Int → Bool) : ∀ (a b : List Tr) (w : List Int) (j : Nat), keptTs has (a ++ b) w j = keptTs has a w j ++ keptTs has b w (j + a.length)
  | [], b, w, j => by simp [keptTs]
  | t :: a, b, w, j => by
    rw [List.cons_append, keptTs, keptTs, keptTs_app has a b w (j + 1), List.length_cons, show j + 1 + a.length = j + (a.length + 1) by omega]
    split <;> simp
theorem keptTs_take (has : List Int → Bool) {ts : List Tr} {i : Nat} {t : Tr} (h : ts[i]? = some t) (w : List Int) : keptTs has (ts.take (i + 1)) w 0 = keptTs has (ts.take i) w 0 ++ if has (w ++ [(i : Int)]) then [keptT has t (w ++ [(i : Int)])] else [] := by
  have hi := (List.getElem?_eq_some_iff.mp h).1
  rw [List.take_succ, h, keptTs_app]
  simp [keptTs, Nat.min_eq_left (Nat.le_of_lt hi)]
def ownD (has : List Int → Bool) (t : Tr) (w : List Int) : PyData := if has w = true then (keptT has t w).d else .none
theorem own_is (has : List Int → Bool) (t : Tr) (w : List Int) (M : Sto) : isNoneV true (.d (ownD has t w)) M = .ok (.d (.bool (has w))) M := by
  unfold ownD
  by_cases h : has w = true
  · rw [if_pos h, h]
    cases t
    rw [keptT, tr_d]
    rfl
  · rw [if_neg h]
    have h : has w = false := by simpa using h
    rw [h]
    rfl
theorem seen_len (has : List Int → Bool) (t : Tr) (w : List Int) : (seenP has t w).length ≤ t.sz := by
  rw [(seen_lost has t w).length_eq]
  exact lost_len has t w
theorem eT_isN {fn : Fn} {ρ : Rho} {M M1 : Sto} {a : CE} {j : Nat} {pn p : Pos} {v : Vl} {k : Bool} (h : CE.ev fn a ρ M = .ok v M1) (h2 : isNoneV true v M1 = .ok (.d (.bool k)) M1) : CE.evT fn (.isN true a j pn p) ρ M = .ok k M1 := by
  show gB (gUn (isNoneV true) (a.ev fn)) ρ M = _
  simp only [gB, gUn, h, Out.bind, h2, asBool]
theorem s_seen (ws : List (List Int)) : ∀ (d : Nat) (t : Tr), GS d t → d ≤ 3 → ∀ (n : Nat) (w : List Int) (M : Sto), d ≤ n → w.length + d ≤ 50 → Sat (fun o => o = .ok (.d (.tuple [ownD (hasL ws) t w, .list ((seenP (hasL ws) t w).map Pc.d)])) M) (Ev.run tb (n + 1) 11 [.d t.d, .d (T w), .d (Lw ws)] M) := by
  intro d
  induction d using Nat.strongRecOn with
  | ind d ih =>
    intro t hg hd3 n w M hn hw
    have hlen : (seenP (hasL ws) t w).length ≤ 216 := by
      have a1 := seen_len (hasL ws) t w
      rw [← sp_sz _ w] at a1
      have a2 := sp_len d (GS.good d hg) w
      have a3 : 6 ^ d ≤ 6 ^ 3 := Nat.pow_le_pow_right (by decide) hd3
      omega
    cases t with
    | nd s m ts =>
      obtain ⟨h1, h2, h3, h4⟩ := hg.inv
      rw [seenP, List.length_append] at hlen
      have hown : ownD (hasL ws) (.nd s m ts) w = if hasL ws w = true then .tuple [.str s, .int m, .tuple ((srt (keptTs (hasL ws) ts w 0)).map Tr.d)] else .none := by
        unfold ownD
        rw [keptT, tr_d]
      rw [hown, seenP, runS n 11 f11.F rfl]
      refine q_run rfl ?_
      rw [tr_d]
      have hkl := kepts_len (hasL ws) ts w
      have hgk : ∀ u ∈ keptTs (hasL ws) ts w 0, u.d.depth ≤ 2 * 3 + 2 := fun u hu => by
        obtain ⟨t, ht, w', rfl⟩ := kepts_mem hu
        obtain ⟨d', rfl, hg'⟩ := h3 t ht
        have := (kept_gs (hasL ws) d' hg' w').dep
        omega
      have hsort := (sortD_trs (D := 3) (by omega) hgk (by omega)).1
      refine q_par (u := .ref M.length) (w := .ref (M.length + 1)) (M1 := M ++ [.lst []]) (M2 := M ++ [.lst [], .lst []]) rfl ?_ ?_
      · show Out.ok (Vl.ref (M ++ [Cell.lst []]).length) ((M ++ [Cell.lst []]) ++ [.lst []]) = _
        rw [List.length_append, List.append_assoc]
        rfl
      have wz := walks_enuT (ts.map Tr.d) (M ++ [.lst [], .lst []])
      rw [enu_trs] at wz
      refine q_for (src := .enu true (.d (.tuple (ts.map Tr.d)))) (M1 := M ++ [.lst [], .lst []]) (gi_enuT (by simp [runF, evSs, CS.ev, CE.ev, CE.evT, CEs.ev, CI.ev, CO.evI, CO.evC, CT.ev, CTs.ev, CTs.len, CT.slots, CTs.slots, gStar, gsPar3, extendV, insertV, getV, dictV, pairsD, gDisp0, gsPars, setAll, lstAt, tgName, tgTup, tgCons, tgNil, evAnd, evOr, evAndT, evOrT, callE, gsSeq, gsNil, gsSet, gsTgt, gsPar, gsExp, gsRet, gsRetN, gsIf, gsPut, gBin, gUn, gVar, gCon, gB, gIf, gTru, gAndT, gOrT, gNotT, gAnd, gOr, gNot, gChain, gNil, gCons, gCall, gTup, gLst, gLstM, gDisp, gSl, gNoPart, gPart, gMeth, giVal, giRng1, giRng2, giZip, giEnu, srcOf, asInt, asBool, startR, COp.ev, BOp.ev, Blt.ev, Mth.ev, Mth.ty, leD_int, fldV, insAt, putS, gsFld, gProp, gMake, gMCall, gMCallK, propE, mkE, mcE, mckE, lift2, lift1, liftC1, peek, toD, toDs, ixV, dctAt, ixL, ixT, give, Out.bind, bindS, OutS.then, finR, finV, addI, subI, cmpII, isaD, negI, intI, intB, lenV, lenLi, lenTu, tupL, tupT, lisL, lisT, PyData.isInt, PyData.isBool, PyData.isTuple, PyData.isList, PyData.isStr, iL, iT, callK, gCallK, pick, giZipS, seqK, truV, truD, PyData.truthy, sizeLine_eq, slLx, slTx, putV, keyD, isNoneV, t32, f11])) wz
        (fun i ρ M' => ∃ a b c e, ρ = [some (.d (.tuple [.str s, .int m, .tuple (ts.map Tr.d)])), some (.d (T w)), some (.d (Lw ws)), some (.ref M.length), some (.ref (M.length + 1)), a, b, c, e] ∧ M' = M ++ [.lst ((keptTs (hasL ws) (ts.take i) w 0).map Tr.d), .lst ((seenPs (hasL ws) (ts.take i) w 0).map Pc.d)]) ⟨none, none, none, none, rfl, by simp [keptTs, seenPs]⟩ ?_ ?_
      · rintro i x ρ M' hx ⟨a, b, c, e, rfl, rfl⟩
        rw [List.getElem?_map] at hx
        cases hp : ts.zipIdx[i]? with
        | none => rw [hp] at hx; simp at hx
        | some p =>
          rw [hp] at hx
          simp at hx
          subst hx
          obtain ⟨hpt, hpj⟩ := zip_at hp
          obtain ⟨u, j⟩ := p
          simp only at hpt hpj
          subst hpj
          have hj := (List.getElem?_eq_some_iff.mp hpt).1
          refine ⟨_, rfl, ?_⟩
          obtain ⟨d', rfl, hg'⟩ := h3 u (List.mem_of_getElem? hpt)
          obtain ⟨n', rfl⟩ : ∃ n', n = n' + 1 := ⟨n - 1, by omega⟩
          have hst := seenPs_take (hasL ws) hpt w
          have hkt := keptTs_take (hasL ws) hpt w
          have hl : (seenPs (hasL ws) (ts.take j) w 0).length + (seenP (hasL ws) u (w ++ [(j : Int)])).length ≤ 216 := by
            rw [← List.length_append, ← hst]
            refine Nat.le_trans ?_ (Nat.le_trans (Nat.le_add_right _ _) hlen)
            conv => rhs; rw [← List.take_append_drop (j + 1) ts, seenPs_app, List.length_append]
            omega
          have hl2 : (keptTs (hasL ws) (ts.take j) w 0).length ≤ 5 := by
            have := kepts_len (hasL ws) (ts.take j) w
            rw [List.length_take] at this
            omega
          generalize hA : keptTs (hasL ws) (ts.take j) w 0 = A at *
          generalize hB : seenPs (hasL ws) (ts.take j) w 0 = B at *
          have e : _ = _ := ih d' (by omega) u hg' (by omega) n' (w ++ [(j : Int)]) (M ++ [.lst (A.map Tr.d), .lst (B.map Pc.d)]) (by omega) (by simp; omega)
          have hois := own_is (hasL ws) u (w ++ [(j : Int)])
          have eT := addT (a := w) (b := [(j : Int)]) (by simp; omega)
          refine q_tgt (v := .d (.tuple [ownD (hasL ws) u (w ++ [(j : Int)]), .list ((seenP (hasL ws) u (w ++ [(j : Int)])).map Pc.d)])) (M1 := M ++ [.lst (A.map Tr.d), .lst (B.map Pc.d)]) (ρ' := [some (.d (.tuple [.str s, .int m, .tuple (ts.map Tr.d)])), some (.d (T w)), some (.d (Lw ws)), some (.ref M.length), some (.ref (M.length + 1)), some (.d (.int (j : Int))), some (.d u.d), some (.d (ownD (hasL ws) u (w ++ [(j : Int)]))), some (.d (.list ((seenP (hasL ws) u (w ++ [(j : Int)])).map Pc.d)))]) (e_call (M1 := M ++ [.lst (A.map Tr.d), .lst (B.map Pc.d)]) (xs := [.d u.d, .d (T (w ++ [(j : Int)])), .d (Lw ws)]) ?_ ?_) ?_ ?_
          · refine es_cons (M1 := M ++ [.lst (A.map Tr.d), .lst (B.map Pc.d)]) rfl (es_cons (M1 := M ++ [.lst (A.map Tr.d), .lst (B.map Pc.d)]) ?_ (es_cons (M1 := M ++ [.lst (A.map Tr.d), .lst (B.map Pc.d)]) rfl es_nil))
            refine e_bin (x := .d (T w)) (y := .d (T [(j : Int)])) (M1 := M ++ [.lst (A.map Tr.d), .lst (B.map Pc.d)]) (M2 := M ++ [.lst (A.map Tr.d), .lst (B.map Pc.d)]) rfl (e_tup (xs := [.d (.int (j : Int))]) (M1 := M ++ [.lst (A.map Tr.d), .lst (B.map Pc.d)]) (es_cons (M1 := M ++ [.lst (A.map Tr.d), .lst (B.map Pc.d)]) rfl es_nil) rfl (by simp [sizeLine_eq])) ?_
            simp only [lift2, peek, BOp.ev, eT, give]
          · exact e
          · rfl
          have hz : (B.map Pc.d).length + ((seenP (hasL ws) u (w ++ [(j : Int)])).map Pc.d).length ≤ sizeLine := by rw [List.length_map, List.length_map, sizeLine_eq]; omega
          generalize seenP (hasL ws) u (w ++ [(j : Int)]) = S at *
          refine q_exp (e_extend (n := M.length + 1) (y := .d (.list (S.map Pc.d))) (z := .list (S.map Pc.d)) (ds := S.map Pc.d) (xs := B.map Pc.d) (xs2 := B.map Pc.d) (M1 := M ++ [.lst (A.map Tr.d), .lst (B.map Pc.d)]) (M2 := M ++ [.lst (A.map Tr.d), .lst (B.map Pc.d)]) rfl (c2b _ _ _) rfl rfl rfl (c2b _ _ _) hz) ?_
          rw [s2b, ← List.map_append]
          refine q_if2 (k := hasL ws (w ++ [(j : Int)])) (M1 := M ++ [.lst (A.map Tr.d), .lst ((B ++ S).map Pc.d)]) (eT_isN rfl (hois _)) (fun hk => ?_) (fun hk => ?_)
          · have ho : ownD (hasL ws) u (w ++ [(j : Int)]) = (keptT (hasL ws) u (w ++ [(j : Int)])).d := by unfold ownD; rw [if_pos hk]
            rw [ho]
            refine q_exp (e_append (n := M.length) (x := (keptT (hasL ws) u (w ++ [(j : Int)])).d) (xs := A.map Tr.d) (M1 := M ++ [.lst (A.map Tr.d), .lst ((B ++ S).map Pc.d)]) (M2 := M ++ [.lst (A.map Tr.d), .lst ((B ++ S).map Pc.d)]) rfl (c2a _ _ _) rfl (c2a _ _ _) (by rw [List.length_map, sizeLine_eq]; omega)) ?_
            rw [s2a]
            refine t_nx ⟨_, _, _, _, rfl, ?_⟩
            rw [hst, hkt, if_pos hk, List.map_append (l₁ := A)]
            rfl
          · refine t_nx ⟨_, _, _, _, rfl, ?_⟩
            rw [hst, hkt, if_neg (by rw [hk]; decide), List.append_nil]
      · rintro ρ' M' ⟨a, b, c, e, rfl, rfl⟩
        have hl : (List.map (fun p : Tr × Nat => Vl.d (.tuple [.int (p.2 : Nat), p.1.d])) ts.zipIdx).length = ts.length := by rw [List.length_map, List.length_zipIdx]
        rw [hl, List.take_length]
        have hin := inLw ws w
        have hne := neE ((keptTs (hasL ws) ts w 0).map Tr.d)
        have hem : ((keptTs (hasL ws) ts w 0).map Tr.d).isEmpty = (keptTs (hasL ws) ts w 0).isEmpty := by cases keptTs (hasL ws) ts w 0 <;> rfl
        rw [hem] at hne
        have hhere : lostHere (hasL ws) ts w = if (!hasL ws w && !(keptTs (hasL ws) ts w 0).isEmpty) = true then [.lost (srt (keptTs (hasL ws) ts w 0))] else [] := rfl
        have hcell := c2a M (.lst ((keptTs (hasL ws) ts w 0).map Tr.d)) (.lst ((seenPs (hasL ws) ts w 0).map Pc.d))
        have hcel2 := c2b M (.lst ((keptTs (hasL ws) ts w 0).map Tr.d)) (.lst ((seenPs (hasL ws) ts w 0).map Pc.d))
        have hB : ((seenPs (hasL ws) ts w 0).map Pc.d).length + 1 ≤ 16777216 := by rw [List.length_map]; omega
        have hML : (M ++ [Cell.lst ((keptTs (hasL ws) ts w 0).map Tr.d), Cell.lst ((seenPs (hasL ws) ts w 0).map Pc.d)]).take M.length = M := List.take_left
        have hs2 := s2b M (.lst ((keptTs (hasL ws) ts w 0).map Tr.d)) (.lst ((seenPs (hasL ws) ts w 0).map Pc.d)) (.frz (.list ((seenPs (hasL ws) ts w 0).map Pc.d)))
        have hML2 : (M ++ [Cell.lst ((keptTs (hasL ws) ts w 0).map Tr.d), Cell.frz (.list ((seenPs (hasL ws) ts w 0).map Pc.d))]).take M.length = M := List.take_left
        generalize keptTs (hasL ws) ts w 0 = A at *
        generalize hSt : M ++ [Cell.lst (A.map Tr.d), Cell.lst ((seenPs (hasL ws) ts w 0).map Pc.d)] = St at *
        refine q_if2 (k := hasL ws w) (M1 := St) ?_ (fun hk => ?_) (fun hk => ?_)
        · refine eT_cmp (x := .d (T w)) (y := .d (Lw ws)) (M1 := St) (M2 := St) rfl rfl ?_
          simp only [COp.ev, inV, dctAt, lift2, peek, hin, give]
        · rw [if_pos hk]
          have h0 : lostHere (hasL ws) ts w = [] := by rw [hhere, hk]; rfl
          rw [h0, List.append_nil]
          refine q_ret (v := .d (.tuple [.tuple [.str s, .int m, .tuple ((srt A).map Tr.d)], .list ((seenPs (hasL ws) ts w 0).map Pc.d)])) (M1 := M ++ [Cell.lst (A.map Tr.d), Cell.frz (.list ((seenPs (hasL ws) ts w 0).map Pc.d))]) ?_ ?_
          · refine e_tup (xs := [.d (.tuple [.str s, .int m, .tuple ((srt A).map Tr.d)]), .ref (M.length + 1)]) (M1 := St) (es_cons (M1 := St) ?_ (es_cons (M1 := St) rfl es_nil)) ?_ (by simp [sizeLine_eq])
            · refine e_tup (xs := [.d (.str s), .d (.int m), .d (.tuple ((srt A).map Tr.d))]) (M1 := St) (es_cons (M1 := St) (by simp [runF, evSs, CS.ev, CE.ev, CE.evT, CEs.ev, CI.ev, CO.evI, CO.evC, CT.ev, CTs.ev, CTs.len, CT.slots, CTs.slots, gStar, gsPar3, extendV, insertV, getV, dictV, pairsD, gDisp0, gsPars, setAll, lstAt, tgName, tgTup, tgCons, tgNil, evAnd, evOr, evAndT, evOrT, callE, gsSeq, gsNil, gsSet, gsTgt, gsPar, gsExp, gsRet, gsRetN, gsIf, gsPut, gBin, gUn, gVar, gCon, gB, gIf, gTru, gAndT, gOrT, gNotT, gAnd, gOr, gNot, gChain, gNil, gCons, gCall, gTup, gLst, gLstM, gDisp, gSl, gNoPart, gPart, gMeth, giVal, giRng1, giRng2, giZip, giEnu, srcOf, asInt, asBool, startR, COp.ev, BOp.ev, Blt.ev, Mth.ev, Mth.ty, leD_int, fldV, insAt, putS, gsFld, gProp, gMake, gMCall, gMCallK, propE, mkE, mcE, mckE, lift2, lift1, liftC1, peek, toD, toDs, ixV, dctAt, ixL, ixT, give, Out.bind, bindS, OutS.then, finR, finV, addI, subI, cmpII, isaD, negI, intI, intB, lenV, lenLi, lenTu, tupL, tupT, lisL, lisT, PyData.isInt, PyData.isBool, PyData.isTuple, PyData.isList, PyData.isStr, iL, iT, callK, gCallK, pick, giZipS, seqK, truV, truD, PyData.truthy, sizeLine_eq, slLx, slTx, putV, keyD, isNoneV, t30]) (es_cons (M1 := St) (by simp [runF, evSs, CS.ev, CE.ev, CE.evT, CEs.ev, CI.ev, CO.evI, CO.evC, CT.ev, CTs.ev, CTs.len, CT.slots, CTs.slots, gStar, gsPar3, extendV, insertV, getV, dictV, pairsD, gDisp0, gsPars, setAll, lstAt, tgName, tgTup, tgCons, tgNil, evAnd, evOr, evAndT, evOrT, callE, gsSeq, gsNil, gsSet, gsTgt, gsPar, gsExp, gsRet, gsRetN, gsIf, gsPut, gBin, gUn, gVar, gCon, gB, gIf, gTru, gAndT, gOrT, gNotT, gAnd, gOr, gNot, gChain, gNil, gCons, gCall, gTup, gLst, gLstM, gDisp, gSl, gNoPart, gPart, gMeth, giVal, giRng1, giRng2, giZip, giEnu, srcOf, asInt, asBool, startR, COp.ev, BOp.ev, Blt.ev, Mth.ev, Mth.ty, leD_int, fldV, insAt, putS, gsFld, gProp, gMake, gMCall, gMCallK, propE, mkE, mcE, mckE, lift2, lift1, liftC1, peek, toD, toDs, ixV, dctAt, ixL, ixT, give, Out.bind, bindS, OutS.then, finR, finV, addI, subI, cmpII, isaD, negI, intI, intB, lenV, lenLi, lenTu, tupL, tupT, lisL, lisT, PyData.isInt, PyData.isBool, PyData.isTuple, PyData.isList, PyData.isStr, iL, iT, callK, gCallK, pick, giZipS, seqK, truV, truD, PyData.truthy, sizeLine_eq, slLx, slTx, putV, keyD, isNoneV, t31]) (es_cons (M1 := St) (e_blt1 (v := .d (.list ((srt A).map Tr.d))) (M1 := St) (e_blt1 (v := .ref M.length) (M1 := St) rfl ?_) rfl) es_nil))) rfl (by simp [sizeLine_eq])
              simp only [Blt.ev, liftC1, lift1, peek, hcell, hsort, give]
            · simp only [toDs, toD, hcel2, hs2]
          · show finR false M.length _ = _
            simp only [finR, finV, hML2]
        · rw [if_neg (by rw [hk]; decide)]
          refine q_ret (v := .d (.tuple [.none, .list ((seenPs (hasL ws) ts w 0 ++ lostHere (hasL ws) ts w).map Pc.d)])) (M1 := St) ?_ ?_
          · refine e_tup (xs := [.d .none, .d (.list ((seenPs (hasL ws) ts w 0 ++ lostHere (hasL ws) ts w).map Pc.d))]) (M1 := St) (es_cons (M1 := St) rfl (es_cons (M1 := St) ?_ es_nil)) rfl (by simp [sizeLine_eq])
            refine e_bin (x := .ref (M.length + 1)) (y := .d (.list ((lostHere (hasL ws) ts w).map Pc.d))) (M1 := St) (M2 := St) rfl ?_ ?_
            · refine e_bin (x := .d (.list [(Pc.lost (srt A)).d])) (y := .d (.int (if (!A.isEmpty) = true then 1 else 0))) (M1 := St) (M2 := St) ?_ ?_ ?_
              · refine e_lst (xs := [.d (Pc.lost (srt A)).d]) (M1 := St) (es_cons (M1 := St) ?_ es_nil) rfl (by simp [sizeLine_eq])
                refine e_tup (xs := [.d (.str "lost"), .d (.tuple ((srt A).map Tr.d))]) (M1 := St) (es_cons (M1 := St) rfl (es_cons (M1 := St) (e_blt1 (v := .d (.list ((srt A).map Tr.d))) (M1 := St) (e_blt1 (v := .ref M.length) (M1 := St) rfl ?_) rfl) es_nil)) rfl (by simp [sizeLine_eq])
                simp only [Blt.ev, liftC1, lift1, peek, hcell, hsort, give]
              · refine e_blt1 (v := .d (.bool (!A.isEmpty))) (M1 := St) (e_cmp (x := .ref M.length) (y := .d (.list [])) (M1 := St) (M2 := St) rfl rfl ?_) ?_
                · simp only [COp.ev, lift2, peek, hcell, hne, give]
                · simp only [Blt.ev, liftC1, lift1, peek, intB, give]
              · rw [hhere, hk]
                cases hA : A with
                | nil => simp [lift2, peek, BOp.ev, mulD, give, repL, sizeLine_eq]
                | cons a A' => simp [lift2, peek, BOp.ev, mulD, give, repL, sizeLine_eq]
            · have hlh := here_len (hasL ws) ts w
              have hB2 : ((seenPs (hasL ws) ts w 0).map Pc.d).length + ((lostHere (hasL ws) ts w).map Pc.d).length ≤ 16777216 := by rw [List.length_map, List.length_map]; omega
              simp only [lift2, peek, hcel2, BOp.ev, addD, sizeLine_eq, if_pos hB2, give, List.map_append]
          · show finR false M.length _ = _
            simp only [finR, finV, hML]
end Law

namespace Law
open PySem PySem.Spec Ev
theorem eqSs (a b : Str) : eqD (.str a) (.str b) = some (.bool (decide (a = b))) := by
  rw [eq_ok _ _ (by simp [PyData.depth])]
  simp only [PyData.eqv]
  congr 2
theorem eqvTs : ∀ a b : List Int, PyData.eqvAll (a.map .int) (b.map .int) = decide (a = b)
  | [], [] => by simp [PyData.eqvAll]
  | [], _ :: _ => by simp [PyData.eqvAll]
  | _ :: _, [] => by simp [PyData.eqvAll]
  | x :: a, y :: b => by
    simp only [List.map_cons, PyData.eqvAll, eqvTs a b, PyData.eqv]
    by_cases h : x = y <;> by_cases h2 : a = b <;> simp [h, h2]
theorem eqvT (a b : List Int) : PyData.eqv (T a) (T b) = decide (a = b) := by
  simp only [T, PyData.eqv]
  exact eqvTs a b
theorem has_mem (ws : List (List Int)) (w : List Int) : hasL ws w = decide (w ∈ ws) := by
  unfold hasL
  rw [List.any_map]
  have : ((fun y => PyData.eqv y (T w)) ∘ T) = fun a => decide (a = w) := by
    funext a
    exact eqvT a w
  rw [this]
  by_cases h : w ∈ ws
  · rw [decide_eq_true h]
    exact List.any_eq_true.mpr ⟨w, h, by simp⟩
  · rw [decide_eq_false h]
    refine List.any_eq_false.mpr fun a ha e => h ?_
    have := of_decide_eq_true e
    rw [← this]
    exact ha
theorem has_shift (ws : List (List Int)) (w : List Int) : hasL (ws.map fun w => [0] ++ w) ([0] ++ w) = hasL ws w := by
  rw [has_mem, has_mem]
  congr 1
  simp
theorem seen_ok (has : List Int → Bool) {d : Nat} {t : Tr} (hg : GS d t) (hd : d ≤ 3) (w : List Int) : ∀ p ∈ seenP has t w ++ topOf has t w, PcOk p := by
  intro p hp
  rcases List.mem_append.mp hp with h | h
  · exact lost_ok has d hg hd w p ((seen_lost has t w).mem_iff.mp h)
  · unfold topOf at h
    split at h
    · simp only [List.mem_singleton] at h
      subst h
      exact (kept_gs has d hg w).to3 hd
    · simp at h
theorem s_kept_sight (n : Nat) (M : Sto) (ws : List (List Int)) {d : Nat} {t : Tr} (hg : GS d t) (hd : d ≤ 3) : Ev.run tb (n + 5) 12 [.d (.tuple [.tuple [.str "top", t.d]]), .d (Lw ws)] M = .ok (.d (.tuple ((ownS (hasL ws) t [0]).map Pc.d))) M := by
  have hlen : (seenP (hasL ws) t [0]).length ≤ 216 := by
    have a1 := seen_len (hasL ws) t [0]
    rw [← sp_sz _ [0]] at a1
    have a2 := sp_len d (GS.good d hg) [0]
    have a3 : 6 ^ d ≤ 6 ^ 3 := Nat.pow_le_pow_right (by decide) hd
    omega
  have htl : (topOf (hasL ws) t [0]).length ≤ 1 := by unfold topOf; split <;> simp
  have hsort := sortD_pcs (seen_ok (hasL ws) hg hd [0]) (by rw [List.length_append]; omega)
  have hrun : ∀ M, Ev.run tb (n + 4) 11 [.d t.d, .d (T [0]), .d (Lw ws)] M = .ok (.d (.tuple [ownD (hasL ws) t [0], .list ((seenP (hasL ws) t [0]).map Pc.d)])) M := fun M => s_seen ws d t hg hd (n + 3) [0] M (by omega) (by simp; omega)
  have hois := own_is (hasL ws) t [0]
  have htop : topOf (hasL ws) t [0] = if hasL ws [0] then [.top (keptT (hasL ws) t [0])] else [] := rfl
  have hownS : srtP (seenP (hasL ws) t [0] ++ topOf (hasL ws) t [0]) = ownS (hasL ws) t [0] := rfl
  rw [hownS] at hsort
  generalize ownS (hasL ws) t [0] = R at *
  generalize hS : seenP (hasL ws) t [0] = S at *
  show Sat (fun o => o = _) _
  rw [runS (n + 4) 12 f12.F rfl]
  refine q_run rfl ?_
  refine q_set (v := .ref M.length) (M1 := M ++ [.lst []]) rfl ?_
  refine q_for (src := .enu true (.d (.tuple [.tuple [.str "top", t.d]]))) (M1 := M ++ [.lst []]) rfl (walks_enuT [.tuple [.str "top", t.d]] _)
    (fun i ρ M' => ∃ a b c e f, ρ = [some (.d (.tuple [.tuple [.str "top", t.d]])), some (.d (Lw ws)), some (.ref M.length), a, b, c, e, f] ∧ M' = M ++ [.lst (if i = 0 then [] else (S ++ topOf (hasL ws) t [0]).map Pc.d)]) ⟨none, none, none, none, none, rfl, rfl⟩ ?_ ?_
  · rintro i x ρ M' hx ⟨a, b, c, e, f, rfl, rfl⟩
    have hi : i = 0 ∧ x = .d (.tuple [.int 0, .tuple [.str "top", t.d]]) := by
      cases i with
      | zero =>
        have : (enuW [.tuple [.str "top", t.d]])[0]? = some (.d (.tuple [.int 0, .tuple [.str "top", t.d]])) := rfl
        rw [this] at hx
        exact ⟨rfl, (Option.some.inj hx).symm⟩
      | succ i =>
        rw [enuW_at] at hx
        simp at hx
    obtain ⟨rfl, rfl⟩ := hi
    refine ⟨_, rfl, ?_⟩
    rw [if_pos rfl]
    refine q_tgt (v := .d (.tuple [ownD (hasL ws) t [0], .list (S.map Pc.d)])) (M1 := M ++ [.lst []]) (ρ' := [some (.d (.tuple [.tuple [.str "top", t.d]])), some (.d (Lw ws)), some (.ref M.length), some (.d (.int 0)), some (.d (.str "top")), some (.d t.d), some (.d (ownD (hasL ws) t [0])), some (.d (.list (S.map Pc.d)))]) (e_call (M1 := M ++ [.lst []]) (xs := [.d t.d, .d (T [0]), .d (Lw ws)]) ?_ ?_) ?_ ?_
    · refine es_cons (M1 := M ++ [.lst []]) ?_ (es_cons (M1 := M ++ [.lst []]) ?_ (es_cons (M1 := M ++ [.lst []]) rfl es_nil))
      · refine e_if (k := true) (M1 := M ++ [.lst []]) ?_ ?_
        · refine eT_cmp (x := .d (.str "top")) (y := .d (.str "top")) (M1 := M ++ [.lst []]) (M2 := M ++ [.lst []]) rfl rfl ?_
          simp only [COp.ev, lift2, peek, eqSs, give, decide_true]
        · rw [if_pos rfl]
          rfl
      · exact e_tup (xs := [.d (.int 0)]) (M1 := M ++ [.lst []]) (es_cons (M1 := M ++ [.lst []]) rfl es_nil) rfl (by simp [sizeLine_eq])
    · exact hrun _
    · rfl
    have hz : ([] : List PyData).length + (S.map Pc.d).length ≤ sizeLine := by rw [List.length_map, sizeLine_eq]; simp; omega
    refine q_exp (e_extend (n := M.length) (y := .d (.list (S.map Pc.d))) (z := .list (S.map Pc.d)) (ds := S.map Pc.d) (xs := []) (xs2 := []) (M1 := M ++ [.lst []]) (M2 := M ++ [.lst []]) rfl (cell_new _ _) rfl rfl rfl (cell_new _ _) hz) ?_
    rw [set_new, List.nil_append]
    refine q_if2 (k := hasL ws [0]) (M1 := M ++ [.lst (S.map Pc.d)]) (eT_isN rfl (hois _)) (fun hk => ?_) (fun hk => ?_)
    · have ho : ownD (hasL ws) t [0] = (keptT (hasL ws) t [0]).d := by unfold ownD; rw [if_pos hk]
      rw [ho]
      refine q_exp (e_append (n := M.length) (x := (Pc.top (keptT (hasL ws) t [0])).d) (xs := S.map Pc.d) (M1 := M ++ [.lst (S.map Pc.d)]) (M2 := M ++ [.lst (S.map Pc.d)]) rfl (cell_new _ _) ?_ (cell_new _ _) (by rw [List.length_map, sizeLine_eq]; omega)) ?_
      · exact e_tup (xs := [.d (.str "top"), .d (keptT (hasL ws) t [0]).d]) (M1 := M ++ [.lst (S.map Pc.d)]) (es_cons (M1 := M ++ [.lst (S.map Pc.d)]) rfl (es_cons (M1 := M ++ [.lst (S.map Pc.d)]) rfl es_nil)) rfl (by simp [sizeLine_eq])
      · rw [set_new]
        refine t_nx ⟨_, _, _, _, _, rfl, ?_⟩
        rw [htop, if_pos hk, if_neg (by decide), List.map_append]
        rfl
    · refine t_nx ⟨_, _, _, _, _, rfl, ?_⟩
      rw [if_neg (by decide), htop, if_neg (by rw [hk]; decide), List.append_nil]
  · rintro ρ' M' ⟨a, b, c, e, f, rfl, rfl⟩
    have hl : (enuW [.tuple [.str "top", t.d]]).length = 1 := rfl
    rw [hl, if_neg (by decide)]
    refine q_ret (v := .d (.tuple (R.map Pc.d))) (M1 := M ++ [.lst ((S ++ topOf (hasL ws) t [0]).map Pc.d)]) ?_ (fin_cut M M _ _ rfl)
    refine e_blt1 (v := .d (.list (R.map Pc.d))) (M1 := M ++ [.lst ((S ++ topOf (hasL ws) t [0]).map Pc.d)]) (e_blt1 (v := .ref M.length) (M1 := M ++ [.lst ((S ++ topOf (hasL ws) t [0]).map Pc.d)]) rfl ?_) rfl
    simp only [Blt.ev, liftC1, lift1, peek, cell_new, hsort, give]
theorem s_own (n : Nat) (M : Sto) (ws : List (List Int)) (hz : ws.length ≤ 1000) (hws : ∀ w ∈ ws, w.length ≤ 50) {d : Nat} {t : Tr} (hg : GS d t) (hd : d ≤ 3) : Ev.run tb (n + 6) 13 [.d t.d, .d (Lw ws)] M = .ok (.d (.tuple ((rawS (hasL ws) t).map Pc.d))) M := by
  have e := s_kept_sight n M (ws.map fun w => [0] ++ w) hg hd
  rw [raw_own (hasL ws) (hasL (ws.map fun w => [0] ++ w)) [0] (fun w => has_shift ws w)] at e
  show Sat (fun o => o = _) _
  rw [runS (n + 5) 13 f13.F rfl]
  refine q_run rfl ?_
  refine q_ret (v := .d (.tuple ((rawS (hasL ws) t).map Pc.d))) (M1 := M) ?_ (fin_ret M _)
  refine e_call (M1 := M) (xs := [.d (.tuple [.tuple [.str "top", t.d]]), .d (Lw (ws.map fun w => [0] ++ w))]) ?_ ?_
  · refine es_cons (M1 := M) ?_ (es_cons (M1 := M) ?_ es_nil)
    · exact e_tup (xs := [.d (.tuple [.str "top", t.d])]) (M1 := M) (es_cons (M1 := M) (e_tup (xs := [.d (.str "top"), .d t.d]) (M1 := M) (es_cons (M1 := M) rfl (es_cons (M1 := M) rfl es_nil)) rfl (by simp [sizeLine_eq])) es_nil) rfl (by simp [sizeLine_eq])
    · have wl := walks_lst (ws.map T) M
      rw [List.map_map] at wl
      have hm : Lw (ws.map fun w => [0] ++ w) = .list (ws.map fun w => T ([0] ++ w)) := by unfold Lw; rw [List.map_map]; rfl
      rw [hm]
      refine e_lcTA (src := .lst (.d (.list (ws.map T)))) (l := ws) (g := Vl.d ∘ T) rfl wl (by rw [sizeLine_eq]; omega) (fun w => T ([0] ++ w)) ?_
      intro i w hw acc
      have hl := hws w (List.mem_of_getElem? hw)
      have eT := addT (a := [0]) (b := w) (by simp; omega)
      refine ⟨_, rfl, ?_⟩
      refine e_bin (x := .d (T [0])) (y := .d (T w)) (M1 := M ++ [.lst acc]) (M2 := M ++ [.lst acc]) (e_tup (xs := [.d (.int 0)]) (M1 := M ++ [.lst acc]) (es_cons (M1 := M ++ [.lst acc]) rfl es_nil) rfl (by simp [sizeLine_eq])) rfl ?_
      simp only [lift2, peek, BOp.ev, eT, give]
  · exact e
end Law

namespace Law
open PySem PySem.Spec Ev
open PySem.W (keyToks keyToksAll dataLt)
/-! ### the order of the paths -/
def ltP : List Int → List Int → Bool
  | [], [] => false
  | [], _ :: _ => true
  | _ :: _, [] => false
  | x :: a, y :: b => if x = y then ltP a b else decide (x < y)
theorem ltP_self : ∀ a : List Int, ltP a a = false
  | [] => rfl
  | x :: a => by simp [ltP, ltP_self a]
theorem ltP_asym : ∀ a b : List Int, ltP a b = true → ltP b a = false
  | [], [], h => rfl
  | [], _ :: _, h => rfl
  | _ :: _, [], h => by cases h
  | x :: a, y :: b, h => by
    simp only [ltP] at h ⊢
    by_cases e : x = y
    · rw [if_pos e] at h
      rw [if_pos e.symm]
      exact ltP_asym a b h
    · rw [if_neg e] at h
      rw [if_neg fun z => e z.symm]
      have := of_decide_eq_true h
      exact decide_eq_false (by omega)
theorem lt_tok : ∀ a b : List Int, PyProof.Rows.lexLt PyProof.Rows.itemOrd (keyToksAll (a.map PyData.int)) (keyToksAll (b.map PyData.int)) = ltP a b
  | [], [] => by simp only [List.map_nil, ltP]; exact PyProof.Rows.lex_irrefl _
  | [], y :: b => by
    simp only [List.map_nil, List.map_cons, keyToksAll, ltP]
    rw [PyProof.Rows.lex_diff (O := PyProof.Rows.itemOrd) (by simp)]
    decide +kernel
  | x :: a, [] => by
    simp only [List.map_nil, List.map_cons, keyToksAll, ltP]
    rw [PyProof.Rows.lex_diff (O := PyProof.Rows.itemOrd) (by simp)]
    decide +kernel
  | x :: a, y :: b => by
    by_cases e : x = y
    · subst e
      rw [List.map_cons, List.map_cons, PySem.W.dataLt_all_yes (by simp [PySem.W.alike]) (by simp [PyData.eqv]), lt_tok a b]
      simp [ltP]
    · rw [List.map_cons, List.map_cons, PySem.W.dataLt_all_no (by simp [PySem.W.alike]) (by simp [PyData.eqv, e]), PySem.W.dataLt_int]
      simp [ltP, e]
theorem lt_T (a b : List Int) : dataLt (T a) (T b) = ltP a b := by
  rw [T, T, PySem.W.dataLt_tuple]
  exact lt_tok a b
theorem ltP_pre : ∀ w a b : List Int, ltP (w ++ a) (w ++ b) = ltP a b
  | [], a, b => rfl
  | x :: w, a, b => by simp [ltP, ltP_pre w a b]
def ways (t : Tr) : List (List Int) := (t.sp []).map fun s => s.1
theorem ways_len (t : Tr) : (ways t).length = t.sz := by rw [ways, List.length_map, sp_sz]
mutual
theorem sp_form : ∀ (t : Tr) (w : List Int), ∀ s ∈ t.sp w, ∃ x, s.1 = w ++ x
  | .nd s m ts, w, q, h => by
    rw [Tr.sp] at h
    rcases List.mem_cons.mp h with rfl | h
    · exact ⟨[], by simp⟩
    · obtain ⟨i, x, _, e⟩ := sps_form ts w 0 q h
      exact ⟨_, e⟩
theorem sps_form : ∀ (ts : List Tr) (w : List Int) (j : Nat), ∀ s ∈ Tr.sps ts w j, ∃ (i : Nat) (x : List Int), j ≤ i ∧ s.1 = w ++ ((i : Int) :: x)
  | [], w, j, q, h => by simp [Tr.sps] at h
  | t :: ts, w, j, q, h => by
    rw [Tr.sps] at h
    rcases List.mem_append.mp h with h | h
    · obtain ⟨x, e⟩ := sp_form t _ q h
      exact ⟨j, x, Nat.le_refl _, by rw [e, List.append_assoc]; rfl⟩
    · obtain ⟨i, x, hi, e⟩ := sps_form ts w (j + 1) q h
      exact ⟨i, x, by omega, e⟩
end
mutual
theorem sp_asc : ∀ (t : Tr) (w : List Int), (t.sp w).Pairwise fun a b => ltP a.1 b.1 = true
  | .nd s m ts, w => by
    rw [Tr.sp]
    refine List.Pairwise.cons (fun b hb => ?_) (sps_asc ts w 0)
    obtain ⟨i, x, _, e⟩ := sps_form ts w 0 b hb
    rw [e]
    have := ltP_pre w [] ((i : Int) :: x)
    rw [List.append_nil] at this
    show ltP w _ = true
    rw [this]
    rfl
theorem sps_asc : ∀ (ts : List Tr) (w : List Int) (j : Nat), (Tr.sps ts w j).Pairwise fun a b => ltP a.1 b.1 = true
  | [], w, j => by rw [Tr.sps]; exact List.Pairwise.nil
  | t :: ts, w, j => by
    rw [Tr.sps]
    refine List.pairwise_append.mpr ⟨sp_asc t _, sps_asc ts w (j + 1), fun a ha b hb => ?_⟩
    obtain ⟨x, e1⟩ := sp_form t _ a ha
    obtain ⟨i, y, hi, e2⟩ := sps_form ts w (j + 1) b hb
    rw [e1, e2, List.append_assoc, ltP_pre]
    have hne : (j : Int) ≠ (i : Int) := by omega
    show (if (j : Int) = (i : Int) then _ else _) = true
    rw [if_neg hne]
    exact decide_eq_true (by omega)
end
theorem ways_asc (t : Tr) : (ways t).Pairwise fun a b => ltP a b = true := List.pairwise_map.mpr (sp_asc t [])
/-- the paths that can be -/
def Dg (i : Int) : Prop := 0 ≤ i ∧ i < 5
theorem sp_dg : ∀ (d : Nat) {t : Tr}, Good d t → ∀ (w : List Int), ∀ s ∈ t.sp w, ∃ x, s.1 = w ++ x ∧ x.length ≤ d ∧ ∀ i ∈ x, Dg i := by
  intro d
  induction d with
  | zero =>
    intro t h w s hs
    cases t with
    | nd n m ts =>
      obtain ⟨_, rfl⟩ := h
      simp only [Tr.sp, Tr.sps, List.mem_singleton] at hs
      subst hs
      exact ⟨[], by simp, by simp, by simp⟩
  | succ d ih =>
    intro t h w s hs
    cases t with
    | nd n m ts =>
      obtain ⟨_, h2, h3⟩ := h
      rw [Tr.sp] at hs
      rcases List.mem_cons.mp hs with rfl | hs
      · exact ⟨[], by simp, by simp, by simp⟩
      · have key : ∀ (us : List Tr) (j : Nat), (∀ t ∈ us, Good d t) → j + us.length ≤ 5 → ∀ s ∈ Tr.sps us w j, ∃ x, s.1 = w ++ x ∧ x.length ≤ d + 1 ∧ ∀ i ∈ x, Dg i := by
          intro us
          induction us with
          | nil => intro j _ _ s hs; simp [Tr.sps] at hs
          | cons u us ih2 =>
            intro j hg hj s hs
            rw [Tr.sps] at hs
            rw [List.length_cons] at hj
            rcases List.mem_append.mp hs with h | h
            · obtain ⟨x, e, hl, hx⟩ := ih (hg u (by simp)) _ s h
              refine ⟨(j : Int) :: x, by rw [e, List.append_assoc]; rfl, by rw [List.length_cons]; omega, fun i hi => ?_⟩
              rcases List.mem_cons.mp hi with rfl | hi
              · exact ⟨by omega, by omega⟩
              · exact hx i hi
            · exact ih2 (j + 1) (fun t ht => hg t (by simp [ht])) (by omega) s h
        exact key ts 0 h3 (by omega) s hs
def digs : List Int := [0, 1, 2, 3, 4]
theorem mem_digs {i : Int} (h : Dg i) : i ∈ digs := by
  obtain ⟨h1, h2⟩ := h
  simp only [digs, List.mem_cons, List.not_mem_nil, or_false]
  omega
def allP : List (List Int) := [[]] ++ (digs.map fun a => [a]) ++ (digs.flatMap fun a => digs.map fun b => [a, b]) ++ (digs.flatMap fun a => digs.flatMap fun b => digs.map fun c => [a, b, c])
theorem mem_allP : ∀ {x : List Int}, x.length ≤ 3 → (∀ i ∈ x, Dg i) → x ∈ allP
  | [], _, _ => by simp [allP]
  | [a], _, h => by
    have h1 := mem_digs (h a (by simp))
    simp only [allP, List.mem_append, List.mem_map, List.mem_flatMap]
    exact .inl (.inl (.inr ⟨a, h1, rfl⟩))
  | [a, b], _, h => by
    have h1 := mem_digs (h a (by simp))
    have h2 := mem_digs (h b (by simp))
    simp only [allP, List.mem_append, List.mem_map, List.mem_flatMap]
    exact .inl (.inr ⟨a, h1, b, h2, rfl⟩)
  | [a, b, c], _, h => by
    have h1 := mem_digs (h a (by simp))
    have h2 := mem_digs (h b (by simp))
    have h3 := mem_digs (h c (by simp))
    simp only [allP, List.mem_append, List.mem_map, List.mem_flatMap]
    exact .inr ⟨a, h1, b, h2, c, h3, rfl⟩
  | _ :: _ :: _ :: _ :: _, h, _ => by simp at h
theorem ways_all {d : Nat} {t : Tr} (hg : Good d t) (hd : d ≤ 3) : ∀ p ∈ ways t, p ∈ allP := by
  intro p hp
  obtain ⟨s, hs, rfl⟩ := List.mem_map.mp hp
  obtain ⟨x, e, hl, hx⟩ := sp_dg d hg [] s hs
  rw [e, List.nil_append]
  exact mem_allP (by omega) hx
/-! ### the odd items -/
def oddI : List (List PyData × List Int) := [([.none], [7]), ([.tuple [.bool true]], [1]), ([.list []], [7]), ([.tuple [.int (-1)]], [7]), ([.int 0], [7]), ([.tuple [], .tuple [.tuple []]], []), ([.str ""], [7]), ([.tuple [.bool false]], [0])]
def badE : List PyData := [.none, .tuple [.bool true], .list [], .tuple [.int (-1)], .int 0, .tuple [.tuple []], .str "", .tuple [.bool false], T [9], T [0, 0, 0, 0]]
def txt (x : PyData) : Str := x.shown
theorem bad_all : (badE.all fun x => allP.all fun p => decide (x.shown ≠ (T p).shown)) = true := by decide +kernel
theorem odd_sel : (oddI.all fun x => allP.all fun p => decide ((x.1.any fun y => PyData.eqv y (T p)) = decide (p = x.2))) = true := by decide +kernel
theorem odd_txt : (oddI.all fun x => decide ((PyData.tuple x.1).shown ≠ (K []).shown ∧ (PyData.tuple x.1).shown ≠ (K [x.2]).shown)) = true := by decide +kernel
theorem filt_one {f : List Int → Bool} {c : List Int} : ∀ {ps : List (List Int)}, (ps.Pairwise fun a b => ltP a b = true) → (∀ p ∈ ps, f p = decide (p = c)) → ps.filter f = [] ∨ ps.filter f = [c]
  | [], _, _ => .inl rfl
  | p :: ps, h, hf => by
    rw [List.pairwise_cons] at h
    have hp := hf p (by simp)
    by_cases e : p = c
    · right
      rw [List.filter_cons_of_pos (by rw [hp]; exact decide_eq_true e), e]
      congr 1
      refine List.filter_eq_nil_iff.mpr fun q hq hh => ?_
      rw [hf q (by simp [hq])] at hh
      have e2 := of_decide_eq_true hh
      have e3 := h.1 q hq
      rw [e, e2, ltP_self] at e3
      cases e3
    · rw [List.filter_cons_of_neg (by rw [hp, decide_eq_false e]; decide)]
      exact filt_one h.2 fun q hq => hf q (by simp [hq])
/-- a part of the paths, in their order, is what the paths in it are -/
theorem filt_sub : ∀ {ps ws : List (List Int)}, (ps.Pairwise fun a b => ltP a b = true) → ws.Sublist ps → (ps.filter fun p => decide (p ∈ ws)) = ws := by
  intro ps ws h hs
  induction hs with
  | slnil => rfl
  | @cons l1 l2 a hs ih =>
    rw [List.pairwise_cons] at h
    have hn : a ∉ l1 := fun hm => by
      have := h.1 a (hs.mem hm)
      rw [ltP_self] at this
      cases this
    rw [List.filter_cons_of_neg (by rw [decide_eq_false hn]; decide)]
    exact ih h.2
  | @cons_cons l1 l2 a hs ih =>
    rw [List.pairwise_cons] at h
    rw [List.filter_cons_of_pos (by simp)]
    congr 1
    rw [← ih h.2]
    refine List.filter_congr fun p hp => ?_
    have hne : p ≠ a := fun e => by
      have := h.1 p hp
      rw [e, ltP_self] at this
      cases this
    rw [ih h.2]
    simp [hne]
end Law

namespace Law
open PySem PySem.Spec Ev
/-! ### texts of bounded length -/
def Tx (d : PyData) (k n : Nat) : Prop := d.showable = true ∧ d.hasDict = false ∧ d.depth ≤ k ∧ d.shown.length ≤ n
theorem Tx.mono {d : PyData} {k k' n n' : Nat} (h : Tx d k n) (hk : k ≤ k') (hn : n ≤ n') : Tx d k' n' := ⟨h.1, h.2.1, Nat.le_trans h.2.2.1 hk, Nat.le_trans h.2.2.2 hn⟩
theorem Tx.repr {d : PyData} {k n : Nat} (h : Tx d k n) (hk : k ≤ 60) (hn : n ≤ sizeLine) : reprD d = some (.str d.shown) := by
  rw [reprD]
  exact if_pos ⟨h.1, h.2.1, Nat.le_trans h.2.2.1 hk, Nat.le_trans h.2.2.2 hn⟩
def TxL : List PyData → Nat → Nat → Prop
  | [], _, _ => True
  | x :: xs, k, n => ∃ a b, n = a + 2 + b ∧ Tx x k a ∧ TxL xs k b
theorem shown_sum : ∀ (xs : List PyData) (k n : Nat), TxL xs k n → PyData.showableAll xs = true ∧ PyData.hasDictAll xs = false ∧ PyData.depthAll xs ≤ k ∧ ((PyData.shownAll xs).map (·.length)).sum + 2 * (PyData.shownAll xs).length ≤ n
  | [], k, n, h => by simp [PyData.showableAll, PyData.hasDictAll, PyData.depthAll, PyData.shownAll]
  | x :: xs, k, n, h => by
    obtain ⟨a, b, rfl, ⟨h1, h2, h3, h4⟩, h5⟩ := h
    obtain ⟨g1, g2, g3, g4⟩ := shown_sum xs k b h5
    refine ⟨by simp [PyData.showableAll, h1, g1], by simp [PyData.hasDictAll, h2, g2], by simp only [PyData.depthAll]; omega, ?_⟩
    simp only [PyData.shownAll, List.map_cons, List.sum_cons, List.length_cons]
    omega
theorem Tx.tup {xs : List PyData} {k n : Nat} (h : TxL xs k n) : Tx (.tuple xs) (k + 1) (n + 3) := by
  obtain ⟨h1, h2, h3, h4⟩ := shown_sum xs k n h
  have h5 := tupleText_len_le (PyData.shownAll xs)
  exact ⟨by simp only [PyData.showable, h1], by simp only [PyData.hasDict, h2], by simp only [PyData.depth]; omega, by simp only [PyData.shown]; omega⟩
theorem Tx.lst {xs : List PyData} {k n : Nat} (h : TxL xs k n) : Tx (.list xs) (k + 1) (n + 3) := by
  obtain ⟨h1, h2, h3, h4⟩ := shown_sum xs k n h
  have h5 := listText_len_le (PyData.shownAll xs)
  exact ⟨by simp only [PyData.showable, h1], by simp only [PyData.hasDict, h2], by simp only [PyData.depth]; omega, by simp only [PyData.shown]; omega⟩
theorem TxL.all {k n : Nat} : ∀ {xs : List PyData}, (∀ x ∈ xs, Tx x k n) → TxL xs k (xs.length * (n + 2))
  | [], _ => trivial
  | x :: xs, h => ⟨n, xs.length * (n + 2), by rw [List.length_cons, Nat.succ_mul]; omega, h x (by simp), TxL.all fun y hy => h y (by simp [hy])⟩
theorem TxL.one {x : PyData} {k n : Nat} (h : Tx x k n) : TxL [x] k (n + 2) := ⟨n, 0, rfl, h, trivial⟩
theorem TxL.two {x y : PyData} {k n m : Nat} (h : Tx x k n) (g : Tx y k m) : TxL [x, y] k (n + m + 4) := ⟨n, m + 2, by omega, h, .one g⟩
theorem TxL.three {x y z : PyData} {k n m l : Nat} (h : Tx x k n) (g : Tx y k m) (f : Tx z k l) : TxL [x, y, z] k (n + m + l + 6) := ⟨n, m + l + 4, by omega, h, .two g f⟩
def Sm (i : Int) : Prop := -1 ≤ i ∧ i ≤ 9
theorem tx_int {i : Int} (h : Sm i) : Tx (.int i) 0 2 := by
  obtain ⟨h1, h2⟩ := h
  have : i = -1 ∨ i = 0 ∨ i = 1 ∨ i = 2 ∨ i = 3 ∨ i = 4 ∨ i = 5 ∨ i = 6 ∨ i = 7 ∨ i = 8 ∨ i = 9 := by omega
  rcases this with rfl | rfl | rfl | rfl | rfl | rfl | rfl | rfl | rfl | rfl | rfl <;> exact ⟨by decide +kernel, by decide +kernel, by decide +kernel, by decide +kernel⟩
theorem tx_T {w : List Int} (hl : w.length ≤ 4) (h : ∀ i ∈ w, Sm i) : Tx (T w) 1 19 := by
  have := Tx.tup (TxL.all (xs := w.map PyData.int) (k := 0) (n := 2) fun x hx => by
    obtain ⟨i, hi, rfl⟩ := List.mem_map.mp hx
    exact tx_int (h i hi))
  exact this.mono (by omega) (by rw [List.length_map]; omega)
theorem tx_K {ws : List (List Int)} (hl : ws.length ≤ 1000) (h : ∀ w ∈ ws, w.length ≤ 4 ∧ ∀ i ∈ w, Sm i) : Tx (K ws) 2 30000 := by
  have := Tx.tup (TxL.all (xs := ws.map T) (k := 1) (n := 19) fun x hx => by
    obtain ⟨w, hw, rfl⟩ := List.mem_map.mp hx
    exact tx_T (h w hw).1 (h w hw).2)
  exact this.mono (by omega) (by rw [List.length_map]; omega)
theorem tx_Lw {ws : List (List Int)} (hl : ws.length ≤ 1000) (h : ∀ w ∈ ws, w.length ≤ 4 ∧ ∀ i ∈ w, Sm i) : Tx (Lw ws) 2 30000 := by
  have := Tx.lst (TxL.all (xs := ws.map T) (k := 1) (n := 19) fun x hx => by
    obtain ⟨w, hw, rfl⟩ := List.mem_map.mp hx
    exact tx_T (h w hw).1 (h w hw).2)
  exact this.mono (by omega) (by rw [List.length_map]; omega)
theorem tx_name {s : Str} (h : s ∈ names) : Tx (.str s) 0 7 := by
  simp only [names, List.mem_cons, List.not_mem_nil, or_false] at h
  rcases h with rfl | rfl | rfl <;> exact ⟨by decide +kernel, by decide +kernel, by decide +kernel, by decide +kernel⟩
def bT : Nat → Nat
  | 0 => 32
  | d + 1 => 5 * bT d + 32
theorem tx_tr : ∀ (d : Nat) {t : Tr}, Good d t → Tx t.d (2 * d + 2) (bT d) := by
  intro d
  induction d with
  | zero =>
    intro t h
    cases t with
    | nd s m ts =>
      obtain ⟨⟨h1, h2⟩, rfl⟩ := h
      rw [tr_d]
      have hm : Sm m := ⟨by omega, by omega⟩
      have h3 : Tx (.tuple []) 1 3 := Tx.tup (k := 0) (n := 0) trivial
      exact (Tx.tup (.three ((tx_name h1).mono (by omega) (Nat.le_refl _)) ((tx_int hm).mono (by omega) (Nat.le_refl _)) h3)).mono (by omega) (by simp [bT])
  | succ d ih =>
    intro t h
    cases t with
    | nd s m ts =>
      obtain ⟨⟨h1, h2⟩, h3, h4⟩ := h
      rw [tr_d]
      have hm : Sm m := ⟨by omega, by omega⟩
      have h5 : Tx (.tuple (ts.map Tr.d)) (2 * d + 3) (ts.length * (bT d + 2) + 3) := by
        have := Tx.tup (TxL.all (xs := ts.map Tr.d) (k := 2 * d + 2) (n := bT d) fun x hx => by
          obtain ⟨u, hu, rfl⟩ := List.mem_map.mp hx
          exact ih (h4 u hu))
        rw [List.length_map] at this
        exact this
      have h6 : ts.length * (bT d + 2) ≤ 5 * (bT d + 2) := Nat.mul_le_mul_right _ h3
      exact (Tx.tup (.three ((tx_name h1).mono (by omega) (Nat.le_refl _)) ((tx_int hm).mono (by omega) (Nat.le_refl _)) h5)).mono (by omega) (by simp only [bT]; omega)
theorem tx_top : Tx (.str "top") 0 6 := ⟨by decide +kernel, by decide +kernel, by decide +kernel, by decide +kernel⟩
theorem tx_lost : Tx (.str "lost") 0 6 := ⟨by decide +kernel, by decide +kernel, by decide +kernel, by decide +kernel⟩
theorem tx_told : Tx (.str "told") 0 6 := ⟨by decide +kernel, by decide +kernel, by decide +kernel, by decide +kernel⟩
theorem tx_tr3 {t : Tr} (h : GS 3 t) : Tx t.d 8 4992 := tx_tr 3 (GS.good 3 h)
theorem tx_pc {p : Pc} (h : PcOk p) : Tx p.d 10 24990 := by
  cases p with
  | top t =>
    rw [Pc.d]
    exact (Tx.tup (.two (tx_top.mono (by omega) (Nat.le_refl _)) (tx_tr3 h))).mono (by omega) (by omega)
  | lost ts =>
    obtain ⟨_, h1, h2, _⟩ := h
    rw [Pc.d]
    have h5 : Tx (.tuple (ts.map Tr.d)) 9 (ts.length * 4994 + 3) := by
      have := Tx.tup (TxL.all (xs := ts.map Tr.d) (k := 8) (n := 4992) fun x hx => by
        obtain ⟨u, hu, rfl⟩ := List.mem_map.mp hx
        exact tx_tr3 (h2 u hu))
      rw [List.length_map] at this
      exact this
    exact (Tx.tup (.two (tx_lost.mono (by omega) (Nat.le_refl _)) h5)).mono (by omega) (by omega)
def seeD (l : List Pc) : PyData := .tuple (l.map Pc.d)
theorem raw_pcs (has : List Int → Bool) {d : Nat} {t : Tr} (hg : GS d t) (hd : d ≤ 3) : ∀ p ∈ rawS has t, PcOk p := fun p hp => raw_ok has hg hd [] p ((List.mergeSort_perm _ leP).mem_iff.mp hp)
theorem raw_len (has : List Int → Bool) (t : Tr) : (rawS has t).length ≤ t.sz + 1 := by
  have h1 := lost_len has t []
  have h2 : (topOf has t []).length ≤ 1 := by unfold topOf; split <;> simp
  rw [rawS, srtP, List.length_mergeSort, List.length_append]
  omega
theorem tx_raw (has : List Int → Bool) {t : Tr} (hg : GS 3 t) (hz : t.sz ≤ 6) : Tx (seeD (rawS has t)) 11 200000 := by
  have := Tx.tup (TxL.all (xs := (rawS has t).map Pc.d) (k := 10) (n := 24990) fun x hx => by
    obtain ⟨p, hp, rfl⟩ := List.mem_map.mp hx
    exact tx_pc (raw_pcs has hg (by omega) p hp))
  have hl := raw_len has t
  exact this.mono (by omega) (by rw [List.length_map]; omega)
def usb : PyData := .tuple [.str "usable", .str "kept", .int (-1)]
def tld (ws : List (List Int)) (t : Tr) : PyData := .tuple [.str "told", seeD (rawS (hasL ws) t)]
theorem tx_usb : Tx usb 12 300000 := Tx.mono (k := 1) (n := 30) ⟨by decide +kernel, by decide +kernel, by decide +kernel, by decide +kernel⟩ (by omega) (by omega)
theorem tx_tld (ws : List (List Int)) {t : Tr} (hg : GS 3 t) (hz : t.sz ≤ 6) : Tx (tld ws t) 12 300000 := (Tx.tup (.two (tx_told.mono (by omega) (Nat.le_refl _)) (tx_raw _ hg hz))).mono (by omega) (by omega)
theorem tx_pair {t : Tr} {x : PyData} (hg : GS 3 t) (hx : Tx x 5 30000) : Tx (.tuple [t.d, x]) 12 300000 := (Tx.tup (.two (tx_tr3 hg) (hx.mono (by omega) (Nat.le_refl _)))).mono (by omega) (by omega)
/-- a text with one more piece at its end is longer -/
theorem txt_more {ws : List (List Int)} {w : List Int} : (K (ws ++ [w])).shown ≠ (K ws).shown := by
  intro e
  have e2 : (K (ws ++ [w])).shown.length = (K ws).shown.length := by rw [e]
  have hall : ∀ xs : List PyData, PyData.shownAll xs = xs.map PyData.shown := by
    intro xs
    induction xs with
    | nil => simp [PyData.shownAll]
    | cons x xs ih => simp [PyData.shownAll, ih]
  have a1 := piled_le_tupleText (PyData.shownAll ((ws ++ [w]).map T))
  have a2 := tupleText_len_le (PyData.shownAll (ws.map T))
  simp only [K, PyData.shown] at e2
  rw [hall, List.map_append, List.map_append, piled_append] at a1
  rw [hall] at a2
  rw [hall, hall, List.map_append, List.map_append] at e2
  have a3 := piled_le_tupleText (PyData.shownAll (w.map PyData.int))
  have a4 : (T w).shown.length ≥ 2 := by
    rw [T]
    simp only [PyData.shown]
    unfold tupleText
    rw [strLen_append, strLen_append]
    have q1 : ((("(" : String) : Str)).length = 1 := rfl
    have q3 : ∀ n : Nat, 1 ≤ (((if n == 1 then ",)" else ")" : String) : Str)).length := fun n => by split <;> decide
    have q4 := q3 (PyData.shownAll (w.map PyData.int)).length
    omega
  have a5 : piled ((ws.map T).map PyData.shown) = (((ws.map T).map PyData.shown).map (·.length)).sum + 2 * ((ws.map T).map PyData.shown).length := by
    generalize (ws.map T).map PyData.shown = l
    induction l with
    | nil => rfl
    | cons x l ih => rw [piled_cons, ih, List.map_cons, List.sum_cons, List.length_cons]; omega
  have a6 : piled (([w].map T).map PyData.shown) = (T w).shown.length + 2 := rfl
  omega
theorem join_head (x : Str) : ∀ r : List Str, ∃ z : List Nat, (Str.join ", " (x :: r)).cps.toList = x.cps.toList ++ z
  | [] => ⟨[], by show x.cps.toList = _; simp⟩
  | y :: r => ⟨(((", " : String) : Str) ++ Str.join ", " (y :: r)).cps.toList, by
      show ((x ++ ", " ++ Str.join ", " (y :: r) : Str)).cps.toList = _
      simp [Str.cps_append]⟩
theorem tup_head (x : Str) (r : List Str) : ∃ z : List Nat, (tupleText (x :: r)).cps.toList = 40 :: (x.cps.toList ++ z) := by
  obtain ⟨z, e⟩ := join_head x r
  unfold tupleText
  refine ⟨z ++ (((if (x :: r).length == 1 then ",)" else ")" : String) : Str)).cps.toList, ?_⟩
  rw [Str.cps_append, Str.cps_append, Array.toList_append, Array.toList_append, e]
  have q1 : ((("(" : String) : Str)).cps.toList = [40] := rfl
  rw [q1]
  simp
theorem dig_head {i : Int} (h : Dg i) : ∃ c z, (PyData.int i).shown.cps.toList = c :: z ∧ c ≠ 41 := by
  obtain ⟨h1, h2⟩ := h
  have : i = 0 ∨ i = 1 ∨ i = 2 ∨ i = 3 ∨ i = 4 := by omega
  rcases this with rfl | rfl | rfl | rfl | rfl
  · exact ⟨48, [], by decide +kernel, by decide⟩
  · exact ⟨49, [], by decide +kernel, by decide⟩
  · exact ⟨50, [], by decide +kernel, by decide⟩
  · exact ⟨51, [], by decide +kernel, by decide⟩
  · exact ⟨52, [], by decide +kernel, by decide⟩
theorem txt_head {i : Int} {x : List Int} {r r' : List (List Int)} (h : Dg i) : (K ((i :: x) :: r)).shown ≠ (K ([] :: r')).shown := by
  intro e
  have e2 := congrArg (fun s : Str => s.cps.toList) e
  simp only [K, List.map_cons, PyData.shown, PyData.shownAll] at e2
  obtain ⟨z1, q1⟩ := tup_head (T (i :: x)).shown (PyData.shownAll (r.map T))
  obtain ⟨z2, q2⟩ := tup_head (T []).shown (PyData.shownAll (r'.map T))
  rw [q1, q2] at e2
  obtain ⟨z3, q3⟩ := tup_head (PyData.int i).shown (PyData.shownAll (x.map PyData.int))
  have q4 : (T (i :: x)).shown = tupleText ((PyData.int i).shown :: PyData.shownAll (x.map PyData.int)) := by simp only [T, List.map_cons, PyData.shown, PyData.shownAll]
  obtain ⟨c, z4, q5, q6⟩ := dig_head h
  have q7 : (T []).shown.cps.toList = [40, 41] := by decide +kernel
  rw [q4, q3, q5, q7] at e2
  simp at e2
  exact q6 e2.1
end Law

namespace Law
open PySem PySem.Spec Ev
open PySem.W (dataLt)
section
variable {fn : Fn} {ρ : Rho} {M M1 M2 : Sto} {p : Pos} {r : List CS} {Q : OutS → Prop}
theorem forE_ret {t : TgV} {b : EvS} {src : ISrc} {xs : List Vl} (hs : ∀ i M', i ≤ xs.length → src.step i M' = some xs[i]?) (P : Nat → Rho → Sto → Prop) (R : Vl → Sto → Prop) (k : Nat) (y : Vl) (hk : xs[k]? = some y)
    (h : ∀ i x ρ M, i < k → xs[i]? = some x → P i ρ M → ∃ ρ1, t x ρ M = some ρ1 ∧ ∃ ρ2 M2, (b ρ1 M = .nx ρ2 M2 ∨ b ρ1 M = .ct ρ2 M2) ∧ P (i + 1) ρ2 M2)
    (hb : ∀ ρ M, P k ρ M → ∃ ρ1, t y ρ M = some ρ1 ∧ ∃ v M2, b ρ1 M = .rt v M2 ∧ R v M2) :
    ∀ n i ρ M, i ≤ k → xs.length - i < n → P i ρ M → ∃ v M', forE t b src n i ρ M = .rt v M' ∧ R v M' := by
  have hkl := (List.getElem?_eq_some_iff.mp hk).1
  intro n
  induction n with
  | zero => intro i ρ M _ hk; omega
  | succ n ih =>
    intro i ρ M hi hn hP
    simp only [forE, hs i M (by omega)]
    by_cases e : i = k
    · subst e
      obtain ⟨ρ1, h1, v, M2, h2, h3⟩ := hb ρ M hP
      rw [hk]
      simp only [h1, h2]
      exact ⟨v, M2, rfl, h3⟩
    · cases e2 : xs[i]? with
      | none =>
        have : xs.length ≤ i := List.getElem?_eq_none_iff.mp e2
        omega
      | some x =>
        obtain ⟨ρ1, h1, ρ2, M2, h2, h3⟩ := h i x ρ M (by omega) e2 hP
        obtain ⟨v, M', h4, h5⟩ := ih (i + 1) ρ2 M2 (by omega) (by omega) h3
        refine ⟨v, M', ?_, h5⟩
        simp only [h1]
        rcases h2 with h2 | h2 <;> simp only [h2] <;> exact h4
theorem q_forR {t : CT} {it : CI} {b : List CS} {src : ISrc} {xs : List Vl} (hgi : it.ev fn ρ M = .ok src M1) (w : Walks src M1 xs) (P : Nat → Rho → Sto → Prop) (k : Nat) (y : Vl) (hk : xs[k]? = some y) (h0 : P 0 ρ M1)
    (h : ∀ i x ρ M, i < k → xs[i]? = some x → P i ρ M → ∃ ρ1, t.ev x ρ M = some ρ1 ∧ Sat (Turn P i) (evSs fn b ρ1 M))
    (hb : ∀ ρ M, P k ρ M → ∃ ρ1, t.ev y ρ M = some ρ1 ∧ Sat (fun o => ∃ v M2, o = .rt v M2 ∧ Q (.rt v M2)) (evSs fn b ρ1 M)) : Sat Q (evSs fn (.forr t it b p :: r) ρ M) := by
  obtain ⟨v, M', h1, h2⟩ := forE_ret (t := t.ev) (b := evSs fn b) w.step P (fun v M2 => Q (.rt v M2)) k y hk h hb (src.size M1 + 1) 0 ρ M1 (Nat.zero_le _) (by rw [w.size]; omega) h0
  refine Sat.eq (o' := .rt v M') ?_ h2
  show (gsFor (it.ev fn) t.ev (evSs fn b) ρ M).then (evSs fn r) = _
  simp only [gsFor, hgi, bindS, h1, OutS.then]
theorem eT_orL {a b : CE} (ha : CE.evT fn a ρ M = .ok true M) : CE.evT fn (.or a (.cons b .nil) p) ρ M = .ok true M := by
  show evOrT fn (CE.evT fn a) (.cons b .nil) ρ M = _
  simp only [evOrT, gOrT, ha, Out.bind, if_true]
theorem eT_or2 {a b : CE} {k : Bool} (ha : CE.evT fn a ρ M = .ok false M) (hb : CE.evT fn b ρ M = .ok k M) : CE.evT fn (.or a (.cons b .nil) p) ρ M = .ok k M := by
  show evOrT fn (CE.evT fn a) (.cons b .nil) ρ M = _
  simp only [evOrT, gOrT, ha, Out.bind, hb]
  rfl
theorem eT_and2 {a b : CE} {k : Bool} (ha : CE.evT fn a ρ M = .ok true M) (hb : CE.evT fn b ρ M = .ok k M) : CE.evT fn (.and a (.cons b .nil) p) ρ M = .ok k M := by
  show evAndT fn (CE.evT fn a) (.cons b .nil) ρ M = _
  simp only [evAndT, gAndT, ha, Out.bind, if_true, hb]
theorem eT_andF {a b : CE} (ha : CE.evT fn a ρ M = .ok false M) : CE.evT fn (.and a (.cons b .nil) p) ρ M = .ok false M := by
  show evAndT fn (CE.evT fn a) (.cons b .nil) ρ M = _
  simp only [evAndT, gAndT, ha, Out.bind]
  rfl
theorem e_repr {e : CE} {pf : Pos} {x : PyData} {s : Str} (h : CE.ev fn e ρ M = .ok (.d x) M1) (hr : reprD x = some (.str s)) : CE.ev fn (.blt .repr e .nil pf p) ρ M = .ok (.d (.str s)) M1 := by
  refine e_blt1 (v := .d x) (M1 := M1) h ?_
  simp only [Blt.ev, liftC1, lift1, peek, hr, give]
theorem eT_isa {e : CE} {T : Ty} {pT pf : Pos} {x : PyData} {k : Bool} (h : CE.ev fn e ρ M = .ok (.d x) M1) (hk : isaD T x = some (.bool k)) : CE.evT fn (.isa T e pT pf p) ρ M = .ok k M1 := by
  show gTru (gUn (lift1 (isaD T)) (CE.ev fn e)) ρ M = _
  simp only [gTru, gUn, h, Out.bind, lift1, peek, hk, give]
  rfl
end
/-! ### due -/
theorem T_map (l : List (List Int)) : (l.map T).map Vl.d = l.map fun w => Vl.d (T w) := by
  rw [List.map_map]
  rfl
def strL (ps : List (List Int)) : List PyData := ps.map fun p => .str (T p).shown
theorem strL_dep : ∀ ps : List (List Int), PyData.depthAll (strL ps) = 0
  | [] => by simp [strL, PyData.depthAll]
  | p :: ps => by
    have := strL_dep ps
    simp only [strL] at this
    simp [strL, PyData.depthAll, PyData.depth, this]
theorem nin_strL (ps : List (List Int)) (s : Str) : inD true (.str s) (.list (strL ps)) = some (.bool (!decide (∃ p ∈ ps, (T p).shown = s))) := by
  simp only [inD]
  rw [if_pos (by rw [strL_dep]; omega)]
  congr 2
  rw [Bool.true_xor]
  congr 1
  rw [strL, List.any_map]
  by_cases h : ∃ p ∈ ps, (T p).shown = s
  · rw [decide_eq_true h]
    obtain ⟨p, hp, e⟩ := h
    exact List.any_eq_true.mpr ⟨p, hp, by simp [PyData.eqv, e]⟩
  · rw [decide_eq_false h]
    refine List.any_eq_false.mpr fun p hp e => h ⟨p, hp, ?_⟩
    simpa [PyData.eqv] using e
def fnD (n : Nat) : Fn := some (Ev.run tb n)
section
variable {n : Nat} {ρ : Rho} {M : Sto} {ps : List (List Int)} {xs : List PyData} {i : Nat} {x : PyData}
theorem ev_v {fn : Fn} {j : Nat} {s : Str} {p : Pos} {v : Vl} (h : ρ[j]? = some (some v)) : CE.ev fn (.var j s p) ρ M = .ok v M := by
  show gVar j ρ M = _
  simp only [gVar, h]
def SmP (ps : List (List Int)) : Prop := ps.length ≤ 1000 ∧ ∀ w ∈ ps, w.length ≤ 4 ∧ ∀ i ∈ w, Sm i
theorem due_mem (a : Vl) (b : Option Vl) (c d e f : Option Vl) (hp : SmP ps) (hx : Tx x 20 1000000) :
    ∀ pr p1 p2 p3 p4 p5 p6 p7 p8 p9, CE.evT (fnD n) (.cmp .notin (.blt .repr (.var 4 "_law_way" p1) .nil p2 p3) (.lc false (.blt .repr (.var 7 "_law_own" p4) .nil p5 p6) (.nm 7 "_law_own" p7) (.val (.var 2 "_law_ways" p8)) .none sc25 [(".0", 5), ("_law_own", 7)] p9) pr) [some a, b, some (.d (.list (ps.map T))), c, some (.d x), d, e, f] M = .ok (!decide (∃ p ∈ ps, (T p).shown = x.shown)) M := by
  intro pr p1 p2 p3 p4 p5 p6 p7 p8 p9
  have wl := walks_lst (ps.map T) M
  rw [T_map] at wl
  refine eT_cmp (x := .d (.str x.shown)) (y := .d (.list (strL ps))) (M1 := M) (M2 := M) (e_repr (x := x) rfl (hx.repr (by omega) (by rw [sizeLine_eq]; omega))) ?_ ?_
  · refine e_lcTA (src := .lst (.d (.list (ps.map T)))) (gi_val rfl) wl (by rw [sizeLine_eq]; have := hp.1; omega) (fun p => .str (T p).shown) ?_
    intro i p hp2 acc
    obtain ⟨h1, h2⟩ := hp.2 p (List.mem_of_getElem? hp2)
    exact ⟨_, rfl, e_repr (x := T p) rfl ((tx_T h1 h2).repr (by omega) (by rw [sizeLine_eq]; omega))⟩
  · simp only [COp.ev, inV, dctAt, lift2, peek, nin_strL, give]
end
theorem ix_at {xs : List PyData} {i : Nat} {x : PyData} (h : xs[i]? = some x) : L2.atI xs (i : Int) = some x := by
  unfold L2.atI L2.ixN
  have hi := (List.getElem?_eq_some_iff.mp h).1
  rw [if_pos (by omega), if_pos (by omega)]
  simpa using h
/-- what the walk says of a place -/
def Fine (ps : List (List Int)) (xs : List PyData) (i : Nat) : Prop := ∃ x, xs[i]? = some x ∧ (∃ p ∈ ps, (T p).shown = x.shown) ∧ (i = 0 ∨ ∃ y, xs[i - 1]? = some y ∧ leD x y = some (.bool false))
def Wrong (ps : List (List Int)) (xs : List PyData) (i : Nat) : Prop := ∃ x, xs[i]? = some x ∧ ((¬ ∃ p ∈ ps, (T p).shown = x.shown) ∨ ((∃ p ∈ ps, (T p).shown = x.shown) ∧ 0 < i ∧ ∃ y, xs[i - 1]? = some y ∧ leD x y = some (.bool true)))
def DueOk (n : Nat) (t : Tr) (x d : PyData) : Prop := ∀ M, Ev.run tb n 18 [.d t.d, .d x] M = .ok (.d d) M
theorem ways_map (t : Tr) : (ways t).map T = (t.sp []).map fun s => T s.1 := by rw [ways, List.map_map]; rfl
theorem e_ways {n : Nat} {t : Tr} {ρ : Rho} {M : Sto} {q1 q2 q3 q4 q5 q6 q7 q8 q9 : Pos} {sc : Scope} {own : List (Str × Nat)} {j : Nat} (hg : GS 3 t) (h0 : ρ[0]? = some (some (.d t.d))) (hj : ∀ v, ∃ ρ1, (CT.nm j "_law_span" q1).ev v (wipeR ρ (own.map (·.2))) = (fun M => some ρ1) ∧ ρ1[j]? = some (some v)) :
    CE.ev (fnD (n + 4)) (.lc false (.ix (.var j "_law_span" q2) (.int 0 0 q3) q4) (.nm j "_law_span" q1) (.val (.call 10 "_law_spans" (.var 0 "_law_root" q5) (.cons (.tup .nil 0 q6) .nil) q7 q8)) .none sc own q9) ρ M = .ok (.d (.list ((ways t).map T))) M := by
  have e : _ = _ := s_spans 3 t (GS.good 3 hg) (by decide) (n + 3) [] M (by omega) (by simp)
  have hsz := sp_len 3 (GS.good 3 hg) []
  rw [ways_map]
  have wl := walks_lst ((t.sp []).map Sp.d) M
  rw [spans_map] at wl
  refine e_lcTA (src := .lst (.d (.list ((t.sp []).map Sp.d)))) (gi_val (e_call (M1 := M) (xs := [.d t.d, .d (T [])]) (es_cons (M1 := M) (ev_v h0) (es_cons (M1 := M) rfl es_nil)) e)) wl (by rw [sizeLine_eq]; omega) (fun s => T s.1) ?_
  intro i s hs acc
  obtain ⟨ρ1, h1, h2⟩ := hj (.d s.d)
  refine ⟨ρ1, by rw [h1], ?_⟩
  refine e_ix (x := .d s.d) (y := .d (.int 0)) (M1 := M ++ [.lst acc]) (M2 := M ++ [.lst acc]) (ev_v h2) rfl rfl
theorem ways_sm {t : Tr} (hg : GS 3 t) (hz : t.sz ≤ 6) : SmP (ways t) := by
  refine ⟨by rw [ways_len]; omega, fun w hw => ?_⟩
  obtain ⟨s, hs, rfl⟩ := List.mem_map.mp hw
  obtain ⟨x, e, hl, hx⟩ := sp_dg 3 (GS.good 3 hg) [] s hs
  rw [e, List.nil_append]
  exact ⟨by omega, fun i hi => ⟨by have := (hx i hi).1; omega, by have := (hx i hi).2; omega⟩⟩
theorem due_odd (n : Nat) {t : Tr} {x : PyData} (hg : GS 3 t) (hx : isaD .tuple x = some (.bool false)) : DueOk (n + 7) t x usb := by
  intro M
  show Sat (fun o => o = _) _
  rw [runS (n + 6) 18 f18.F rfl]
  refine q_run rfl ?_
  refine q_set (v := .d (.list ((ways t).map T))) (M1 := M) (e_ways (n := n + 2) hg rfl fun v => ⟨_, rfl, rfl⟩) ?_
  refine q_if2 (k := true) (M1 := M) (eT_not (k := false) (eT_isa (x := x) rfl hx)) (fun _ => ?_) (fun h => by cases h)
  refine q_ret (v := .d usb) (M1 := M) ?_ (fin_ret M _)
  rfl
abbrev rhoD (t : Tr) (xs : List PyData) (c e : Option Vl) : Rho := [some (.d t.d), some (.d (.tuple xs)), some (.d (.list ((ways t).map T))), c, e, none, none, none]
theorem enu_at {xs : List PyData} {i : Nat} {v : Vl} (h : (enuW xs)[i]? = some v) : ∃ x, xs[i]? = some x ∧ v = .d (.tuple [.int (i : Nat), x]) := by
  rw [enuW_at] at h
  cases e : xs[i]? with
  | none => rw [e] at h; cases h
  | some x => rw [e] at h; exact ⟨x, rfl, (Option.some.inj h).symm⟩
theorem gt0 (i : Nat) (M : Sto) : COp.ev .gt (.d (.int (i : Nat))) (.d (.int 0)) M = .ok (.d (.bool (decide (0 < i)))) M := by
  simp only [COp.ev, lift2, peek, cmpI, give]
  congr 3
  simp
theorem le_ix {fn : Fn} {ρ : Rho} {M : Sto} {xs : List PyData} {x y : PyData} {i : Nat} {b : Bool} {p1 p2 p3 p4 p5 p6 p7 : Pos} (h1 : ρ[1]? = some (some (.d (.tuple xs)))) (h3 : ρ[3]? = some (some (.d (.int (i : Nat))))) (h4 : ρ[4]? = some (some (.d x))) (hi : 0 < i) (hy : xs[i - 1]? = some y) (hl : leD x y = some (.bool b)) :
    CE.evT fn (.cmp .le (.var 4 "_law_way" p1) (.ix (.var 1 "_law_item" p2) (.bin .sub (.var 3 "_law_k" p3) (.int 1 0 p4) p5) p6) p7) ρ M = .ok b M := by
  have hs : subD (.int (i : Nat)) (.int 1) = some (.int ((i - 1 : Nat) : Int)) := by
    rw [subI]
    congr 2
    omega
  refine eT_cmp (x := .d x) (y := .d y) (M1 := M) (M2 := M) (ev_v h4) ?_ ?_
  · refine e_ix (x := .d (.tuple xs)) (y := .d (.int ((i - 1 : Nat) : Int))) (M1 := M) (M2 := M) (ev_v h1) (e_bin (x := .d (.int (i : Nat))) (y := .d (.int 1)) (M1 := M) (M2 := M) (ev_v h3) rfl ?_) ?_
    · simp only [lift2, peek, BOp.ev, hs, give]
    · have := ix_at hy
      simp only [ixV, dctAt, lift2, peek, ixT, this, give]
  · simp only [COp.ev, lift2, peek, hl, give]
theorem due_loop (n : Nat) {t : Tr} {xs : List PyData} (hg : GS 3 t) (hz : t.sz ≤ 6) (hx : ∀ x ∈ xs, Tx x 20 1000000) (M : Sto) (Q : Out Vl → Prop)
    (h : ((∀ i, i < xs.length → Fine (ways t) xs i) ∧ ∀ c e, Sat (fun o => Q (finR false M.length o)) (evSs (fnD (n + 6)) [.ret (.tup (.cons (.str "told" 0 ⟨145, 12, 145, 18⟩) (.cons (.call 13 "_law_own_sight" (.var 0 "_law_root" ⟨145, 35, 145, 44⟩) (.cons (.blt .list (.var 1 "_law_item" ⟨145, 51, 145, 60⟩) .nil ⟨145, 46, 145, 50⟩ ⟨145, 46, 145, 61⟩) .nil) ⟨145, 20, 145, 34⟩ ⟨145, 20, 145, 62⟩) .nil)) 0 ⟨145, 11, 145, 63⟩) ⟨145, 4, 145, 63⟩] (rhoD t xs c e) M)) ∨ ((∃ k, k < xs.length ∧ (∀ i, i < k → Fine (ways t) xs i) ∧ Wrong (ways t) xs k) ∧ Q (.ok (.d usb) M))) :
    Sat Q (Ev.run tb (n + 7) 18 [.d t.d, .d (.tuple xs)] M) := by
  have hsm := ways_sm hg hz
  have fine : ∀ (i : Nat) (v : Vl) (ρ : Rho) (M' : Sto), (enuW xs)[i]? = some v → Fine (ways t) xs i → (∃ c e, ρ = rhoD t xs c e ∧ M' = M) → ∃ x ρ1, xs[i]? = some x ∧ ρ1 = rhoD t xs (some (.d (.int (i : Nat)))) (some (.d x)) ∧ CT.ev (.tup (.cons (.nm 3 "_law_k" ⟨142, 8, 142, 14⟩) (.cons (.nm 4 "_law_way" ⟨142, 16, 142, 24⟩) .nil)) 0 ⟨142, 8, 142, 24⟩) v ρ M' = some ρ1 := by
    intro i v ρ M' hv _ hρ
    obtain ⟨c, e, rfl, rfl⟩ := hρ
    obtain ⟨x, h1, rfl⟩ := enu_at hv
    exact ⟨x, _, h1, rfl, rfl⟩
  rw [runS (n + 6) 18 f18.F rfl]
  refine q_run rfl ?_
  refine q_set (v := .d (.list ((ways t).map T))) (M1 := M) (e_ways (n := n + 2) hg rfl fun v => ⟨_, rfl, rfl⟩) ?_
  refine q_skip (M1 := M) (eT_not (k := true) (eT_isa (x := .tuple xs) rfl rfl)) ?_
  have step : ∀ (i : Nat) (v : Vl) (ρ : Rho) (M' : Sto), (enuW xs)[i]? = some v → Fine (ways t) xs i → (∃ c e, ρ = rhoD t xs c e ∧ M' = M) → ∃ ρ1, CT.ev (.tup (.cons (.nm 3 "_law_k" ⟨142, 8, 142, 14⟩) (.cons (.nm 4 "_law_way" ⟨142, 16, 142, 24⟩) .nil)) 0 ⟨142, 8, 142, 24⟩) v ρ M' = some ρ1 ∧ (∃ c e, ρ1 = rhoD t xs c e ∧ M' = M) ∧ CE.evT (fnD (n + 6)) (.or (.cmp .notin (.blt .repr (.var 4 "_law_way" ⟨143, 16, 143, 24⟩) .nil ⟨143, 11, 143, 15⟩ ⟨143, 11, 143, 25⟩) (.lc false (.blt .repr (.var 7 "_law_own" ⟨143, 39, 143, 47⟩) .nil ⟨143, 34, 143, 38⟩ ⟨143, 34, 143, 48⟩) (.nm 7 "_law_own" ⟨143, 53, 143, 61⟩) (.val (.var 2 "_law_ways" ⟨143, 65, 143, 74⟩)) .none sc25 [(".0", 5), ("_law_own", 7)] ⟨143, 33, 143, 75⟩) ⟨143, 11, 143, 75⟩) (.cons (.and (.cmp .gt (.var 3 "_law_k" ⟨143, 80, 143, 86⟩) (.int 0 0 ⟨143, 89, 143, 90⟩) ⟨143, 80, 143, 90⟩) (.cons (.cmp .le (.var 4 "_law_way" ⟨143, 95, 143, 103⟩) (.ix (.var 1 "_law_item" ⟨143, 107, 143, 116⟩) (.bin .sub (.var 3 "_law_k" ⟨143, 117, 143, 123⟩) (.int 1 0 ⟨143, 126, 143, 127⟩) ⟨143, 117, 143, 127⟩) ⟨143, 107, 143, 128⟩) ⟨143, 95, 143, 128⟩) .nil) ⟨143, 80, 143, 128⟩) .nil) ⟨143, 11, 143, 129⟩) ρ1 M' = .ok false M' := by
    intro i v ρ M' hv hf hρ
    obtain ⟨x, ρ1, h1, rfl, h3⟩ := fine i v ρ M' hv hf hρ
    obtain ⟨c, e, rfl, rfl⟩ := hρ
    refine ⟨_, h3, ⟨_, _, rfl, rfl⟩, ?_⟩
    obtain ⟨x', g1, g2, g3⟩ := hf
    obtain rfl : x = x' := by rw [h1] at g1; exact Option.some.inj g1
    have dm := due_mem (n := n + 6) (M := M') (.d t.d) (some (.d (.tuple xs))) (some (.d (.int (i : Nat)))) none none none hsm (hx x (List.mem_of_getElem? h1)) ⟨143, 11, 143, 75⟩ ⟨143, 16, 143, 24⟩ ⟨143, 11, 143, 15⟩ ⟨143, 11, 143, 25⟩ ⟨143, 39, 143, 47⟩ ⟨143, 34, 143, 38⟩ ⟨143, 34, 143, 48⟩ ⟨143, 53, 143, 61⟩ ⟨143, 65, 143, 74⟩ ⟨143, 33, 143, 75⟩
    rw [decide_eq_true g2] at dm
    refine eT_or2 dm ?_
    by_cases hi : i = 0
    · refine eT_andF (eT_cmp (x := .d (.int (i : Nat))) (y := .d (.int 0)) (M1 := M') (M2 := M') rfl rfl ?_)
      rw [gt0, hi]
      rfl
    · rcases g3 with g3 | ⟨y, g4, g5⟩
      · exact absurd g3 hi
      · refine eT_and2 (eT_cmp (x := .d (.int (i : Nat))) (y := .d (.int 0)) (M1 := M') (M2 := M') rfl rfl ?_) (le_ix rfl rfl rfl (by omega) g4 g5)
        rw [gt0, decide_eq_true (by omega)]
  rcases h with ⟨hf, hq⟩ | ⟨⟨k, hk, hf, hw⟩, hq⟩
  · refine q_for (src := .enu true (.d (.tuple xs))) (M1 := M) rfl (walks_enuT xs M) (fun i ρ M' => ∃ c e, ρ = rhoD t xs c e ∧ M' = M) ⟨none, none, rfl, rfl⟩ ?_ ?_
    · intro i v ρ M' hv hρ
      obtain ⟨x, hx1, _⟩ := enu_at hv
      obtain ⟨ρ1, h1, h2, h3⟩ := step i v ρ M' hv (hf i (List.getElem?_eq_some_iff.mp hx1).1) hρ
      exact ⟨ρ1, h1, q_skip (M1 := M') h3 (t_nx h2)⟩
    · rintro ρ' M' ⟨c, e, rfl, rfl⟩
      exact hq c e
  · obtain ⟨x, hx1, hw⟩ := hw
    have hxk : (enuW xs)[k]? = some (.d (.tuple [.int (k : Nat), x])) := by rw [enuW_at, hx1]; rfl
    refine q_forR (src := .enu true (.d (.tuple xs))) (M1 := M) rfl (walks_enuT xs M) (fun i ρ M' => ∃ c e, ρ = rhoD t xs c e ∧ M' = M) k _ hxk ⟨none, none, rfl, rfl⟩ ?_ ?_
    · intro i v ρ M' hi hv hρ
      obtain ⟨ρ1, h1, h2, h3⟩ := step i v ρ M' hv (hf i hi) hρ
      exact ⟨ρ1, h1, q_skip (M1 := M') h3 (t_nx h2)⟩
    · rintro ρ M' ⟨c, e, rfl, rfl⟩
      refine ⟨_, rfl, ?_⟩
      refine q_if2 (k := true) (M1 := M') ?_ (fun _ => ?_) (fun h => by cases h)
      · have dm := due_mem (n := n + 6) (M := M') (.d t.d) (some (.d (.tuple xs))) (some (.d (.int (k : Nat)))) none none none hsm (hx x (List.mem_of_getElem? hx1)) ⟨143, 11, 143, 75⟩ ⟨143, 16, 143, 24⟩ ⟨143, 11, 143, 15⟩ ⟨143, 11, 143, 25⟩ ⟨143, 39, 143, 47⟩ ⟨143, 34, 143, 38⟩ ⟨143, 34, 143, 48⟩ ⟨143, 53, 143, 61⟩ ⟨143, 65, 143, 74⟩ ⟨143, 33, 143, 75⟩
        rcases hw with hw | ⟨hm, hi, y, g4, g5⟩
        · rw [decide_eq_false hw] at dm
          exact eT_orL dm
        · rw [decide_eq_true hm] at dm
          refine eT_or2 dm (eT_and2 (eT_cmp (x := .d (.int (k : Nat))) (y := .d (.int 0)) (M1 := M') (M2 := M') rfl rfl ?_) (le_ix rfl rfl rfl hi g4 g5))
          rw [gt0, decide_eq_true hi]
      · refine q_ret (v := .d usb) (M1 := M') rfl ⟨_, _, rfl, ?_⟩
        have : finR f18.F.keep M'.length (.rt (.d usb) M') = .ok (.d usb) M' := fin_ret M' _
        rw [this]
        exact hq
end Law

namespace Law
open PySem PySem.Spec Ev
open PySem.W (dataLt)
def xkp : Exn := ⟨"NotUsable", [("at", .int (-1)), ("word", .str "kept")]⟩
theorem out_xkp : outX xkp = some usb := by
  have h1 : (("word" : Str) == "at") = false := by decide +kernel
  have h2 : ("NotUsable" : Str) ≠ "InvalidPaper" := by decide +kernel
  simp only [outX, xkp, List.lookup, h1, BEq.rfl, if_true]
  rw [if_neg h2]
  rfl
def SightOk (n : Nat) (t : Tr) (x d : PyData) : Prop := ∀ M, outR (fun M1 => Ev.run tb n 6 [.d t.d, .d x] M1) M = .ok (.d d) M
theorem sight_exc {n : Nat} {t : Tr} {x : PyData} (h : ∀ M, Ev.run tb n 6 [.d t.d, .d x] M = .exc xkp M) : SightOk n t x usb := by
  intro M
  simp only [outR, h, out_xkp]
theorem sight_told {n : Nat} {t : Tr} {ws : List (List Int)} (h : ∀ M, Ev.run tb n 6 [.d t.d, .d (K ws)] M = .ok (.d (seeD (rawS (hasL ws) t))) M) : SightOk n t (K ws) (tld ws t) := by
  intro M
  simp only [outR, h, toD_dd]
  rfl
theorem fin_exc (M : Sto) (x : Exn) (ρ : Rho) : finR false M.length (.exc x ρ M) = .exc x M := by simp [finR]
section
variable {fn : Fn} {ρ : Rho} {M M1 M2 : Sto} {p : Pos} {r : List CS} {Q : OutS → Prop}
theorem q_raise {c f1 f2 : Str} {a b : CE} {pf ps : Pos} {x y : PyData} (h1 : CE.ev fn a ρ M = .ok (.d x) M) (h2 : CE.ev fn b ρ M = .ok (.d y) M) (hq : Q (.exc ⟨c, [(f2, y), (f1, x)]⟩ ρ M)) : Sat Q (evSs fn (.raise c f1 f2 a (.cons b .nil) pf p ps :: r) ρ M) := by
  refine Sat.eq (o' := .exc ⟨c, [(f2, y), (f1, x)]⟩ ρ M) ?_ hq
  show (gsRaise c f1 f2 (gCons (CE.ev fn a) (gCons (CE.ev fn b) gNil)) ρ M).then (evSs fn r) = _
  simp only [gsRaise, gCons, gNil, h1, h2, Out.bind, bindS, toDs, toD]
  rfl
end
theorem e_paths (n : Nat) {t : Tr} (hg : GS 3 t) (M : Sto) : Ev.run tb (n + 6) 2 [.d t.d] M = .ok (.d (.list ((ways t).map T))) M := by
  rw [ways_map]
  exact s_paths_of n M (GS.good 3 hg) (by decide)
theorem sight_odd (n : Nat) {t : Tr} {x : PyData} (hg : GS 3 t) (hx : isaD .tuple x = some (.bool false)) (M : Sto) : Ev.run tb (n + 7) 6 [.d t.d, .d x] M = .exc xkp M := by
  show Sat (fun o => o = _) _
  rw [runS (n + 6) 6 f6.F rfl]
  refine q_run rfl ?_
  refine q_set (v := .d (.list ((ways t).map T))) (M1 := M) (e_call (M1 := M) (xs := [.d t.d]) rfl (e_paths n hg M)) ?_
  refine q_if2 (k := true) (M1 := M) (eT_orL (eT_not (k := false) (eT_isa (x := x) rfl hx))) (fun _ => ?_) (fun h => by cases h)
  exact q_raise (x := .str "kept") (y := .int (-1)) rfl rfl (fin_exc M _ _)
def selW (t : Tr) (xs : List PyData) : List (List Int) := (ways t).filter fun p => xs.any fun y => PyData.eqv y (T p)
theorem sel_sm {t : Tr} (xs : List PyData) (h : SmP (ways t)) : SmP (selW t xs) := ⟨Nat.le_trans (List.length_filter_le _ _) h.1, fun w hw => h.2 w (List.mem_filter.mp hw).1⟩
theorem dep_T (w : List Int) : (T w).depth ≤ 1 := by
  simp only [T, PyData.depth, dpI]
  omega
theorem in_sel (xs : List PyData) (w : List Int) : inD false (T w) (.tuple xs) = some (.bool (xs.any fun y => PyData.eqv y (T w))) := by
  have := dep_T w
  simp only [inD]
  rw [if_pos (by omega)]
  simp
theorem sight_test (n : Nat) {t : Tr} {xs : List PyData} (hg : GS 3 t) (hz : t.sz ≤ 6) (hx : Tx (.tuple xs) 20 1000000) (M : Sto) (Q : Out Vl → Prop)
    (h : ((PyData.tuple xs).shown ≠ (K (selW t xs)).shown ∧ Q (.exc xkp M)) ∨ ((PyData.tuple xs).shown = (K (selW t xs)).shown ∧ ∀ v, Ev.run tb (n + 6) 5 [.d t.d, .d (.tuple xs)] M = .ok v M → Q (finR false M.length (.rt v M))) ∧ ∃ v, Ev.run tb (n + 6) 5 [.d t.d, .d (.tuple xs)] M = .ok v M) :
    Sat Q (Ev.run tb (n + 7) 6 [.d t.d, .d (.tuple xs)] M) := by
  have hsm := ways_sm hg hz
  have hss := sel_sm xs hsm
  have hne : neD (.str (PyData.tuple xs).shown) (.str (K (selW t xs)).shown) = some (.bool (!decide ((PyData.tuple xs).shown = (K (selW t xs)).shown))) := by
    rw [ne_ok _ _ (by simp [PyData.depth])]
    simp only [PyData.eqv]
    congr 3
  have hr1 := hx.repr (by omega) (by rw [sizeLine_eq]; omega)
  have hr2 := (tx_K hss.1 hss.2).repr (by omega) (by rw [sizeLine_eq]; omega)
  have hT := T_map (selW t xs)
  rw [runS (n + 6) 6 f6.F rfl]
  refine q_run rfl ?_
  refine q_set (v := .d (.list ((ways t).map T))) (M1 := M) (e_call (M1 := M) (xs := [.d t.d]) rfl (e_paths n hg M)) ?_
  have wl := walks_lst ((ways t).map T) M
  rw [T_map] at wl
  refine q_if2 (k := !decide ((PyData.tuple xs).shown = (K (selW t xs)).shown)) (M1 := M) (eT_or2 (eT_not (k := true) (eT_isa (x := .tuple xs) rfl rfl)) (eT_cmp (x := .d (.str (PyData.tuple xs).shown)) (y := .d (.str (K (selW t xs)).shown)) (M1 := M) (M2 := M) (e_repr (x := .tuple xs) rfl hr1) (e_repr (x := K (selW t xs)) (e_blt1 (v := .d (.list ((selW t xs).map T))) (M1 := M) ?_ ?_) hr2) ?_)) ?_ ?_
  · refine e_lcT (src := .lst (.d (.list ((ways t).map T)))) (gi_val rfl) wl (by rw [sizeLine_eq]; have := hsm.1; omega) (fun p => xs.any fun y => PyData.eqv y (T p)) T ?_
    intro i p hp acc
    refine ⟨_, rfl, ?_, fun _ => rfl⟩
    rw [evC_some]
    refine eT_cmp (x := .d (T p)) (y := .d (.tuple xs)) (M1 := M ++ [.lst acc]) (M2 := M ++ [.lst acc]) rfl rfl ?_
    simp only [COp.ev, inV, dctAt, lift2, peek, in_sel, give]
  · rfl
  · simp only [COp.ev, lift2, peek, hne, give]
  · intro hk
    rcases h with ⟨_, hq⟩ | ⟨⟨he, _⟩, _⟩
    · exact q_raise (x := .str "kept") (y := .int (-1)) rfl rfl (by have := fin_exc M xkp; exact (this _).symm ▸ hq)
    · rw [decide_eq_true he] at hk
      cases hk
  · intro hk
    rcases h with ⟨he, _⟩ | ⟨⟨he, hq⟩, v, hv⟩
    · rw [decide_eq_false he] at hk
      cases hk
    · exact q_ret (v := v) (M1 := M) (e_call (M1 := M) (xs := [.d t.d, .d (.tuple xs)]) rfl hv) (hq v hv)
theorem sight_bad (n : Nat) {t : Tr} {xs : List PyData} (hg : GS 3 t) (hz : t.sz ≤ 6) (hx : Tx (.tuple xs) 20 1000000) (hne : (PyData.tuple xs).shown ≠ (K (selW t xs)).shown) (M : Sto) : Ev.run tb (n + 7) 6 [.d t.d, .d (.tuple xs)] M = .exc xkp M :=
  sight_test n hg hz hx M (fun o => o = .exc xkp M) (.inl ⟨hne, rfl⟩)
theorem sight_good (n : Nat) {t : Tr} {ws : List (List Int)} (hg : GS 3 t) (hz : t.sz ≤ 6) (hx : Tx (K ws) 20 1000000) (he : (K ws).shown = (K (selW t (ws.map T))).shown) (M : Sto) : Ev.run tb (n + 7) 6 [.d t.d, .d (K ws)] M = .ok (.d (seeD (rawS (hasL ws) t))) M := by
  have e := s_raw ws hg (by decide) (n + 1) M
  refine sight_test n hg hz hx M (fun o => o = .ok (.d (seeD (rawS (hasL ws) t))) M) (.inr ⟨⟨he, fun v hv => ?_⟩, _, e⟩)
  have : v = .d (seeD (rawS (hasL ws) t)) := by
    have h2 := e.symm.trans hv
    cases h2
    rfl
  rw [this]
  exact fin_ret M _
end Law

namespace Law
open PySem PySem.Spec Ev
open PySem.W (dataLt)
def Verd (n : Nat) (t : Tr) (x : PyData) : Prop := ∃ d, DueOk n t x d ∧ SightOk n t x d ∧ Tx d 12 300000 ∧ Tx x 5 30000
theorem alike_T : ∀ a b : List Int, PySem.W.alikeAll (a.map PyData.int) (b.map PyData.int) = true
  | [], _ => by simp [PySem.W.alikeAll]
  | _ :: _, [] => by simp [PySem.W.alikeAll]
  | x :: a, y :: b => by simp [PySem.W.alikeAll, PySem.W.alike, alike_T a b]
theorem le_T (a b : List Int) : leD (T a) (T b) = some (.bool (!ltP b a)) := by
  have h1 := dep_T a
  have h2 := alike_T a b
  have h3 : (PySem.W.alike (T a) (T b) && !isNon (T a)) = true := by
    show (PySem.W.alikeAll _ _ && !isNon (.tuple _)) = true
    rw [h2]
    rfl
  have h4 : leD (T a) (T b) = if ((PySem.W.alike (T a) (T b) && !isNon (T a)) || wkB (T a) (T b)) = true ∧ min (T a).depth (T b).depth ≤ 60 then some (.bool (!dataLt (T b) (T a))) else none := rfl
  rw [h4, if_pos ⟨by rw [h3]; rfl, by omega⟩, lt_T]
theorem tx_big {x : PyData} (h : Tx x 5 30000) : Tx x 20 1000000 := h.mono (by omega) (by omega)
theorem odd_verd (n : Nat) {t : Tr} {x : PyData} (hg : GS 3 t) (hx : isaD .tuple x = some (.bool false)) (ht : Tx x 5 30000) : Verd (n + 7) t x :=
  ⟨usb, due_odd n hg hx, sight_exc fun M => sight_odd n hg hx M, tx_usb, ht⟩
/-- a tuple of pieces that is wrong at k -/
theorem bad_verd (n : Nat) {t : Tr} {xs : List PyData} (hg : GS 3 t) (hz : t.sz ≤ 6) (hx : ∀ x ∈ xs, Tx x 20 1000000) (ht : Tx (.tuple xs) 5 30000) (hw : ∃ k, k < xs.length ∧ (∀ i, i < k → Fine (ways t) xs i) ∧ Wrong (ways t) xs k) (hne : (PyData.tuple xs).shown ≠ (K (selW t xs)).shown) : Verd (n + 7) t (.tuple xs) :=
  ⟨usb, fun M => due_loop n hg hz hx M (fun o => o = .ok (.d usb) M) (.inr ⟨hw, rfl⟩), sight_exc fun M => sight_bad n hg hz (tx_big ht) hne M, tx_usb, ht⟩
/-! ### lots of paths -/
theorem sel_ws (t : Tr) (ws : List (List Int)) : selW t (ws.map T) = (ways t).filter fun p => decide (p ∈ ws) := by
  unfold selW
  refine List.filter_congr fun p _ => ?_
  exact has_mem ws p
theorem at_map {ws : List (List Int)} {i : Nat} {w : List Int} (h : ws[i]? = some w) : (ws.map T)[i]? = some (T w) := by
  rw [List.getElem?_map, h]
  rfl
theorem tx_Ks {ws : List (List Int)} (h : SmP ws) : Tx (K ws) 5 30000 := (tx_K h.1 h.2).mono (by omega) (Nat.le_refl _)
theorem tx_each {ws : List (List Int)} (h : SmP ws) : ∀ x ∈ ws.map T, Tx x 20 1000000 := by
  intro x hx
  obtain ⟨w, hw, rfl⟩ := List.mem_map.mp hx
  exact (tx_T (h.2 w hw).1 (h.2 w hw).2).mono (by omega) (by omega)
theorem fine_at {ps ws : List (List Int)} {i : Nat} {w : List Int} (hw : ws[i]? = some w) (hm : w ∈ ps) (hb : i = 0 ∨ ∃ v, ws[i - 1]? = some v ∧ ltP v w = true) : Fine ps (ws.map T) i := by
  refine ⟨T w, at_map hw, ⟨w, hm, rfl⟩, ?_⟩
  rcases hb with h | ⟨v, h1, h2⟩
  · exact .inl h
  · exact .inr ⟨T v, at_map h1, by rw [le_T, h2]; rfl⟩
theorem asc_at {ws : List (List Int)} (h : ws.Pairwise fun a b => ltP a b = true) {i : Nat} {w : List Int} (hw : ws[i]? = some w) : i = 0 ∨ ∃ v, ws[i - 1]? = some v ∧ ltP v w = true := by
  by_cases hi : i = 0
  · exact .inl hi
  · right
    obtain ⟨h1, h2⟩ := List.getElem?_eq_some_iff.mp hw
    refine ⟨ws[i - 1], List.getElem?_eq_getElem (by omega), ?_⟩
    rw [← h2]
    exact List.pairwise_iff_getElem.mp h (i - 1) i (by omega) h1 (by omega)
theorem asc_sub {ps ws : List (List Int)} (h : ps.Pairwise fun a b => ltP a b = true) (hs : ws.Sublist ps) : ws.Pairwise fun a b => ltP a b = true := h.sublist hs
theorem sub_sm {ps ws : List (List Int)} (h : SmP ps) (hs : ws.Sublist ps) : SmP ws := ⟨Nat.le_trans hs.length_le h.1, fun w hw => h.2 w (hs.mem hw)⟩
theorem lisK (ws : List (List Int)) : listD (K ws) = some (Lw ws) := rfl
theorem sub_verd (n : Nat) {t : Tr} {ws : List (List Int)} (hg : GS 3 t) (hz : t.sz ≤ 6) (hs : ws.Sublist (ways t)) : Verd (n + 7) t (K ws) := by
  have hsm := sub_sm (ways_sm hg hz) hs
  have has := asc_sub (ways_asc t) hs
  refine ⟨tld ws t, fun M => ?_, sight_told fun M => sight_good n hg hz (tx_big (tx_Ks hsm)) ?_ M, tx_tld ws hg hz, tx_Ks hsm⟩
  · refine due_loop n hg hz (tx_each hsm) M (fun o => o = .ok (.d (tld ws t)) M) (.inl ⟨fun i hi => ?_, fun c e => ?_⟩)
    · rw [List.length_map] at hi
      have hw : ws[i]? = some ws[i] := List.getElem?_eq_getElem hi
      exact fine_at hw (hs.mem (List.getElem_mem hi)) (asc_at has hw)
    · have e := s_own n M ws (by have := hsm.1; omega) (fun w hw => by have := (hsm.2 w hw).1; omega) hg (by decide)
      refine q_ret (v := .d (tld ws t)) (M1 := M) ?_ (fin_ret M _)
      refine e_tup (xs := [.d (.str "told"), .d (seeD (rawS (hasL ws) t))]) (M1 := M) (es_cons (M1 := M) rfl (es_cons (M1 := M) ?_ es_nil)) rfl (by simp [sizeLine_eq])
      refine e_call (M1 := M) (xs := [.d t.d, .d (Lw ws)]) (es_cons (M1 := M) rfl (es_cons (M1 := M) (e_blt1 (v := .d (K ws)) (M1 := M) rfl ?_) es_nil)) e
      rfl
  · rw [sel_ws, filt_sub (ways_asc t) hs]
theorem sel_more (t : Tr) (ws : List (List Int)) (h : ∀ p ∈ ways t, p ∈ ws) : selW t (ws.map T) = ways t := by
  rw [sel_ws]
  exact List.filter_eq_self.mpr fun p hp => decide_eq_true (h p hp)
theorem ways_ne (t : Tr) : 0 < (ways t).length := by
  cases t with
  | nd s m ts => simp [ways, Tr.sp]
theorem app_at (ps : List (List Int)) (w : List Int) : (ps ++ [w])[ps.length]? = some w := by simp
theorem more_verd (n : Nat) {t : Tr} {w : List Int} (hg : GS 3 t) (hz : t.sz ≤ 6) (h1 : w.length ≤ 4) (h2 : ∀ i ∈ w, Sm i) (hw : (¬ ∃ p ∈ ways t, (T p).shown = (T w).shown) ∨ (ways t).getLast? = some w) : Verd (n + 7) t (K (ways t ++ [w])) := by
  have hsm := ways_sm hg hz
  have hlen : (ways t).length ≤ 6 := by rw [ways_len]; exact hz
  have hs2 : SmP (ways t ++ [w]) := by
    refine ⟨by rw [List.length_append]; simp; omega, fun v hv => ?_⟩
    rcases List.mem_append.mp hv with h | h
    · exact hsm.2 v h
    · rw [List.mem_singleton.mp h]
      exact ⟨h1, h2⟩
  refine bad_verd n hg hz (tx_each hs2) (tx_Ks hs2) ⟨(ways t).length, by simp, fun i hi => ?_, ?_⟩ ?_
  · have e1 : (ways t ++ [w])[i]? = some (ways t)[i] := by rw [List.getElem?_append_left hi]; exact List.getElem?_eq_getElem hi
    refine fine_at e1 (List.getElem_mem hi) ?_
    rcases asc_at (ways_asc t) (List.getElem?_eq_getElem hi) with h | ⟨v, g1, g2⟩
    · exact .inl h
    · exact .inr ⟨v, by rw [List.getElem?_append_left (by omega)]; exact g1, g2⟩
  · refine ⟨T w, at_map (app_at _ _), ?_⟩
    rcases hw with h | h
    · exact .inl h
    · have hp := ways_ne t
      have hm : w ∈ ways t := List.mem_of_getLast? h
      rw [List.getLast?_eq_getElem?] at h
      exact .inr ⟨⟨w, hm, rfl⟩, hp, T w, at_map (by rw [List.getElem?_append_left (by omega)]; exact h), by rw [le_T, ltP_self]; rfl⟩
  · rw [sel_more t _ fun p hp => List.mem_append.mpr (.inl hp)]
    exact txt_more
theorem rev_verd (n : Nat) {t : Tr} (hg : GS 3 t) (hz : t.sz ≤ 6) : Verd (n + 7) t (K (ways t).reverse) := by
  have hsm := ways_sm hg hz
  have hdg : ∀ w ∈ ways t, ∀ i ∈ w, Dg i := by
    intro w hw
    obtain ⟨s, hs, rfl⟩ := List.mem_map.mp hw
    obtain ⟨x, e, hl, hx⟩ := sp_dg 3 (GS.good 3 hg) [] s hs
    rw [e, List.nil_append]
    exact hx
  have hsr : SmP (ways t).reverse := ⟨by rw [List.length_reverse]; exact hsm.1, fun w hw => hsm.2 w (List.mem_reverse.mp hw)⟩
  have has := ways_asc t
  have h0 : ∃ r, ways t = [] :: r := by
    cases t with
    | nd s m ts => exact ⟨_, by rw [ways, Tr.sp, List.map_cons]⟩
  have hself := sub_verd n hg hz (List.Sublist.refl (ways t))
  have hsel := sel_more t (ways t).reverse fun p hp => List.mem_reverse.mpr hp
  have hbad := fun h1 h2 => bad_verd n hg hz (tx_each hsr) (tx_Ks hsr) h1 h2
  rw [hsel] at hbad
  obtain ⟨r, hr⟩ := h0
  generalize ways t = ps at *
  subst hr
  rcases List.eq_nil_or_concat r with rfl | ⟨r', l, rfl⟩
  · exact hself
  · have hl : ltP [] l = true := by
      rw [List.pairwise_cons] at has
      exact has.1 l (by simp)
    cases l with
    | nil => cases hl
    | cons i x =>
      have hrev : ([] :: r'.concat (i :: x)).reverse = (i :: x) :: ([] :: r').reverse := by simp
      refine hbad ⟨1, by simp, fun j hj => ?_, ?_⟩ ?_
      · obtain rfl : j = 0 := by omega
        exact fine_at (w := i :: x) (by rw [hrev]; rfl) (by simp) (.inl rfl)
      · have hlen : 1 < ([] :: r'.concat (i :: x)).reverse.length := by simp
        have e1 : ([] :: r'.concat (i :: x)).reverse[1]? = some (([] :: r'.concat (i :: x)).reverse[1]) := List.getElem?_eq_getElem hlen
        have e0 : ([] :: r'.concat (i :: x)).reverse[0]? = some (i :: x) := by rw [hrev]; rfl
        have hm := List.getElem_mem hlen
        have hp : ltP (([] :: r'.concat (i :: x)).reverse[1]) (i :: x) = true := by
          have h3 : ([] :: r'.concat (i :: x)).reverse.Pairwise (fun a b => ltP b a = true) := List.pairwise_reverse.mpr has
          have h4 := List.pairwise_iff_getElem.mp h3 0 1 (by omega) hlen (by omega)
          have e0' := (List.getElem?_eq_some_iff.mp e0).2
          rw [e0'] at h4
          exact h4
        generalize ([] :: r'.concat (i :: x)).reverse[1] = v at *
        refine ⟨T v, at_map e1, .inr ⟨⟨v, List.mem_reverse.mp hm, rfl⟩, by omega, T (i :: x), at_map e0, ?_⟩⟩
        rw [le_T, ltP_asym _ _ hp]
        rfl
      · show (K (([] :: r'.concat (i :: x)).reverse)).shown ≠ _
        rw [hrev]
        exact txt_head (hdg (i :: x) (by simp) i (by simp))
/-! ### the odd tuples -/
theorem notin_bad {d : Nat} {t : Tr} (hg : Good d t) (hd : d ≤ 3) {x : PyData} (hx : x ∈ badE) : ¬ ∃ p ∈ ways t, (T p).shown = x.shown := by
  rintro ⟨p, hp, e⟩
  have h1 := List.all_eq_true.mp (List.all_eq_true.mp bad_all x hx) p (ways_all hg hd p hp)
  exact of_decide_eq_true h1 e.symm
theorem tuple_verd (n : Nat) {t : Tr} {xs : List PyData} {c : List Int} (hg : GS 3 t) (hz : t.sz ≤ 6) (hm : (xs, c) ∈ oddI) (hx : ∀ x ∈ xs, Tx x 4 20) (hw : ∃ k, k < xs.length ∧ (∀ i, i < k → Fine (ways t) xs i) ∧ Wrong (ways t) xs k) : Verd (n + 7) t (.tuple xs) := by
  have h1 := List.all_eq_true.mp odd_sel _ hm
  have h2 := of_decide_eq_true (List.all_eq_true.mp odd_txt _ hm)
  have hs := filt_one (f := fun p => xs.any fun y => PyData.eqv y (T p)) (c := c) (ways_asc t) fun p hp => of_decide_eq_true (List.all_eq_true.mp h1 p (ways_all (GS.good 3 hg) (by decide) p hp))
  have hl : xs.length ≤ 2 := by
    have : (oddI.all fun x => decide (x.1.length ≤ 2)) = true := by decide +kernel
    exact of_decide_eq_true (List.all_eq_true.mp this _ hm)
  have hb : xs.length * 22 ≤ 2 * 22 := Nat.mul_le_mul_right _ hl
  refine bad_verd n hg hz (fun x hx' => (hx x hx').mono (by omega) (by omega)) ((Tx.tup (TxL.all hx)).mono (by omega) (by omega)) hw ?_
  have hsel : selW t xs = (ways t).filter fun p => xs.any fun y => PyData.eqv y (T p) := rfl
  rw [hsel]
  rcases hs with h | h <;> rw [h]
  · exact h2.1
  · exact h2.2
theorem one_verd (n : Nat) {t : Tr} {x : PyData} {c : List Int} (hg : GS 3 t) (hz : t.sz ≤ 6) (hm : ([x], c) ∈ oddI) (hx : Tx x 4 20) (hb : x ∈ badE) : Verd (n + 7) t (.tuple [x]) :=
  tuple_verd n hg hz hm (fun y hy => by rw [List.mem_singleton.mp hy]; exact hx) ⟨0, by simp, fun i hi => absurd hi (by omega), x, rfl, .inl (notin_bad (GS.good 3 hg) (by decide) hb)⟩
def oddX : List PyData := [.tuple [.none], .tuple [.tuple [.bool true]], .tuple [.list []], .tuple [.tuple [.int (-1)]], .tuple [.int 0], .tuple [.tuple [], .tuple [.tuple []]], .tuple [.str ""], .tuple [.tuple [.bool false]]]
theorem tx_small {x : PyData} (h : (x.showable && !x.hasDict && decide (x.depth ≤ 4) && decide (x.shown.length ≤ 20)) = true) : Tx x 4 20 := by
  simp only [Bool.and_eq_true, decide_eq_true_eq, Bool.not_eq_true'] at h
  exact ⟨h.1.1.1, h.1.1.2, h.1.2, h.2⟩
theorem oddX_verd (n : Nat) {t : Tr} (hg : GS 3 t) (hz : t.sz ≤ 6) : ∀ x ∈ oddX, Verd (n + 7) t x := by
  intro x hx
  simp only [oddX, List.mem_cons, List.not_mem_nil, or_false] at hx
  rcases hx with rfl | rfl | rfl | rfl | rfl | rfl | rfl | rfl
  · exact one_verd n (c := [7]) hg hz (by simp [oddI]) (tx_small (by decide +kernel)) (by simp [badE])
  · exact one_verd n (c := [1]) hg hz (by simp [oddI]) (tx_small (by decide +kernel)) (by simp [badE])
  · exact one_verd n (c := [7]) hg hz (by simp [oddI]) (tx_small (by decide +kernel)) (by simp [badE])
  · exact one_verd n (c := [7]) hg hz (by simp [oddI]) (tx_small (by decide +kernel)) (by simp [badE])
  · exact one_verd n (c := [7]) hg hz (by simp [oddI]) (tx_small (by decide +kernel)) (by simp [badE])
  · refine tuple_verd n (c := []) hg hz (by simp [oddI]) (fun y hy => ?_) ⟨1, by simp, fun i hi => ?_, .tuple [.tuple []], rfl, .inl (notin_bad (GS.good 3 hg) (by decide) (by simp [badE]))⟩
    · simp only [List.mem_cons, List.not_mem_nil, or_false] at hy
      rcases hy with rfl | rfl
      · exact tx_small (by decide +kernel)
      · exact tx_small (by decide +kernel)
    · obtain rfl : i = 0 := by omega
      refine ⟨.tuple [], rfl, ⟨[], ?_, rfl⟩, .inl rfl⟩
      cases t with
      | nd s m ts => rw [ways, Tr.sp, List.map_cons]; exact List.mem_cons_self ..
  · exact one_verd n (c := [7]) hg hz (by simp [oddI]) (tx_small (by decide +kernel)) (by simp [badE])
  · exact one_verd n (c := [0]) hg hz (by simp [oddI]) (tx_small (by decide +kernel)) (by simp [badE])
end Law

namespace Law
open PySem PySem.Spec Ev
abbrev Ws := List (List Int)
def stepP (acc : List Ws) (p : List Int) : List Ws := acc ++ acc.map fun a => a ++ [p]
def psets (ps : Ws) : List Ws := ps.foldl stepP [[]]
theorem psets_take {ps : Ws} {i : Nat} {p : List Int} (h : ps[i]? = some p) : psets (ps.take (i + 1)) = stepP (psets (ps.take i)) p := by
  unfold psets
  rw [List.take_succ, h, List.foldl_append]
  rfl
theorem foldP_len : ∀ (ps : Ws) (acc : List Ws), (ps.foldl stepP acc).length = acc.length * 2 ^ ps.length
  | [], acc => by simp
  | p :: ps, acc => by
    rw [List.foldl_cons, foldP_len ps, stepP, List.length_append, List.length_map, List.length_cons, Nat.pow_succ]
    have : acc.length + acc.length = acc.length * 2 := by omega
    rw [this, Nat.mul_assoc, Nat.mul_comm 2]
theorem psets_len (ps : Ws) : (psets ps).length = 2 ^ ps.length := by
  rw [psets, foldP_len]
  simp
theorem foldP_mem : ∀ (ps : Ws) (acc : List Ws) (ws : Ws), ws ∈ ps.foldl stepP acc → ∃ a ∈ acc, ws.length ≤ a.length + ps.length ∧ ∀ w ∈ ws, w ∈ a ∨ w ∈ ps
  | [], acc, ws, h => ⟨ws, h, by simp, fun w hw => .inl hw⟩
  | p :: ps, acc, ws, h => by
    rw [List.foldl_cons] at h
    obtain ⟨a, ha, hl, hm⟩ := foldP_mem ps _ ws h
    rcases List.mem_append.mp ha with ha | ha
    · refine ⟨a, ha, by simp; omega, fun w hw => ?_⟩
      rcases hm w hw with h | h
      · exact .inl h
      · exact .inr (by simp [h])
    · obtain ⟨b, hb, rfl⟩ := List.mem_map.mp ha
      refine ⟨b, hb, by simp at hl ⊢; omega, fun w hw => ?_⟩
      rcases hm w hw with h | h
      · rcases List.mem_append.mp h with h | h
        · exact .inl h
        · exact .inr (by simp at h; simp [h])
      · exact .inr (by simp [h])
theorem psets_mem {ps ws : Ws} (h : ws ∈ psets ps) : ws.length ≤ ps.length ∧ ∀ w ∈ ws, w ∈ ps := by
  obtain ⟨a, ha, hl, hm⟩ := foldP_mem ps _ ws h
  simp only [List.mem_singleton] at ha
  subst ha
  refine ⟨by simpa using hl, fun w hw => ?_⟩
  rcases hm w hw with h | h
  · simp at h
  · exact h
theorem Lw_map (l : List Ws) : (l.map Lw).map Vl.d = l.map fun w => Vl.d (Lw w) := by
  rw [List.map_map]
  rfl
theorem s_law_sets (n : Nat) (M : Sto) (ps : Ws) (hps : ps.length ≤ 6) : Ev.run tb (n + 1) 14 [.d (.list (ps.map T))] M = .ok (.d (.list ((psets ps).map Lw))) M := by
  show Sat (fun o => o = _) _
  rw [runS n 14 f14.F rfl]
  refine q_run rfl ?_
  refine q_set (v := .d (.list [.list []])) (M1 := M) rfl ?_
  have wl := walks_lst (ps.map T) M
  rw [T_map] at wl
  refine q_for (src := .lst (.d (.list (ps.map T)))) (M1 := M) rfl wl
    (fun i ρ M' => ∃ a b c, ρ = [some (.d (.list (ps.map T))), some (.d (.list ((psets (ps.take i)).map Lw))), a, b, c] ∧ M' = M) ⟨none, none, none, rfl, rfl⟩ ?_ ?_
  · rintro i x ρ M' hx ⟨a, b, c, rfl, rfl⟩
    rw [List.getElem?_map] at hx
    cases hp : ps[i]? with
    | none => rw [hp] at hx; simp at hx
    | some p =>
      rw [hp] at hx
      simp at hx
      subst hx
      have hi := (List.getElem?_eq_some_iff.mp hp).1
      have hst := psets_take hp
      have hlen : (psets (ps.take i)).length ≤ 2 ^ 6 := by
        rw [psets_len]
        exact Nat.pow_le_pow_right (by decide) (by rw [List.length_take]; omega)
      have hmem : ∀ ws ∈ psets (ps.take i), ws.length ≤ 6 := fun ws h => by
        have := (psets_mem h).1
        rw [List.length_take] at this
        omega
      generalize hA : psets (ps.take i) = A at *
      refine ⟨_, rfl, ?_⟩
      refine q_set (v := .d (.list ((psets (ps.take (i + 1))).map Lw))) (M1 := M') ?_ (t_nx ⟨_, _, _, rfl, rfl⟩)
      rw [hst, stepP, List.map_append, List.map_map]
      refine e_bin (x := .d (.list (A.map Lw))) (y := .d (.list (A.map fun ws => Lw (ws ++ [p])))) (M1 := M') (M2 := M') rfl ?_ ?_
      · have w2 := walks_lst (A.map Lw) M'
        rw [Lw_map] at w2
        refine e_lcTA (src := .lst (.d (.list (A.map Lw)))) rfl w2 (by rw [sizeLine_eq]; omega) (fun ws => Lw (ws ++ [p])) ?_
        intro j ws hw acc
        have hl := hmem ws (List.mem_of_getElem? hw)
        refine ⟨[some (.d (.list (ps.map T))), some (.d (.list (A.map Lw))), some (.d (T p)), none, some (.d (Lw ws))], rfl, ?_⟩
        refine e_bin (x := .d (Lw ws)) (y := .d (.list [T p])) (M1 := M' ++ [.lst acc]) (M2 := M' ++ [.lst acc]) rfl (e_lst (xs := [.d (T p)]) (M1 := M' ++ [.lst acc]) (es_cons (M1 := M' ++ [.lst acc]) rfl es_nil) rfl (by simp [sizeLine_eq])) ?_
        have eK : Lw (ws ++ [p]) = .list (ws.map T ++ [T p]) := by simp [Lw]
        have hz3 : (ws.map T).length + [T p].length ≤ 16777216 := by simp; omega
        rw [eK]
        simp only [Lw, lift2, peek, BOp.ev, addD, sizeLine_eq, if_pos hz3, give]
      · have hz3 : (A.map Lw).length + (A.map fun ws => Lw (ws ++ [p])).length ≤ 16777216 := by rw [List.length_map, List.length_map]; omega
        simp only [lift2, peek, BOp.ev, addD, sizeLine_eq, if_pos hz3, give]
        rfl
  · rintro ρ' M' ⟨a, b, c, rfl, rfl⟩
    refine q_ret rfl ?_
    rw [List.length_map, List.take_length]
    exact fin_ret _ _
end Law

namespace Law
open PySem PySem.Spec Ev
section
variable {t : Nat → Op1} {ρ : Rho} {M M1 M2 : Sto} {p : Pos}
theorem e_callG {j : Nat} {x : Str} {a : CE} {es : CEs} {pf : Pos} {xs : List Vl} (h : CEs.ev (some t) (.cons a es) ρ M = .ok xs M1) : CE.ev (some t) (.call j x a es pf p) ρ M = t j xs M1 := by
  show gCall (t j) (CEs.ev (some t) (.cons a es)) ρ M = _
  simp only [gCall, h, Out.bind]
theorem e_callkG {j : Nat} {x : Str} {ks : List (Str × Pos)} {kws : CEs} {pm : List Nat} {pf : Pos} {xs as : List Vl} (h : CEs.ev (some t) kws ρ M = .ok xs M1) (hp : pick pm xs = some as) : CE.ev (some t) (.callk j x .nil ks kws pm pf p) ρ M = t j as M1 := by
  show gCallK (t j) pm (CEs.ev (some t) .nil) (CEs.ev (some t) kws) ρ M = _
  have e : CEs.ev (some t) .nil ρ M = .ok [] M := rfl
  simp only [gCallK, e, h, Out.bind, List.nil_append, hp]
theorem e_outc {fn : Fn} {x : Str} {b : CE} {sc : Scope} {lp pf : Pos} {g : Sto → Out Vl} {d : PyData} (hg : ∀ M, CE.ev fn b ρ M = g M) (h : outR g M = .ok (.d d) M) : CE.ev fn (.outc x b sc lp pf p) ρ M = .ok (.d d) M := by
  show gOut (CE.ev fn b) ρ M = _
  have e : (fun M1 => CE.ev fn b ρ M1) = g := funext hg
  simp only [gOut, e, h, outT, List.take_length]
end
section
variable {fn : Fn} {ρ : Rho} {M : Sto} {p : Pos}
theorem e_lc2 {a elt : CE} {j k : Nat} {x : Str} {px : Pos} {sc : Scope} {own : List (Str × Nat)} {d y : PyData} (h : CE.ev fn a ρ M = .ok (.ref k) M) (hk : M[k]? = some (.lst [d, d])) (he : ∀ N, CE.ev fn elt ((wipeR ρ (own.map (·.2))).set j (some (.d d))) N = .ok (.d y) N) : CE.ev fn (.lc false elt (.nm j x px) (.val a) .none sc own p) ρ M = .ok (.d (.list [y, y])) M := by
  have hkl := (List.getElem?_eq_some_iff.mp hk).1
  have hk2 : ∀ c, (M ++ [c])[k]? = some (.lst [d, d]) := fun c => by rw [List.getElem?_append_left hkl]; exact hk
  have hstep : ∀ i c, ISrc.step i (M ++ [c]) (.lst (.ref k)) = some (([d, d] : List PyData)[i]?.map Vl.d) := fun i c => by
    simp only [ISrc.step, lsD, peek, hk2, Option.map_some]
  have hsz : ISrc.size M (.lst (.ref k)) = 2 := by simp [ISrc.size, lsD, peek, hk]
  have a0 : ∀ acc : List PyData, acc.length < 10 → addTo M.length y (M ++ [.lst acc]) = some (M ++ [.lst (acc ++ [y])]) := fun acc ha => addTo_new M acc y (by rw [sizeLine_eq]; omega)
  have s0 : srcOf (.ref k) M = .ok (.lst (.ref k)) M := by simp only [srcOf, peek, hk]
  have tgt : ∀ N, CT.ev (.nm j x px) (.d d) (wipeR ρ (own.map (·.2))) N = some ((wipeR ρ (own.map (·.2))).set j (some (.d d))) := fun N => rfl
  show gLc false (own.map (·.2)) (giVal (CE.ev fn a)) (CT.ev (.nm j x px)) gYes (CE.ev fn elt) ρ M = _
  have a1 := a0 [] (by simp)
  have a2 := a0 [y] (by simp)
  simp only [List.nil_append, List.cons_append] at a1 a2
  have hl : lcE (CT.ev (.nm j x px)) gYes (CE.ev fn elt) (wipeR ρ (own.map (·.2))) M.length (.lst (.ref k)) 3 0 (M ++ [.lst []]) = .ok () (M ++ [.lst [y, y]]) := by
    have st0 := hstep 0 (.lst [])
    have st1 := hstep 1 (.lst [y])
    have st2 := hstep 2 (.lst [y, y])
    simp only [List.getElem?_cons_zero, List.getElem?_cons_succ, List.getElem?_nil, Option.map_some, Option.map_none] at st0 st1 st2
    simp only [lcE, st0, st1, st2, tgt, gYes, noX, Out.bind, if_true, he, toD, a1, a2]
  simp only [gLc, giVal, h, Out.bind, s0, hsz, hl, lcFin, cell_new, take_new]
  rfl
end
/-! ### all items -/
theorem foldP_sub : ∀ (ps : Ws) (acc : List Ws) (ws : Ws), ws ∈ ps.foldl stepP acc → ∃ a ∈ acc, ∃ b, ws = a ++ b ∧ b.Sublist ps
  | [], acc, ws, h => ⟨ws, h, [], by simp, .slnil⟩
  | q :: ps, acc, ws, h => by
    rw [List.foldl_cons] at h
    obtain ⟨a, ha, b, rfl, hs⟩ := foldP_sub ps _ ws h
    rcases List.mem_append.mp ha with ha | ha
    · exact ⟨a, ha, b, rfl, hs.cons _⟩
    · obtain ⟨c, hc, rfl⟩ := List.mem_map.mp ha
      exact ⟨c, hc, q :: b, by simp, hs.cons_cons _⟩
theorem psets_sub {ps ws : Ws} (h : ws ∈ psets ps) : ws.Sublist ps := by
  obtain ⟨a, ha, b, rfl, hs⟩ := foldP_sub ps _ ws h
  rw [List.mem_singleton.mp ha]
  exact hs
theorem foldP_last : ∀ (ps : Ws) (acc pre : List Ws) (a : Ws), acc = pre ++ [a] → ∃ pre', ps.foldl stepP acc = pre' ++ [a ++ ps]
  | [], acc, pre, a, h => ⟨pre, by rw [List.foldl_nil, h]; simp⟩
  | q :: ps, acc, pre, a, h => by
    rw [List.foldl_cons]
    obtain ⟨pre', e⟩ := foldP_last ps (stepP acc q) (acc ++ pre.map fun a => a ++ [q]) (a ++ [q]) (by rw [stepP, h]; simp)
    exact ⟨pre', by rw [e]; simp⟩
theorem psets_last (ps : Ws) : ∃ pre, psets ps = pre ++ [ps] := by
  obtain ⟨pre, e⟩ := foldP_last ps [[]] [] [] rfl
  exact ⟨pre, by rw [psets, e]; simp⟩
theorem at_last {α : Type} (pre : List α) (x : α) : L2.atI (pre ++ [x]) (-1) = some x := by
  unfold L2.atI L2.ixN
  rw [if_neg (by decide), if_pos (by simp; omega)]
  have h : ((-1 : Int) + (pre ++ [x]).length).toNat = pre.length := by simp; omega
  rw [h]
  simp
theorem cut_last (ws : List PyData) (w : PyData) : cutD (ws ++ [w]) (some (-1)) none = [w] := by
  simp only [cutD, HT.sIx]
  have h : (-1 + ((ws.length : Int) + 1)).toNat = ws.length := by omega
  simp [h]
theorem sl_last (ws : Ws) (w : List Int) : slD (some (-1)) none (K (ws ++ [w])) = some (K [w]) := by
  have := cut_last (ws.map T) (T w)
  simp only [K, List.map_append, List.map_cons, List.map_nil, slD, this]
def itA (t : Tr) : List PyData := (psets (ways t)).map K
def itB (ps : Ws) (l : List Int) : List PyData := [K ps.reverse, K (ps ++ [l]), K (ps ++ [[9]]), K (ps ++ [[0, 0, 0, 0]]), Lw ps]
def itC : List PyData := [.none, .int 0, .str "()"]
def items (t : Tr) (l : List Int) : List PyData := itA t ++ itB (ways t) l ++ itC ++ oddX
theorem tx_sm {x : PyData} (h : (x.showable && !x.hasDict && decide (x.depth ≤ 4) && decide (x.shown.length ≤ 20)) = true) : Tx x 5 30000 := (tx_small h).mono (by omega) (by omega)
theorem items_verd (n : Nat) {t : Tr} {l : List Int} (hg : GS 3 t) (hz : t.sz ≤ 6) (hl : (ways t).getLast? = some l) : ∀ x ∈ items t l, Verd (n + 7) t x := by
  have hsm := ways_sm hg hz
  intro x hx
  simp only [items, List.mem_append, itB, itC, List.mem_cons, List.not_mem_nil, or_false] at hx
  rcases hx with ((hx | hx) | hx) | hx
  · obtain ⟨ws, hw, rfl⟩ := List.mem_map.mp hx
    exact sub_verd n hg hz (psets_sub hw)
  · rcases hx with rfl | rfl | rfl | rfl | rfl
    · exact rev_verd n hg hz
    · have hm := hsm.2 l (List.mem_of_getLast? hl)
      exact more_verd n hg hz hm.1 hm.2 (.inr hl)
    · refine more_verd n hg hz (by simp) (fun i hi => ?_) (.inl (notin_bad (GS.good 3 hg) (by decide) (by simp [badE])))
      simp only [List.mem_singleton] at hi
      subst hi
      exact ⟨by decide, by decide⟩
    · refine more_verd n hg hz (by simp) (fun i hi => ?_) (.inl (notin_bad (GS.good 3 hg) (by decide) (by simp [badE])))
      simp only [List.mem_cons, List.not_mem_nil, or_false, or_self] at hi
      subst hi
      exact ⟨by decide, by decide⟩
    · exact odd_verd n hg rfl ((tx_Lw hsm.1 hsm.2).mono (by omega) (Nat.le_refl _))
  · rcases hx with rfl | rfl | rfl
    · exact odd_verd n hg rfl (tx_sm (by decide +kernel))
    · exact odd_verd n hg rfl (tx_sm (by decide +kernel))
    · exact odd_verd n hg rfl (tx_sm (by decide +kernel))
  · exact oddX_verd n hg hz x hx
end Law

namespace Law
open PySem PySem.Spec Ev
theorem neSS (s : Str) : neD (.str s) (.str s) = some (.bool false) := by
  rw [ne_ok _ _ (by simp [PyData.depth])]
  simp [PyData.eqv]
theorem neLL (s : Str) : neD (.list [.str s, .str s]) (.list [.str s, .str s]) = some (.bool false) := by
  rw [ne_ok _ _ (by simp [PyData.depth, PyData.depthAll])]
  simp [PyData.eqv, PyData.eqvAll]
theorem cut_keep (M N : Sto) : (M ++ N).take M.length = M := List.take_left
theorem addLL {xs ys : List PyData} (h : xs.length + ys.length ≤ 1000) : addD (.list xs) (.list ys) = some (.list (xs ++ ys)) := by
  simp only [addD]
  rw [if_pos (by rw [sizeLine_eq]; omega)]
theorem addTT {xs ys : List PyData} (h : xs.length + ys.length ≤ 1000) : addD (.tuple xs) (.tuple ys) = some (.tuple (xs ++ ys)) := by
  simp only [addD]
  rw [if_pos (by rw [sizeLine_eq]; omega)]
theorem addKK {a b : Ws} (h : a.length + b.length ≤ 1000) : addD (K a) (K b) = some (K (a ++ b)) := by
  rw [K, K, addTT (by simpa using h), K, List.map_append]
theorem e_add {fn : Fn} {ρ : Rho} {M : Sto} {p : Pos} {a b : CE} {x y z : PyData} (h1 : CE.ev fn a ρ M = .ok (.d x) M) (h2 : CE.ev fn b ρ M = .ok (.d y) M) (h : addD x y = some z) : CE.ev fn (.bin .add a b p) ρ M = .ok (.d z) M := by
  refine e_bin (x := .d x) (y := .d y) (M1 := M) (M2 := M) h1 h2 ?_
  simp only [lift2, peek, BOp.ev, h, give]
theorem e_tups {fn : Fn} {ρ : Rho} {M : Sto} {p : Pos} {es : CEs} {k : Nat} {ds : List PyData} (h : CEs.ev fn es ρ M = .ok (ds.map Vl.d) M) (hz : ds.length ≤ 1000) : CE.ev fn (.tup es k p) ρ M = .ok (.d (.tuple ds)) M := e_tup h (toDs_map M ds) (by rw [sizeLine_eq]; omega)
theorem e_lsts {fn : Fn} {ρ : Rho} {M : Sto} {p : Pos} {es : CEs} {ds : List PyData} (h : CEs.ev fn es ρ M = .ok (ds.map Vl.d) M) (hz : ds.length ≤ 1000) : CE.ev fn (.lst false es p) ρ M = .ok (.d (.list ds)) M := e_lst h (toDs_map M ds) (by rw [sizeLine_eq]; omega)
theorem e_slN {fn : Fn} {ρ : Rho} {M : Sto} {p p2 q1 q2 : Pos} {a : CE} {x z : PyData} (h : CE.ev fn a ρ M = .ok (.d x) M) (hs : slD (some (-1)) none x = some z) : CE.ev fn (.sl a (.some (.neg (.int 1 0 q1) q2)) .none p2 p) ρ M = .ok (.d z) M := by
  show gSl (CE.ev fn a) (gPart (CE.ev fn (.neg (.int 1 0 q1) q2))) gNoPart ρ M = _
  have e : CE.ev fn (.neg (.int 1 0 q1) q2) ρ M = .ok (.d (.int (-1))) M := rfl
  simp only [gSl, gPart, gNoPart, h, e, Out.bind, asInt, lift1, peek, hs, give]
theorem e_rev {fn : Fn} {ρ : Rho} {M : Sto} {p p1 p2 p3 : Pos} {k : Nat} {a : CE} {x z : PyData} (h : CE.ev fn a ρ M = .ok (.d x) M) (hs : revD x = some z) : CE.ev fn (.rev a k p1 p2 p3 p) ρ M = .ok (.d z) M := by
  show gUn (lift1 revD) (CE.ev fn a) ρ M = _
  simp only [gUn, h, Out.bind, lift1, peek, hs, give]
theorem rev_K (ps : Ws) : revD (K ps) = some (K ps.reverse) := by
  simp only [revD, K, List.map_reverse]
theorem items_len {t : Tr} (hz : t.sz ≤ 6) (l : List Int) : (itA t).length ≤ 64 := by
  rw [itA, List.length_map, psets_len, ways_len]
  exact Nat.pow_le_pow_right (n := 2) (by decide) hz
theorem e_lstM {fn : Fn} {ρ : Rho} {M : Sto} {p : Pos} {a : CE} {x : PyData} (h : CE.ev fn a ρ M = .ok (.d x) M) : CE.ev fn (.lst true (.cons a .nil) p) ρ M = .ok (.ref M.length) (M ++ [.lst [x]]) := by
  show gLstM (gCons (CE.ev fn a) gNil) ρ M = _
  simp only [gLstM, gCons, gNil, h, Out.bind, toDs, toD]
  rw [if_pos (by rw [sizeLine_eq]; simp)]
abbrev rhoA (t : Tr) (l : List Int) (a4 a5 a6 a7 a8 a9 a10 a11 : Option Vl) : Rho := [some (.d t.d), some (.d (.list ((ways t).map T))), some (.d (.list (items t l))), some (.d (K (ways t))), a4, a5, a6, a7, a8, a9, a10, a11]
theorem s_agrees (n : Nat) {t : Tr} (hg : GS 3 t) (hz : t.sz ≤ 6) (M : Sto) : Ev.run tb (n + 8) 19 [.d t.d] M = .ok (.d (.bool true)) M := by
  show Sat (fun o => o = _) _
  rw [runS (n + 7) 19 f19.F rfl]
  refine q_run rfl ?_
  have hlen : (ways t).length ≤ 6 := by rw [ways_len]; exact hz
  obtain ⟨pre, l, hpl⟩ : ∃ pre l, ways t = pre ++ [l] := by
    rcases List.eq_nil_or_concat (ways t) with h | ⟨r, l, h⟩
    · have := ways_ne t
      rw [h] at this
      cases this
    · exact ⟨r, l, by rw [h]; simp⟩
  have hlast : (ways t).getLast? = some l := by rw [hpl]; simp
  have hsl : slD (some (-1)) none (K (ways t)) = some (K [l]) := by rw [hpl]; exact sl_last pre l
  have hver := items_verd n hg hz hlast
  have hA := items_len hz l
  refine q_set (v := .d (.list ((ways t).map T))) (M1 := M) (e_ways (n := n + 3) hg rfl fun v => ⟨_, rfl, rfl⟩) ?_
  have hset := s_law_sets (n + 6) M (ways t) hlen
  have wl := walks_lst ((psets (ways t)).map Lw) M
  rw [Lw_map] at wl
  refine q_set (v := .d (.list (itA t))) (M1 := M) ?_ ?_
  · refine e_lcTA (src := .lst (.d (.list ((psets (ways t)).map Lw)))) (gi_val (e_call (M1 := M) (xs := [.d (.list ((ways t).map T))]) rfl hset)) wl (by rw [itA, List.length_map] at hA; rw [sizeLine_eq]; omega) K ?_
    intro i ws hw acc
    exact ⟨_, rfl, e_blt1 (v := .d (Lw ws)) (M1 := M ++ [.lst acc]) rfl rfl⟩
  obtain ⟨preS, hpre⟩ := psets_last (ways t)
  have hix : L2.atI (itA t) (-1) = some (K (ways t)) := by
    rw [itA, hpre, List.map_append]
    exact at_last _ _
  refine q_set (v := .d (K (ways t))) (M1 := M) ?_ ?_
  · refine e_ix (x := .d (.list (itA t))) (y := .d (.int (-1))) (M1 := M) (M2 := M) rfl rfl ?_
    simp only [ixV, dctAt, lift2, peek, ixL, hix, give]
  refine q_set (v := .d (.list (itA t ++ itB (ways t) l))) (M1 := M) ?_ ?_
  · refine e_add (x := .list (itA t)) (y := .list (itB (ways t) l)) rfl ?_ (addLL (by simp [itB]; omega))
    refine e_lsts ?_ (by simp [itB])
    refine es_cons (M1 := M) (e_rev (x := K (ways t)) rfl (rev_K _)) ?_
    refine es_cons (M1 := M) (e_add (x := K (ways t)) (y := K [l]) rfl (e_slN (x := K (ways t)) rfl hsl) (addKK (by simp; omega))) ?_
    refine es_cons (M1 := M) (e_add (x := K (ways t)) (y := K [[9]]) rfl rfl (addKK (by simp; omega))) ?_
    refine es_cons (M1 := M) (e_add (x := K (ways t)) (y := K [[0, 0, 0, 0]]) rfl rfl (addKK (by simp; omega))) ?_
    exact es_cons (M1 := M) (e_blt1 (v := .d (K (ways t))) (M1 := M) rfl rfl) es_nil
  refine q_set (v := .d (.list (itA t ++ itB (ways t) l ++ itC))) (M1 := M) ?_ ?_
  · exact e_add (x := .list (itA t ++ itB (ways t) l)) (y := .list itC) rfl rfl (addLL (by simp [itB, itC]; omega))
  refine q_set (v := .d (.list (items t l))) (M1 := M) ?_ ?_
  · exact e_add (x := .list (itA t ++ itB (ways t) l ++ itC)) (y := .list oddX) rfl rfl (addLL (by simp [itB, itC, oddX]; omega))
  refine q_for (src := .lst (.d (.list (items t l)))) (M1 := M) (gi_val rfl) (walks_lst (items t l) M) (fun i ρ M' => ∃ a4 a5 a6 a7 a8 a9 a10 a11 N, ρ = rhoA t l a4 a5 a6 a7 a8 a9 a10 a11 ∧ M' = M ++ N) ⟨none, none, none, none, none, none, none, none, [], rfl, by simp⟩ ?_ ?_
  · rintro i v ρ M' hv ⟨a4, a5, a6, a7, a8, a9, a10, a11, N, rfl, rfl⟩
    rw [List.getElem?_map] at hv
    obtain ⟨x, hx, rfl⟩ : ∃ x, (items t l)[i]? = some x ∧ v = .d x := by
      cases e : (items t l)[i]? with
      | none => rw [e] at hv; cases hv
      | some x => rw [e] at hv; exact ⟨x, rfl, (Option.some.inj hv).symm⟩
    obtain ⟨d, hdue, hsight, htd, htx⟩ := hver x (List.mem_of_getElem? hx)
    have hrd := htd.repr (by omega) (by rw [sizeLine_eq]; omega)
    have hrp := (tx_pair hg htx).repr (by omega) (by rw [sizeLine_eq]; omega)
    generalize hM : M ++ N = M' at *
    refine ⟨_, rfl, ?_⟩
    have pair : ∀ (ρ : Rho) (S : Sto) (p1 p2 p3 : Pos), ρ[0]? = some (some (.d t.d)) → ρ[7]? = some (some (.d x)) → CE.ev (fnD (n + 7)) (.tup (.cons (.var 0 "_law_root" p1) (.cons (.var 7 "_law_item" p2) .nil)) 0 p3) ρ S = .ok (.d (.tuple [t.d, x])) S := fun ρ S p1 p2 p3 h0 h7 =>
      e_tups (ds := [t.d, x]) (es_cons (M1 := S) (ev_v h0) (es_cons (M1 := S) (ev_v h7) es_nil)) (by simp)
    refine q_par (u := .d (.str (PyData.tuple [t.d, x]).shown)) (w := .d (.str d.shown)) (M1 := M') (M2 := M') (e_repr (x := .tuple [t.d, x]) (pair _ _ _ _ _ (by rfl) (by rfl)) hrp) (e_repr (x := d) (e_call (M1 := M') (xs := [.d t.d, .d x]) rfl (hdue M')) hrd) ?_
    refine q_set (v := .ref M'.length) (M1 := M' ++ [.lst [d]]) (e_lstM (e_outc (g := fun S => Ev.run tb (n + 7) 6 [.d t.d, .d x] S) (fun S => e_callG (M1 := S) (xs := [.d t.d, .d x]) rfl) (hsight M'))) ?_
    refine q_exp (v := .d .none) (M1 := M' ++ [.lst [d, d]]) ?_ ?_
    · have := e_append (fn := some (Ev.run tb (n + 7))) (ρ := [some (.d t.d), some (.d (.list ((ways t).map T))), some (.d (.list (items t l))), some (.d (K (ways t))), some (.d (.str (PyData.tuple [t.d, x]).shown)), some (.d (.str d.shown)), some (.ref M'.length), some (.d x), a8, a9, a10, a11]) (M := M' ++ [.lst [d]]) (M1 := M' ++ [.lst [d]]) (M2 := M' ++ [.lst [d]]) (a := .var 6 "_law_told" ⟨156, 8, 156, 17⟩) (n := M'.length) (x := d) (xs := [d]) (apos := ⟨156, 8, 156, 24⟩) (cpos := ⟨156, 8, 156, 88⟩) (b := .outc "_law_outcome" (.callk 6 "sight_of" .nil [("kept", ⟨156, 55, 156, 69⟩), ("tree", ⟨156, 71, 156, 85⟩)] (.cons (.var 7 "_law_item" ⟨156, 60, 156, 69⟩) (.cons (.var 0 "_law_root" ⟨156, 76, 156, 85⟩) .nil)) [1, 0] ⟨156, 46, 156, 54⟩ ⟨156, 46, 156, 86⟩) sc28 ⟨156, 38, 156, 86⟩ ⟨156, 25, 156, 37⟩ ⟨156, 25, 156, 87⟩) rfl (cell_new _ _) (e_outc (g := fun S => Ev.run tb (n + 7) 6 [.d t.d, .d x] S) (fun S => e_callkG (M1 := S) (xs := [.d x, .d t.d]) (as := [.d t.d, .d x]) (by rfl) (by rfl)) (hsight _)) (cell_new _ _) (by rw [sizeLine_eq]; simp)
      rw [set_new] at this
      exact this
    refine q_skip (M1 := M' ++ [.lst [d, d]]) (eT_or2 ?_ ?_) ?_
    · refine eT_cmp (x := .d (.list [.str d.shown, .str d.shown])) (y := .d (.list [.str d.shown, .str d.shown])) (M1 := M' ++ [.lst [d, d]]) (M2 := M' ++ [.lst [d, d]]) (e_lc2 (k := M'.length) (d := d) rfl (cell_new _ _) fun S => e_repr (x := d) rfl hrd) (e_lsts (ds := [.str d.shown, .str d.shown]) rfl (by simp)) ?_
      simp only [COp.ev, lift2, peek, neLL, give]
    · refine eT_cmp (x := .d (.str (PyData.tuple [t.d, x]).shown)) (y := .d (.str (PyData.tuple [t.d, x]).shown)) (M1 := M' ++ [.lst [d, d]]) (M2 := M' ++ [.lst [d, d]]) (e_repr (x := .tuple [t.d, x]) ?_ hrp) rfl ?_
      · exact pair _ _ _ _ _ (by rfl) (by rfl)
      simp only [COp.ev, lift2, peek, neSS, give]
    · exact t_nx ⟨_, _, _, _, _, _, _, _, N ++ [.lst [d, d]], rfl, by rw [← hM, List.append_assoc]⟩
  · rintro ρ' M' ⟨a4, a5, a6, a7, a8, a9, a10, a11, N, rfl, rfl⟩
    refine q_ret (v := .d (.bool true)) (M1 := M ++ N) rfl ?_
    show finR false M.length _ = _
    simp only [finR, finV, cut_keep]
end Law

namespace Law
open PySem PySem.Spec Ev
def pay0 : Tr := .nd "pay" 0 []
def pay1 : Tr := .nd "pay" 1 []
def db0 : Tr := .nd "db" 0 []
def alone : Tr := .nd "front" 0 []
def fine : Tr := .nd "front" 0 [pay0]
def wrong : Tr := .nd "front" 0 [pay1]
def six1 : Tr := .nd "front" 0 [.nd "db" 0 [pay0], .nd "db" 0 [pay0, pay1]]
def six2 : Tr := .nd "front" 0 [db0, db0, db0, pay0, pay1]
theorem nm_db : ("db" : Str) ∈ names := by simp [names]
theorem nm_front : ("front" : Str) ∈ names := by simp [names]
theorem nm_pay : ("pay" : Str) ∈ names := by simp [names]
theorem g_leaf (d : Nat) {s : Str} {m : Int} (h : Ok1 s m) : GS d (.nd s m []) := by
  cases d with
  | zero => exact ⟨h, rfl⟩
  | succ d => exact ⟨h, by simp, by simp, List.Pairwise.nil⟩
theorem g_pay0 (d : Nat) : GS d pay0 := g_leaf d ⟨nm_pay, .inl rfl⟩
theorem g_pay1 (d : Nat) : GS d pay1 := g_leaf d ⟨nm_pay, .inr rfl⟩
theorem g_db0 (d : Nat) : GS d db0 := g_leaf d ⟨nm_db, .inl rfl⟩
theorem g_alone (d : Nat) : GS d alone := g_leaf d ⟨nm_front, .inl rfl⟩
theorem g_fine : GS 3 fine := by
  refine ⟨⟨nm_front, .inl rfl⟩, by simp, fun t ht => ?_, List.pairwise_singleton _ _⟩
  rw [List.mem_singleton.mp ht]
  exact g_pay0 2
theorem g_wrong : GS 3 wrong := by
  refine ⟨⟨nm_front, .inl rfl⟩, by simp, fun t ht => ?_, List.pairwise_singleton _ _⟩
  rw [List.mem_singleton.mp ht]
  exact g_pay1 2
def ascB (ts : List Tr) : Bool := match ts with
  | [] => true
  | t :: ts => ts.all (leT t) && ascB ts
theorem asc_of : ∀ {ts : List Tr}, ascB ts = true → Asc ts
  | [], _ => List.Pairwise.nil
  | t :: ts, h => by
    rw [ascB, Bool.and_eq_true] at h
    exact List.Pairwise.cons (fun u hu => List.all_eq_true.mp h.1 u hu) (asc_of h.2)
theorem g_six1 : GS 3 six1 := by
  refine ⟨⟨nm_front, .inl rfl⟩, by simp, fun t ht => ?_, asc_of (by decide +kernel)⟩
  simp only [List.mem_cons, List.not_mem_nil, or_false] at ht
  rcases ht with rfl | rfl
  · refine ⟨⟨nm_db, .inl rfl⟩, by simp, fun t ht => ?_, List.pairwise_singleton _ _⟩
    rw [List.mem_singleton.mp ht]
    exact g_pay0 1
  · refine ⟨⟨nm_db, .inl rfl⟩, by simp, fun t ht => ?_, asc_of (by decide +kernel)⟩
    simp only [List.mem_cons, List.not_mem_nil, or_false] at ht
    rcases ht with rfl | rfl
    · exact g_pay0 1
    · exact g_pay1 1
theorem g_six2 : GS 3 six2 := by
  refine ⟨⟨nm_front, .inl rfl⟩, by simp, fun t ht => ?_, asc_of (by decide +kernel)⟩
  simp only [List.mem_cons, List.not_mem_nil, or_false] at ht
  rcases ht with rfl | rfl | rfl | rfl | rfl
  · exact g_db0 2
  · exact g_db0 2
  · exact g_db0 2
  · exact g_pay0 2
  · exact g_pay1 2
def docR : PyData := .tuple [.tuple [.str "front", .tuple [.str "own", .int 1, .int 2]], .tuple [.str "pay", .tuple [.str "bad"]]]
theorem s_doc (n : Nat) (M : Sto) : Ev.run tb (n + 1) 16 [] M = .ok (.d (.tuple [.tuple [alone.d, fine.d, wrong.d], docR])) M := by
  show Sat (fun o => o = _) _
  rw [runS n 16 f16.F rfl]
  refine q_run rfl ?_
  refine q_pars (xs := [.d alone.d, .d fine.d, .d wrong.d]) (ρ' := [some (.d alone.d), some (.d fine.d), some (.d wrong.d)]) (M1 := M) ?_ (by simp [sizeLine_eq]) rfl ?_
  · refine es_cons (M1 := M) ?_ (es_cons (M1 := M) ?_ (es_cons (M1 := M) ?_ es_nil)) <;> simp [runF, evSs, CS.ev, CE.ev, CE.evT, CEs.ev, CI.ev, CO.evI, CO.evC, CT.ev, CTs.ev, CTs.len, CT.slots, CTs.slots, gStar, gsPar3, extendV, insertV, getV, dictV, pairsD, gDisp0, gsPars, setAll, lstAt, tgName, tgTup, tgCons, tgNil, evAnd, evOr, evAndT, evOrT, callE, gsSeq, gsNil, gsSet, gsTgt, gsPar, gsExp, gsRet, gsRetN, gsIf, gsPut, gBin, gUn, gVar, gCon, gB, gIf, gTru, gAndT, gOrT, gNotT, gAnd, gOr, gNot, gChain, gNil, gCons, gCall, gTup, gLst, gLstM, gDisp, gSl, gNoPart, gPart, gMeth, giVal, giRng1, giRng2, giZip, giEnu, srcOf, asInt, asBool, startR, COp.ev, BOp.ev, Blt.ev, Mth.ev, Mth.ty, leD_int, fldV, insAt, putS, gsFld, gProp, gMake, gMCall, gMCallK, propE, mkE, mcE, mckE, lift2, lift1, liftC1, peek, toD, toDs, ixV, dctAt, ixL, ixT, give, Out.bind, bindS, OutS.then, finR, finV, addI, subI, cmpII, isaD, negI, intI, intB, lenV, lenLi, lenTu, tupL, tupT, lisL, lisT, PyData.isInt, PyData.isBool, PyData.isTuple, PyData.isList, PyData.isStr, iL, iT, callK, gCallK, pick, giZipS, seqK, truV, truD, PyData.truthy, sizeLine_eq, slLx, slTx, putV, keyD, isNoneV, alone, fine, wrong, pay0, pay1, Tr.d, Tr.ds]
  refine q_ret (v := .d (.tuple [.tuple [alone.d, fine.d, wrong.d], docR])) (M1 := M) ?_ (fin_ret M _)
  simp [runF, evSs, CS.ev, CE.ev, CE.evT, CEs.ev, CI.ev, CO.evI, CO.evC, CT.ev, CTs.ev, CTs.len, CT.slots, CTs.slots, gStar, gsPar3, extendV, insertV, getV, dictV, pairsD, gDisp0, gsPars, setAll, lstAt, tgName, tgTup, tgCons, tgNil, evAnd, evOr, evAndT, evOrT, callE, gsSeq, gsNil, gsSet, gsTgt, gsPar, gsExp, gsRet, gsRetN, gsIf, gsPut, gBin, gUn, gVar, gCon, gB, gIf, gTru, gAndT, gOrT, gNotT, gAnd, gOr, gNot, gChain, gNil, gCons, gCall, gTup, gLst, gLstM, gDisp, gSl, gNoPart, gPart, gMeth, giVal, giRng1, giRng2, giZip, giEnu, srcOf, asInt, asBool, startR, COp.ev, BOp.ev, Blt.ev, Mth.ev, Mth.ty, leD_int, fldV, insAt, putS, gsFld, gProp, gMake, gMCall, gMCallK, propE, mkE, mcE, mckE, lift2, lift1, liftC1, peek, toD, toDs, ixV, dctAt, ixL, ixT, give, Out.bind, bindS, OutS.then, finR, finV, addI, subI, cmpII, isaD, negI, intI, intB, lenV, lenLi, lenTu, tupL, tupT, lisL, lisT, PyData.isInt, PyData.isBool, PyData.isTuple, PyData.isList, PyData.isStr, iL, iT, callK, gCallK, pick, giZipS, seqK, truV, truD, PyData.truthy, sizeLine_eq, slLx, slTx, putV, keyD, isNoneV, docR]
theorem s_six (n : Nat) (M : Sto) : Ev.run tb (n + 1) 17 [] M = .ok (.d (.list [six1.d, six2.d])) M := by
  show Sat (fun o => o = _) _
  rw [runS n 17 f17.F rfl]
  refine q_run rfl ?_
  refine q_pars (xs := [.d pay0.d, .d pay1.d]) (ρ' := [some (.d pay0.d), some (.d pay1.d), none]) (M1 := M) ?_ (by simp [sizeLine_eq]) rfl ?_
  · refine es_cons (M1 := M) ?_ (es_cons (M1 := M) ?_ es_nil) <;> simp [runF, evSs, CS.ev, CE.ev, CE.evT, CEs.ev, CI.ev, CO.evI, CO.evC, CT.ev, CTs.ev, CTs.len, CT.slots, CTs.slots, gStar, gsPar3, extendV, insertV, getV, dictV, pairsD, gDisp0, gsPars, setAll, lstAt, tgName, tgTup, tgCons, tgNil, evAnd, evOr, evAndT, evOrT, callE, gsSeq, gsNil, gsSet, gsTgt, gsPar, gsExp, gsRet, gsRetN, gsIf, gsPut, gBin, gUn, gVar, gCon, gB, gIf, gTru, gAndT, gOrT, gNotT, gAnd, gOr, gNot, gChain, gNil, gCons, gCall, gTup, gLst, gLstM, gDisp, gSl, gNoPart, gPart, gMeth, giVal, giRng1, giRng2, giZip, giEnu, srcOf, asInt, asBool, startR, COp.ev, BOp.ev, Blt.ev, Mth.ev, Mth.ty, leD_int, fldV, insAt, putS, gsFld, gProp, gMake, gMCall, gMCallK, propE, mkE, mcE, mckE, lift2, lift1, liftC1, peek, toD, toDs, ixV, dctAt, ixL, ixT, give, Out.bind, bindS, OutS.then, finR, finV, addI, subI, cmpII, isaD, negI, intI, intB, lenV, lenLi, lenTu, tupL, tupT, lisL, lisT, PyData.isInt, PyData.isBool, PyData.isTuple, PyData.isList, PyData.isStr, iL, iT, callK, gCallK, pick, giZipS, seqK, truV, truD, PyData.truthy, sizeLine_eq, slLx, slTx, putV, keyD, isNoneV, pay0, pay1, Tr.d, Tr.ds]
  refine q_set (v := .d six1.d) (M1 := M) ?_ ?_
  · simp [runF, evSs, CS.ev, CE.ev, CE.evT, CEs.ev, CI.ev, CO.evI, CO.evC, CT.ev, CTs.ev, CTs.len, CT.slots, CTs.slots, gStar, gsPar3, extendV, insertV, getV, dictV, pairsD, gDisp0, gsPars, setAll, lstAt, tgName, tgTup, tgCons, tgNil, evAnd, evOr, evAndT, evOrT, callE, gsSeq, gsNil, gsSet, gsTgt, gsPar, gsExp, gsRet, gsRetN, gsIf, gsPut, gBin, gUn, gVar, gCon, gB, gIf, gTru, gAndT, gOrT, gNotT, gAnd, gOr, gNot, gChain, gNil, gCons, gCall, gTup, gLst, gLstM, gDisp, gSl, gNoPart, gPart, gMeth, giVal, giRng1, giRng2, giZip, giEnu, srcOf, asInt, asBool, startR, COp.ev, BOp.ev, Blt.ev, Mth.ev, Mth.ty, leD_int, fldV, insAt, putS, gsFld, gProp, gMake, gMCall, gMCallK, propE, mkE, mcE, mckE, lift2, lift1, liftC1, peek, toD, toDs, ixV, dctAt, ixL, ixT, give, Out.bind, bindS, OutS.then, finR, finV, addI, subI, cmpII, isaD, negI, intI, intB, lenV, lenLi, lenTu, tupL, tupT, lisL, lisT, PyData.isInt, PyData.isBool, PyData.isTuple, PyData.isList, PyData.isStr, iL, iT, callK, gCallK, pick, giZipS, seqK, truV, truD, PyData.truthy, sizeLine_eq, slLx, slTx, putV, keyD, isNoneV, six1, Tr.d, Tr.ds]
  refine q_ret (v := .d (.list [six1.d, six2.d])) (M1 := M) ?_ (fin_ret M _)
  have hm : mulD (.tuple [db0.d]) (.int 3) = some (.tuple [db0.d, db0.d, db0.d]) := by
    simp only [mulD]
    rw [if_pos ⟨by simp, by omega, by omega, by simp⟩]
    rfl
  have hdb : db0.d = .tuple [.str "db", .int 0, .tuple []] := by simp [db0, Tr.d, Tr.ds]
  rw [hdb] at hm
  have ha : addD (.tuple [.tuple [.str "db", .int 0, .tuple []], .tuple [.str "db", .int 0, .tuple []], .tuple [.str "db", .int 0, .tuple []]]) (.tuple [pay0.d, pay1.d]) = some (.tuple [.tuple [.str "db", .int 0, .tuple []], .tuple [.str "db", .int 0, .tuple []], .tuple [.str "db", .int 0, .tuple []], pay0.d, pay1.d]) := by
    simp [addD, sizeLine_eq]
  have h2 : six2.d = .tuple [.str "front", .int 0, .tuple [.tuple [.str "db", .int 0, .tuple []], .tuple [.str "db", .int 0, .tuple []], .tuple [.str "db", .int 0, .tuple []], pay0.d, pay1.d]] := by
    rw [← hdb]
    simp [six2, Tr.d, Tr.ds]
  rw [h2]
  simp [runF, evSs, CS.ev, CE.ev, CE.evT, CEs.ev, CI.ev, CO.evI, CO.evC, CT.ev, CTs.ev, CTs.len, CT.slots, CTs.slots, gStar, gsPar3, extendV, insertV, getV, dictV, pairsD, gDisp0, gsPars, setAll, lstAt, tgName, tgTup, tgCons, tgNil, evAnd, evOr, evAndT, evOrT, callE, gsSeq, gsNil, gsSet, gsTgt, gsPar, gsExp, gsRet, gsRetN, gsIf, gsPut, gBin, gUn, gVar, gCon, gB, gIf, gTru, gAndT, gOrT, gNotT, gAnd, gOr, gNot, gChain, gNil, gCons, gCall, gTup, gLst, gLstM, gDisp, gSl, gNoPart, gPart, gMeth, giVal, giRng1, giRng2, giZip, giEnu, srcOf, asInt, asBool, startR, COp.ev, BOp.ev, Blt.ev, Mth.ev, Mth.ty, leD_int, fldV, insAt, putS, gsFld, gProp, gMake, gMCall, gMCallK, propE, mkE, mcE, mckE, lift2, lift1, liftC1, peek, toD, toDs, ixV, dctAt, ixL, ixT, give, Out.bind, bindS, OutS.then, finR, finV, addI, subI, cmpII, isaD, negI, intI, intB, lenV, lenLi, lenTu, tupL, tupT, lisL, lisT, PyData.isInt, PyData.isBool, PyData.isTuple, PyData.isList, PyData.isStr, iL, iT, callK, gCallK, pick, giZipS, seqK, truV, truD, PyData.truthy, sizeLine_eq, slLx, slTx, putV, keyD, isNoneV, hm, ha]
/-- a comprehension whose items may leave cells behind -/
theorem lcE_inv3 {t : TgV} {c : Ev0 Bool} {e : Ev0 Vl} {ρ0 : Rho} {n : Nat} {src : ISrc} {xs : List Vl} (hs : ∀ i M', i ≤ xs.length → src.step i M' = some xs[i]?) (P : Nat → Sto → List PyData → Prop)
    (hl : ∀ i S acc, P i S acc → acc.length < sizeLine)
    (h : ∀ i x S acc, xs[i]? = some x → P i S acc → ∃ ρ1, t x ρ0 S = some ρ1 ∧ c ρ1 S = .ok true S ∧ ∃ d S', e ρ1 S = .ok (.d d) S' ∧ S'[n]? = some (.lst acc) ∧ P (i + 1) (S'.set n (.lst (acc ++ [d]))) (acc ++ [d])) :
    ∀ k i S acc, i ≤ xs.length → xs.length - i < k → P i S acc → ∃ S' ys, lcE t c e ρ0 n src k i S = .ok () S' ∧ P xs.length S' ys := by
  intro k
  induction k with
  | zero => intro i S acc _ hk; omega
  | succ k ih =>
    intro i S acc hi hk hP
    simp only [lcE, hs i S hi]
    cases e1 : xs[i]? with
    | none =>
      have : xs.length ≤ i := List.getElem?_eq_none_iff.mp e1
      have : i = xs.length := by omega
      subst this
      exact ⟨S, acc, rfl, hP⟩
    | some x =>
      have hlt := (List.getElem?_eq_some_iff.mp e1).1
      obtain ⟨ρ1, h1, h2, d, S', h3, h4, h5⟩ := h i x S acc e1 hP
      obtain ⟨S2, ys, h6, h7⟩ := ih (i + 1) _ _ hlt (by omega) h5
      refine ⟨S2, ys, ?_, h7⟩
      have ha := hl i S acc hP
      have hadd : addTo n d S' = some (S'.set n (.lst (acc ++ [d]))) := by
        simp only [addTo, h4, if_pos ha]
      simp only [h1, h2, noX, Out.bind, h3, toD, hadd]
      exact h6
theorem Rd.take {c : Int} {S : Sto} {n : Nat} (h : Rd c S) (hn : 0 < n) : Rd c (S.take n) := by
  obtain ⟨cs, sp, re, ca, h, r⟩ := h
  exact ⟨cs, sp, re, ca, by rw [List.getElem?_take_of_lt hn]; exact h, r⟩
theorem Rd.put {c : Int} {S : Sto} {n : Nat} {x : Cell} (h : Rd c S) (hn : n ≠ 0) : Rd c (S.set n x) := by
  obtain ⟨cs, sp, re, ca, h, r⟩ := h
  exact ⟨cs, sp, re, ca, by rw [List.getElem?_set_ne hn]; exact h, r⟩
theorem e_lcG {α β : Type} {fn : Fn} {ρ : Rho} {M : Sto} {p : Pos} {own : List (Str × Nat)} {tg : CT} {it : CI} {elt : CE} {sc : Scope} {src : ISrc} {l : List α} {g : α → Vl} {c : Int} (hgi : it.ev fn ρ M = .ok src M) (w : Walks src M (l.map g)) (h0 : Rd c M) (hN : l.length ≤ 1000) (f : β → PyData) (P : β → Prop) (st : Nat)
    (he : ∀ (i : Nat) (x : α) (S : Sto), l[i]? = some x → Rd (c + st * i) S → ∃ ρ1, tg.ev (g x) (wipeR ρ (own.map (·.2))) S = some ρ1 ∧ ∃ (b : β) (S' : Sto), elt.ev fn ρ1 S = .ok (.d (f b)) S' ∧ Rd (c + st * i + st) S' ∧ (∀ q, 0 < q → q < S.length → S'[q]? = S[q]?) ∧ P b) :
    ∃ (bs : List β) (S' : Sto), CE.ev fn (.lc false elt tg it .none sc own p) ρ M = .ok (.d (.list (bs.map f))) S' ∧ bs.length = l.length ∧ (∀ b ∈ bs, P b) ∧ Rd (c + st * l.length) S' := by
  have hp := h0.pos
  show ∃ (bs : List β) (S' : Sto), gLc false (own.map (·.2)) (it.ev fn) tg.ev gYes (elt.ev fn) ρ M = .ok (.d (.list (bs.map f))) S' ∧ _
  obtain ⟨S', ys, h1, bs, rfl, g2, gN, g4, g5, g6⟩ := lcE_inv3 (t := tg.ev) (c := gYes) (e := elt.ev fn) (ρ0 := wipeR ρ (own.map (·.2))) (n := M.length) w.step (fun i S acc => ∃ bs : List β, acc = bs.map f ∧ bs.length = i ∧ (i ≤ l.length) ∧ (∀ b ∈ bs, P b) ∧ Rd (c + st * i) S ∧ S[M.length]? = some (.lst acc))
    (fun i S acc hP => by
      obtain ⟨bs, rfl, g2, gN, g4, g5, g6⟩ := hP
      rw [List.length_map, sizeLine_eq]
      omega)
    (fun i x S acc hx hP => by
      obtain ⟨bs, rfl, g2, gN, g4, g5, g6⟩ := hP
      rw [List.getElem?_map] at hx
      cases hy : l[i]? with
      | none => rw [hy] at hx; simp at hx
      | some y =>
        rw [hy] at hx
        simp at hx
        subst hx
        have hi := (List.getElem?_eq_some_iff.mp hy).1
        have hSl := (List.getElem?_eq_some_iff.mp g6).1
        obtain ⟨ρ1, k1, b, S', q1, q2, q3, q4⟩ := he i y S hy g5
        have hc := q3 M.length hp hSl
        rw [g6] at hc
        have hS'l := (List.getElem?_eq_some_iff.mp hc).1
        refine ⟨ρ1, k1, rfl, f b, S', q1, hc, bs ++ [b], by simp, by simp [g2], hi, ?_, ?_, ?_⟩
        · intro z hz
          rcases List.mem_append.mp hz with hz | hz
          · exact g4 z hz
          · rw [List.mem_singleton.mp hz]; exact q4
        · refine (q2.put (by omega)).mono ?_
          have : (st : Int) * ((i + 1 : Nat) : Int) = st * i + st := by
            rw [show ((i + 1 : Nat) : Int) = (i : Int) + 1 by omega, Int.mul_add, Int.mul_one]
          omega
        · rw [List.getElem?_set_self hS'l])
    (src.size M + 1) 0 (M ++ [.lst []]) [] (Nat.zero_le _) (by rw [w.size]; omega) ⟨[], rfl, rfl, Nat.zero_le _, by simp, by simpa using h0.app _, by rw [cell_new]⟩
  rw [List.length_map] at g2 g5
  refine ⟨bs, S'.take M.length, ?_, g2, g4, g5.take hp⟩
  simp only [gLc, hgi, Out.bind, h1, lcFin, g6]
  rfl
/-- a random tree, its lot of calls in a new cell -/
theorem d_tree4 (M : Sto) (c : Int) (hr : Rd c M) (hc : c < 70000) : ∃ (t : Tr) (M' : Sto), Ev.run tb 20 15 [.ref 0, .ref M.length, I 3] (M ++ [.lst [.int 3]]) = .ok (.d t.d) M' ∧ (GS 3 t ∧ t.sz ≤ 4) ∧ Rd (c + 45) M' ∧ (∀ q, 0 < q → q < M.length → M'[q]? = M[q]?) := by
  have hc3 := (cost_le 3 (by decide)).2
  have hp := hr.pos
  have h := d_tree 3 (by decide) 14 M.length (M ++ [.lst [.int 3]]) c 3 (hr.app _) (by omega) (by omega) (cell_new _ _) (by decide)
  rw [show ((3 : Nat) : Int) = 3 from rfl, show 14 + 3 + 3 = 20 from rfl] at h
  obtain ⟨t, M', k', e, g, r, f, h2, h3, h4⟩ := h
  refine ⟨t, M', e, ⟨g, by omega⟩, r.mono (by omega), fun q hq hl => ?_⟩
  rw [f.2 q (by omega) (by omega), List.getElem?_append_left hl]
section
variable {fn : Fn} {ρ : Rho} {M : Sto} {p : Pos} {R R' : Vl → Sto → Prop}
theorem to_set {β : Type} {e : CE} {f : β → PyData} {N : Nat} {P : β → Prop} {c : Int} (h : ∃ (bs : List β) (S' : Sto), CE.ev fn e ρ M = .ok (.d (.list (bs.map f))) S' ∧ bs.length = N ∧ (∀ b ∈ bs, P b) ∧ Rd c S') : ∃ v M1, CE.ev fn e ρ M = .ok v M1 ∧ ∃ bs : List β, v = .d (.list (bs.map f)) ∧ bs.length = N ∧ (∀ b ∈ bs, P b) ∧ Rd c M1 := by
  obtain ⟨bs, S', h1, h2⟩ := h
  exact ⟨_, S', h1, bs, rfl, h2⟩
theorem bin_R {op : BOp} {a b : CE} {x : Vl} (ha : CE.ev fn a ρ M = .ok x M) (hb : ∃ v M1, CE.ev fn b ρ M = .ok v M1 ∧ R v M1) (hx : ∀ v M1, R v M1 → ∃ w, lift2 op.ev x v M1 = .ok w M1 ∧ R' w M1) : ∃ v M1, CE.ev fn (.bin op a b p) ρ M = .ok v M1 ∧ R' v M1 := by
  obtain ⟨v, M1, h1, h2⟩ := hb
  obtain ⟨w, h3, h4⟩ := hx v M1 h2
  exact ⟨w, M1, e_bin ha h1 h3, h4⟩
theorem bin_L {op : BOp} {a b : CE} (ha : ∃ v M1, CE.ev fn a ρ M = .ok v M1 ∧ R v M1) (hb : ∀ v M1, R v M1 → ∃ y w, CE.ev fn b ρ M1 = .ok y M1 ∧ lift2 op.ev v y M1 = .ok w M1 ∧ R' w M1) : ∃ v M1, CE.ev fn (.bin op a b p) ρ M = .ok v M1 ∧ R' v M1 := by
  obtain ⟨v, M1, h1, h2⟩ := ha
  obtain ⟨y, w, h3, h4, h5⟩ := hb v M1 h2
  exact ⟨w, M1, e_bin h1 h3 h4, h5⟩
theorem add_ll {xs ys : List PyData} (h : xs.length + ys.length ≤ 1000) : lift2 BOp.add.ev (.d (.list xs)) (.d (.list ys)) M = .ok (.d (.list (xs ++ ys))) M := by
  have hz : xs.length + ys.length ≤ 16777216 := by omega
  simp only [lift2, peek, BOp.ev, addD, sizeLine_eq, if_pos hz, give]
end
theorem trs_map (l : List Tr) : (l.map Tr.d).map Vl.d = l.map fun t => Vl.d t.d := by
  rw [List.map_map]
  rfl
def lvl : Nat := 21
theorem law_run : ∀ ns : List Int, ns.length ≤ 63 → ∃ M, Ev.run (ts.map (·.F)) lvl 20 [scriptD ns] [] = .ok (.d (.bool true)) M := by
  intro ns _
  show Sat (fun o : Out Vl => ∃ M, o = .ok (.d (.bool true)) M) (Ev.run tb (20 + 1) 20 [scriptD ns] [])
  rw [runS 20 20 f20.F rfl]
  refine q_run rfl ?_
  have e0 := s_feed 19 [] ns
  have hR0 : Rd 0 ([] ++ [rdC (ns.take 63) 0 0 0]) := ⟨ns.take 63, 0, 0, 0, rfl, by rw [List.length_take]; omega, by omega, by omega, by omega⟩
  generalize ([] ++ [rdC (ns.take 63) 0 0 0] : Sto) = M1 at e0 hR0
  refine q_set (v := .ref 0) (M1 := M1) (e_call (xs := [scriptD ns]) rfl e0) ?_
  have hd := s_doc 19 M1
  have h6 := s_six 19 M1
  have hit := bin_R (fn := some (Ev.run tb 20)) (ρ := [some (scriptD ns), some (.ref 0), none, none, none]) (M := M1) (p := ⟨162, 21, 162, 124⟩) (op := .add) (x := .d (.list ([alone, fine, wrong, six1, six2].map Tr.d)))
    (a := .bin .add (.blt .list (.ix (.call0 16 "_law_document" ⟨162, 26, 162, 39⟩ ⟨162, 26, 162, 41⟩) (.int 0 0 ⟨162, 42, 162, 43⟩) ⟨162, 26, 162, 44⟩) .nil ⟨162, 21, 162, 25⟩ ⟨162, 21, 162, 45⟩) (.call0 17 "_law_six" ⟨162, 48, 162, 56⟩ ⟨162, 48, 162, 58⟩) ⟨162, 21, 162, 58⟩)
    (b := .lc false (.call 15 "_law_some_tree" (.var 1 "_law_feed_here" ⟨162, 77, 162, 91⟩) (.cons (.lst true (.cons (.int 3 0 ⟨162, 94, 162, 95⟩) .nil) ⟨162, 93, 162, 96⟩) (.cons (.int 3 0 ⟨162, 98, 162, 99⟩) .nil)) ⟨162, 62, 162, 76⟩ ⟨162, 62, 162, 100⟩) (.nm 4 "_law_k" ⟨162, 105, 162, 111⟩) (.rng1 (.int 8 0 ⟨162, 121, 162, 122⟩) ⟨162, 115, 162, 120⟩ ⟨162, 115, 162, 123⟩) .none sc30 [(".0", 3), ("_law_k", 4)] ⟨162, 61, 162, 124⟩)
    (R := fun v M => ∃ bs : List Tr, v = .d (.list (bs.map Tr.d)) ∧ bs.length = 8 ∧ (∀ t ∈ bs, GS 3 t ∧ t.sz ≤ 4) ∧ Rd (0 + (45 : Nat) * (List.range 8).length) M)
    (R' := fun v M => ∃ l : List Tr, v = .d (.list (l.map Tr.d)) ∧ (∀ t ∈ l, GS 3 t ∧ t.sz ≤ 6)) ?_ ?_ ?_
  · obtain ⟨v, M2, hev, l, rfl, hl⟩ := hit
    refine q_for (src := .lst (.d (.list (l.map Tr.d)))) (M1 := M2) (gi_val hev) (walks_lst (l.map Tr.d) M2) (fun i ρ M' => ∃ a b c, ρ = [some (scriptD ns), some (.ref 0), a, b, c]) ⟨_, _, _, rfl⟩ ?_ ?_
    · rintro i x ρ M' hx ⟨a, b, c, rfl⟩
      rw [trs_map, List.getElem?_map] at hx
      obtain ⟨t, ht, rfl⟩ : ∃ t, l[i]? = some t ∧ x = .d t.d := by
        cases e : l[i]? with
        | none => rw [e] at hx; cases hx
        | some x => rw [e] at hx; exact ⟨x, rfl, (Option.some.inj hx).symm⟩
      obtain ⟨hg, hz⟩ := hl t (List.mem_of_getElem? ht)
      refine ⟨_, rfl, ?_⟩
      exact q_skip (M1 := M') (eT_not (k := true) (eT_call (M1 := M') (xs := [.d t.d]) rfl (s_agrees 12 hg hz M'))) (t_nx ⟨_, _, _, rfl⟩)
    · rintro ρ' M' ⟨a, b, c, rfl⟩
      exact q_ret (v := .d (.bool true)) (M1 := M') rfl ⟨_, rfl⟩
  · refine e_bin (x := .d (.list [alone.d, fine.d, wrong.d])) (y := .d (.list [six1.d, six2.d])) (M1 := M1) (M2 := M1) ?_ (e_call0 h6) ?_
    · refine e_blt1 (v := .d (.tuple [alone.d, fine.d, wrong.d])) (M1 := M1) (e_ix (x := .d (.tuple [.tuple [alone.d, fine.d, wrong.d], docR])) (y := .d (.int 0)) (M1 := M1) (M2 := M1) (e_call0 hd) rfl rfl) rfl
    · exact add_ll (xs := [alone.d, fine.d, wrong.d]) (ys := [six1.d, six2.d]) (by simp)
  · refine to_set ?_
    refine e_lcG (src := .rng 0 8) (l := List.range 8) (g := fun k : Nat => Vl.d (.int (0 + (k : Nat)))) (c := 0) rfl (walks_rng 0 8 M1) hR0 (by simp) Tr.d (fun t => GS 3 t ∧ t.sz ≤ 4) 45 ?_
    intro i x S hx rS
    have hi := (List.getElem?_eq_some_iff.mp hx).1
    simp at hi
    obtain ⟨t, S', e, h1, r, h2⟩ := d_tree4 S _ rS (by omega)
    refine ⟨_, rfl, t, S', ?_, r, h2, h1⟩
    refine e_call (M1 := S ++ [.lst [.int 3]]) (xs := [.ref 0, .ref S.length, I 3]) ?_ ?_
    · exact es_cons (M1 := S) rfl (es_cons (M1 := S ++ [.lst [.int 3]]) rfl (es_cons (M1 := S ++ [.lst [.int 3]]) rfl es_nil))
    · exact e
  · rintro v M2 ⟨bs, rfl, hb1, hb2, r2⟩
    refine ⟨.d (.list (([alone, fine, wrong, six1, six2] ++ bs).map Tr.d)), ?_, _, rfl, fun t ht => ?_⟩
    · rw [List.map_append]
      exact add_ll (by rw [List.length_map, List.length_map, hb1]; decide)
    · rcases List.mem_append.mp ht with h | h
      · simp only [List.mem_cons, List.not_mem_nil, or_false] at h
        rcases h with rfl | rfl | rfl | rfl | rfl
        · exact ⟨g_alone 3, by decide⟩
        · exact ⟨g_fine, by decide⟩
        · exact ⟨g_wrong, by decide⟩
        · exact ⟨g_six1, by decide⟩
        · exact ⟨g_six2, by decide⟩
      · have := hb2 t h
        exact ⟨this.1, by omega⟩
end Law

open PySem PySem.W PySem.Calls PyProof.Rows
theorem PySem.Challenge.cw_thinspans_k17_sights_told_holds : PySem.Challenge.rw_thinspans_k17_sights_told.Holds := by
  w_on; o_law
  refine HandSHeadRun.head_any (r := OpenLaw.row PySem.Challenge.rw_thinspans_k17_sights_told) (q := view (OpenLaw.row PySem.Challenge.rw_thinspans_k17_sights_told).prog [33]) (H := Law.hk) (ob := Law.ob) (M := 20000) (loose := Law.loose) (d := HandSHeadRun.topDef (OpenLaw.row PySem.Challenge.rw_thinspans_k17_sights_told).prog 33) (kwd := []) Law.ob_eq
    (by kernel_rfl) (fun s => by kernel_rfl) Law.run0 (by kernel_rfl) (by kernel_rfl) (by kernel_rfl) (by rfl) (by first | assumption | decide +kernel) (by decide +kernel) ⟨rfl, rfl, rfl, rfl, rfl, by decide +kernel⟩ ?hw ?hc
  case hw => w_witness2
  case hc =>
    refine Ev.walk_T (l := PySem.Challenge.rw_thinspans_k17_sights_told) (n := 63) (k := 4 * Law.lvl + 4) (x := "_law_script") (CX := fun w => L2.CX (PySem.Challenge.rw_thinspans_k17_sights_told).prog w) rfl (by decide) (by kernel_rfl) ⟨rfl, by decide, by decide⟩ ?F (fun _ _ _ _ _ z => by obtain ⟨_, _, _, _, _, _, _, _, _, _, _, _, z⟩ := z; exact z)
    intro w mg fa h Y G hmg0
    obtain ⟨K, KX, c, tt⟩ := Y
    have hmg : mg ("law" : PySem.Str) = some (.ref fa) := by
      have e : (HandSHeadRun.topDef (OpenLaw.row PySem.Challenge.rw_thinspans_k17_sights_told).prog 33).name = ("law" : PySem.Str) := by kernel_rfl
      rw [← e]
      exact hmg0
    exact Ev.law_facts (P := (PySem.Challenge.rw_thinspans_k17_sights_told).prog) (w := w) KX G c tt rfl Law.okT (by decide +kernel) Law.bs (by kernel_rfl) (by kernel_rfl) Law.bx Law.bo (j := 20) (F := Law.f20.F) rfl rfl rfl hmg Law.law_run

