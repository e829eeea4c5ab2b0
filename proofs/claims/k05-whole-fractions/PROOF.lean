import PyProof.Rows.All
import Wide.All
import OpenK.AllK
import Wide.FinOn
import PySem.Challenge.RW_thinspans_k05_whole_fractions
import HandS.ForMost
import HandS.Exc
import HandS.Zip
import HandS.Wide
import HandS.Flow
import HandS.TupAny
import HandS.CallSlots
import HandS.Defaults
import HandS.IsInst
import HandS.HeadHook1
import KE.DataAny
import KE.DataIsa
import KE.DataFind
import KE.SortData
import KE.DataMinMax
import HandS.TupMul
import PyProof.SumAnyB
import HandS.TryOnly
import HandS.Small
import HandS.Comp
import HandS.Head0
import HandS.Head1
import HandS.Head2
import HandS.HeadEnd
import HandS.HeadHook2
import KE.KStateDown
set_option Elab.async false
set_option linter.all false
set_option maxRecDepth 100000
set_option maxHeartbeats 0
set_option autoImplicit false
namespace Ev
open PySem PySem.Spec PyProof.Rows L2

/-! ### values, the store, outcomes -/
/-- a value of the evaluator: data, or a mutable cell of the store -/
inductive Vl where
  | d (x : PyData)
  | ref (n : Nat)
/-- a cell: a list, a dict that may change; or one that is fixed from now on -/
inductive Cell where
  | lst (xs : List PyData)
  | dct (kvs : List (Key × PyData))
  | frz (x : PyData)
abbrev Sto := List Cell
structure Exn where
  c : Str
  fs : List (Str × PyData)
inductive Out (α : Type) where
  | ok (a : α) (M : Sto)
  | exc (x : Exn) (M : Sto)
  | bad
def Out.bind {α β : Type} : Out α → (α → Sto → Out β) → Out β
  | .ok a M, k => k a M
  | .exc x M, _ => .exc x M
  | .bad, _ => .bad
theorem Out.bind_ok {α β : Type} (a : α) (M : Sto) (k : α → Sto → Out β) : (Out.ok a M).bind k = k a M := rfl
abbrev Rho := List (Option Vl)
inductive OutS where
  | nx (ρ : Rho) (M : Sto)
  | rt (v : Vl) (M : Sto)
  | bk (ρ : Rho) (M : Sto)
  | ct (ρ : Rho) (M : Sto)
  | exc (x : Exn) (ρ : Rho) (M : Sto)
  | bad

/-! ### how values lie in the heap -/
/-- Z: the part of the heap that never changes; μ: where the cells lie -/
structure Wd where
  Z : Hp
  μ : List Addr
def Wd.le (W W' : Wd) : Prop := Same W.Z W'.Z ∧ ∃ ν, W'.μ = W.μ ++ ν
theorem Wd.le.refl (W : Wd) : W.le W := ⟨Same.refl _, [], (List.append_nil _).symm⟩
theorem Wd.le.trans {W W1 W2 : Wd} (a : W.le W1) (b : W1.le W2) : W.le W2 := by
  obtain ⟨a1, ν, a2⟩ := a
  obtain ⟨b1, ν', b2⟩ := b
  exact ⟨a1.trans b1, ν ++ ν', by rw [b2, a2, List.append_assoc]⟩
theorem Wd.le.at {W W' : Wd} (l : W.le W') {n : Nat} {a : Addr} (h : W.μ[n]? = some a) : W'.μ[n]? = some a := by
  obtain ⟨_, ν, e⟩ := l
  rw [e, List.getElem?_append_left (List.getElem?_eq_some_iff.mp h).1]
  exact h

/-! ### data in the heap (no list of the module's own) -/
mutual
inductive Dq (K : PySem.W.Frag) (H : Hp) : V → PyData → Prop
  | non : Dq K H .non .none
  | bl (b : Bool) : Dq K H (.bl b) (.bool b)
  | int (i : Int) : Dq K H (.int i) (.int i)
  | str (x : Str) : Dq K H (.str x) (.str x)
  | lst {a : Addr} {xs : List V} {ds : List PyData} : SqL K H a xs → DqAll K H xs ds → Dq K H (.ref a) (.list ds)
  | tup {a : Addr} {xs : List V} {ds : List PyData} : SqT K H a xs → DqAll K H xs ds → Dq K H (.ref a) (.tuple ds)
inductive DqAll (K : PySem.W.Frag) (H : Hp) : List V → List PyData → Prop
  | nil : DqAll K H [] []
  | cons {v : V} {vs : List V} {d : PyData} {ds : List PyData} : Dq K H v d → DqAll K H vs ds → DqAll K H (v :: vs) (d :: ds)
end
mutual
theorem Dq.dp {K : PySem.W.Frag} {H : Hp} : ∀ {v : V} {d : PyData}, Dq K H v d → Dp K H v d
  | _, _, .non => .non
  | _, _, .bl b => .bl b
  | _, _, .int i => .int i
  | _, _, .str x => .str x
  | _, _, .lst h a => .lst h (DqAll.dp a)
  | _, _, .tup h a => .tup h (DqAll.dp a)
theorem DqAll.dp {K : PySem.W.Frag} {H : Hp} : ∀ {vs : List V} {ds : List PyData}, DqAll K H vs ds → DpAll K H vs ds
  | _, _, .nil => .nil
  | _, _, .cons h t => .cons (Dq.dp h) (DqAll.dp t)
end
theorem Same.rd {H H' : Hp} {a : Addr} {u : HO} (e : Same H H') (h : Rd H a u) : Rd H' a u := by
  rcases h with h | ⟨o, h⟩
  · exact .inl (e _ _ h)
  · exact .inr ⟨o, e _ _ h⟩
theorem Same.seqL {K : PySem.W.Frag} {H H' : Hp} {a : Addr} {xs : List V} (e : Same H H') (h : SqL K H a xs) : SqL K H' a xs := by
  rcases h with h | h
  · exact .inl (Same.rd e h)
  · exact .inr h
theorem Same.seqT {K : PySem.W.Frag} {H H' : Hp} {a : Addr} {xs : List V} (e : Same H H') (h : SqT K H a xs) : SqT K H' a xs := by
  rcases h with (h | ⟨o, h⟩) | h
  · exact .inl (.inl (e _ _ h))
  · exact .inl (.inr ⟨o, e _ _ h⟩)
  · exact .inr h
mutual
theorem Dq.mono {K : PySem.W.Frag} {H H' : Hp} (e : Same H H') : ∀ {v : V} {d : PyData}, Dq K H v d → Dq K H' v d
  | _, _, .non => .non
  | _, _, .bl b => .bl b
  | _, _, .int i => .int i
  | _, _, .str x => .str x
  | _, _, .lst h a => .lst (Same.seqL e h) (DqAll.mono e a)
  | _, _, .tup h a => .tup (Same.seqT e h) (DqAll.mono e a)
theorem DqAll.mono {K : PySem.W.Frag} {H H' : Hp} (e : Same H H') : ∀ {vs : List V} {ds : List PyData}, DqAll K H vs ds → DqAll K H' vs ds
  | _, _, .nil => .nil
  | _, _, .cons h t => .cons (Dq.mono e h) (DqAll.mono e t)
end
theorem DqAll.length {K : PySem.W.Frag} {H : Hp} : ∀ {vs : List V} {ds : List PyData}, DqAll K H vs ds → vs.length = ds.length
  | _, _, .nil => rfl
  | _, _, .cons _ t => by rw [List.length_cons, List.length_cons, DqAll.length t]
theorem DqAll.get {K : PySem.W.Frag} {H : Hp} : ∀ {vs : List V} {ds : List PyData} {i : Nat} {d : PyData}, DqAll K H vs ds → ds[i]? = some d → ∃ v, vs[i]? = some v ∧ Dq K H v d
  | _, _, _, _, .nil, e => by simp at e
  | _, _, 0, _, .cons h _, e => by simp at e; subst e; exact ⟨_, rfl, h⟩
  | _, _, i + 1, _, .cons _ t, e => by
    obtain ⟨v, h1, h2⟩ := DqAll.get (i := i) t (by simpa using e)
    exact ⟨v, by simpa using h1, h2⟩
theorem DqAll.getV {K : PySem.W.Frag} {H : Hp} : ∀ {vs : List V} {ds : List PyData} {i : Nat} {v : V}, DqAll K H vs ds → vs[i]? = some v → ∃ d, ds[i]? = some d ∧ Dq K H v d
  | _, _, _, _, .nil, e => by simp at e
  | _, _, 0, _, .cons h _, e => by simp at e; subst e; exact ⟨_, rfl, h⟩
  | _, _, i + 1, _, .cons _ t, e => by
    obtain ⟨v, h1, h2⟩ := DqAll.getV (i := i) t (by simpa using e)
    exact ⟨v, by simpa using h1, h2⟩
theorem DqAll.append {K : PySem.W.Frag} {H : Hp} : ∀ {vs ws : List V} {ds es : List PyData}, DqAll K H vs ds → DqAll K H ws es → DqAll K H (vs ++ ws) (ds ++ es)
  | _, _, _, _, .nil, s => s
  | _, _, _, _, .cons h t, s => .cons h (DqAll.append t s)
theorem DqAll.take {K : PySem.W.Frag} {H : Hp} : ∀ {vs : List V} {ds : List PyData} (n : Nat), DqAll K H vs ds → DqAll K H (vs.take n) (ds.take n)
  | _, _, 0, _ => .nil
  | _, _, _ + 1, .nil => .nil
  | _, _, n + 1, .cons h t => .cons h (DqAll.take n t)
theorem DqAll.drop {K : PySem.W.Frag} {H : Hp} : ∀ {vs : List V} {ds : List PyData} (n : Nat), DqAll K H vs ds → DqAll K H (vs.drop n) (ds.drop n)
  | _, _, 0, h => h
  | _, _, _ + 1, .nil => .nil
  | _, _, n + 1, .cons _ t => DqAll.drop n t
theorem DqAll.set {K : PySem.W.Frag} {H : Hp} {v : V} {d : PyData} (r : Dq K H v d) : ∀ {vs : List V} {ds : List PyData} (i : Nat), DqAll K H vs ds → DqAll K H (vs.set i v) (ds.set i d)
  | _, _, _, .nil => .nil
  | _, _, 0, .cons _ t => .cons r t
  | _, _, i + 1, .cons h t => .cons h (DqAll.set r i t)
theorem DqAll.ints {K : PySem.W.Frag} {H : Hp} : ∀ (ns : List Int), DqAll K H (ns.map V.int) (ns.map PyData.int)
  | [] => .nil
  | n :: ns => .cons (.int n) (DqAll.ints ns)
theorem DqAll.ints_of {K : PySem.W.Frag} {H : Hp} : ∀ {vs : List V} {ns : List Int}, DqAll K H vs (ns.map PyData.int) → vs = ns.map V.int
  | _, [], h => by cases h; rfl
  | _, n :: ns, h => by
    cases h with
    | cons h t =>
      cases h
      rw [DqAll.ints_of t]
      rfl
theorem DqAll.bools_of {K : PySem.W.Frag} {H : Hp} : ∀ {vs : List V} {ns : List Bool}, DqAll K H vs (ns.map PyData.bool) → vs = ns.map V.bl
  | _, [], h => by cases h; rfl
  | _, n :: ns, h => by
    cases h with
    | cons h t =>
      cases h
      rw [DqAll.bools_of t]
      rfl

def CellR (K : PySem.W.Frag) (Z H : Hp) (a : Addr) : Cell → Prop
  | .lst xs => Z a = none ∧ ∃ vs, H a = some (.lst vs) ∧ DqAll K Z vs xs
  | .dct kvs => Z a = none ∧ ∃ vs, H a = some (.dK vs) ∧ Paired (fun (p : Key × V) (q : Key × PyData) => p.1 = q.1 ∧ Dq K Z p.2 q.2) vs kvs
  | .frz x => (∃ o, Z a = some o) ∧ Dq K Z (.ref a) x
def VlR (K : PySem.W.Frag) (W : Wd) (v : V) : Vl → Prop
  | .d x => Dq K W.Z v x
  | .ref n => ∃ a, v = .ref a ∧ W.μ[n]? = some a
theorem VlR.mono {K : PySem.W.Frag} {W W' : Wd} (l : W.le W') {v : V} : ∀ {x : Vl}, VlR K W v x → VlR K W' v x
  | .d _, h => Dq.mono l.1 h
  | .ref _, ⟨a, e, h⟩ => ⟨a, e, l.at h⟩
inductive VlsR (K : PySem.W.Frag) (W : Wd) : List V → List Vl → Prop
  | nil : VlsR K W [] []
  | cons {v : V} {x : Vl} {vs : List V} {xs : List Vl} : VlR K W v x → VlsR K W vs xs → VlsR K W (v :: vs) (x :: xs)
theorem VlsR.mono {K : PySem.W.Frag} {W W' : Wd} (l : W.le W') : ∀ {vs : List V} {xs : List Vl}, VlsR K W vs xs → VlsR K W' vs xs
  | _, _, .nil => .nil
  | _, _, .cons h t => .cons (h.mono l) (VlsR.mono l t)
theorem VlsR.length {K : PySem.W.Frag} {W : Wd} : ∀ {vs : List V} {xs : List Vl}, VlsR K W vs xs → vs.length = xs.length
  | _, _, .nil => rfl
  | _, _, .cons _ t => by rw [List.length_cons, List.length_cons, VlsR.length t]
theorem VlsR.get {K : PySem.W.Frag} {W : Wd} : ∀ {vs : List V} {xs : List Vl} {i : Nat} {x : Vl}, VlsR K W vs xs → xs[i]? = some x → ∃ v, vs[i]? = some v ∧ VlR K W v x
  | _, _, _, _, .nil, e => by simp at e
  | _, _, 0, _, .cons h _, e => by simp at e; subst e; exact ⟨_, rfl, h⟩
  | _, _, i + 1, _, .cons _ t, e => by
    obtain ⟨v, h1, h2⟩ := VlsR.get (i := i) t (by simpa using e)
    exact ⟨v, by simpa using h1, h2⟩

/-- the store lies in the heap -/
structure RelM (K : PySem.W.Frag) (W : Wd) (H : Hp) (M : Sto) : Prop where
  sub : Same W.Z H
  len : W.μ.length = M.length
  nd : W.μ.Nodup
  cell : ∀ (n : Nat) (a : Addr) (c : Cell), W.μ[n]? = some a → M[n]? = some c → CellR K W.Z H a c
def SltR (K : PySem.W.Frag) (W : Wd) (σ : L2.St) (ρ : Rho) : Prop := σ.length = ρ.length ∧ ∀ (i : Nat) (x : Vl), ρ[i]? = some (some x) → ∃ v, σ[i]? = some (some v) ∧ VlR K W v x
theorem SltR.mono {K : PySem.W.Frag} {W W' : Wd} (l : W.le W') {σ : L2.St} {ρ : Rho} (h : SltR K W σ ρ) : SltR K W' σ ρ :=
  ⟨h.1, fun i x e => let ⟨v, h1, h2⟩ := h.2 i x e; ⟨v, h1, h2.mono l⟩⟩
theorem SltR.set {K : PySem.W.Frag} {W : Wd} {σ : L2.St} {ρ : Rho} (h : SltR K W σ ρ) {v : V} {x : Vl} (r : VlR K W v x) (i : Nat) : SltR K W (σ.set i (some v)) (ρ.set i (some x)) := by
  refine ⟨by simp [h.1], fun j y e => ?_⟩
  by_cases hj : i = j
  · subst hj
    by_cases hl : i < ρ.length
    · rw [List.getElem?_set_self hl] at e
      cases e
      exact ⟨v, by rw [List.getElem?_set_self (by rw [h.1]; exact hl)], r⟩
    · rw [List.getElem?_eq_none (by simpa using hl)] at e
      cases e
  · rw [List.getElem?_set_ne hj] at e ⊢
    exact h.2 j y e
theorem SltR.unset {K : PySem.W.Frag} {W : Wd} {σ : L2.St} {ρ : Rho} (h : SltR K W σ ρ) (i : Nat) : SltR K W (σ.set i none) (ρ.set i none) := by
  refine ⟨by simp [h.1], fun j y e => ?_⟩
  by_cases hj : i = j
  · subst hj
    by_cases hl : i < ρ.length
    · rw [List.getElem?_set_self hl] at e
      cases e
    · rw [List.getElem?_eq_none (by simpa using hl)] at e
      cases e
  · rw [List.getElem?_set_ne hj] at e ⊢
    exact h.2 j y e

section
variable {K : PySem.W.Frag} {W : Wd} {H H' : Hp} {M : Sto}
theorem cellR_there {Z : Hp} {a : Addr} {c : Cell} (s : Same Z H) (h : CellR K Z H a c) : ∃ o, H a = some o := by
  cases c with
  | lst xs => obtain ⟨_, vs, e, _⟩ := h; exact ⟨_, e⟩
  | dct kvs => obtain ⟨_, vs, e, _⟩ := h; exact ⟨_, e⟩
  | frz x => obtain ⟨⟨o, e⟩, _⟩ := h; exact ⟨o, s _ _ e⟩
theorem RelM.there (R : RelM K W H M) {n : Nat} {a : Addr} (h : W.μ[n]? = some a) : ∃ o, H a = some o := by
  have hl : n < M.length := by rw [← R.len]; exact (List.getElem?_eq_some_iff.mp h).1
  exact cellR_there R.sub (R.cell n a _ h (List.getElem?_eq_getElem hl))
theorem RelM.notin (R : RelM K W H M) {p : Addr} (h : H p = none) : p ∉ W.μ := fun hm => by
  obtain ⟨n, hn⟩ := List.getElem?_of_mem hm
  obtain ⟨o, e⟩ := R.there hn
  rw [h] at e
  cases e
theorem RelM.Znone (R : RelM K W H M) {p : Addr} (h : H p = none) : W.Z p = none := by
  cases e : W.Z p with
  | none => rfl
  | some o =>
    rw [R.sub _ _ e] at h
    cases h
theorem paired_mono {α β : Type} {F G : α → β → Prop} : ∀ {l₁ : List α} {l₂ : List β}, Paired F l₁ l₂ → (∀ a b, F a b → G a b) → Paired G l₁ l₂
  | _, _, .nil, _ => .nil
  | _, _, .cons h t, f => .cons (f _ _ h) (paired_mono t f)
theorem CellR.mono {Z Z' : Hp} {a : Addr} {c : Cell} (s : Same Z Z') (hz : Z a = none → Z' a = none) (hh : ∀ o, H a = some o → H' a = some o) (h : CellR K Z H a c) : CellR K Z' H' a c := by
  cases c with
  | lst xs => obtain ⟨z, vs, e, d⟩ := h; exact ⟨hz z, vs, hh _ e, DqAll.mono s d⟩
  | dct kvs => obtain ⟨z, vs, e, d⟩ := h; exact ⟨hz z, vs, hh _ e, paired_mono d fun p q r => ⟨r.1, Dq.mono s r.2⟩⟩
  | frz x => obtain ⟨⟨o, e⟩, d⟩ := h; exact ⟨⟨o, s _ _ e⟩, Dq.mono s d⟩
/-- the heap has grown -/
theorem RelM.grow (R : RelM K W H M) (s : Same H H') : RelM K W H' M :=
  ⟨R.sub.trans s, R.len, R.nd, fun n a c h1 h2 => CellR.mono (Same.refl _) (fun z => z) (fun o e => s _ _ e) (R.cell n a c h1 h2)⟩
theorem same_upd {p : Addr} {o : HO} (h : H p = none) : Same H (upd H p o) := fun b u e => by
  rw [upd_ne (ne_of_none e h)]
  exact e
/-- a new fixed object -/
theorem RelM.newZ (R : RelM K W H M) {p : Addr} (h : H p = none) (o : HO) : RelM K ⟨upd W.Z p o, W.μ⟩ (upd H p o) M ∧ W.le ⟨upd W.Z p o, W.μ⟩ := by
  have hz := R.Znone h
  refine ⟨⟨fun b u e => ?_, R.len, R.nd, fun n a c h1 h2 => ?_⟩, same_upd hz, [], (List.append_nil _).symm⟩
  · have e : upd W.Z p o b = some u := e
    by_cases hb : b = p
    · subst hb
      rw [upd_same] at e ⊢
      exact e
    · rw [upd_ne hb] at e ⊢
      exact R.sub _ _ e
  · have hne : a ≠ p := fun z => R.notin h (z ▸ List.mem_of_getElem? h1)
    exact CellR.mono (same_upd hz) (fun z => by show upd W.Z p o a = none; rw [upd_ne hne]; exact z) (fun u e => by rw [upd_ne hne]; exact e) (R.cell n a c h1 h2)
/-- a new cell -/
theorem RelM.newM (R : RelM K W H M) {p : Addr} (h : H p = none) {o : HO} {c : Cell} (hc : CellR K W.Z (upd H p o) p c) : RelM K ⟨W.Z, W.μ ++ [p]⟩ (upd H p o) (M ++ [c]) ∧ W.le ⟨W.Z, W.μ ++ [p]⟩ ∧ (W.μ ++ [p])[M.length]? = some p := by
  have hlast : (W.μ ++ [p])[M.length]? = some p := by
    rw [← R.len]
    simp
  refine ⟨⟨fun b u e => ?_, by simp [R.len], ?_, fun n a c' h1 h2 => ?_⟩, ⟨Same.refl _, [p], rfl⟩, hlast⟩
  · have e : W.Z b = some u := e
    rw [upd_ne (ne_of_none e (R.Znone h))]
    exact R.sub _ _ e
  · show (W.μ ++ [p]).Nodup
    rw [List.nodup_append]
    refine ⟨R.nd, by simp, fun a ha b hb => ?_⟩
    have : b = p := by simpa using hb
    rw [this]
    exact fun z => R.notin h (z ▸ ha)
  · have h1 : (W.μ ++ [p])[n]? = some a := h1
    by_cases hn : n < M.length
    · rw [List.getElem?_append_left (by rw [R.len]; exact hn)] at h1
      rw [List.getElem?_append_left hn] at h2
      have hne : a ≠ p := fun z => R.notin h (z ▸ List.mem_of_getElem? h1)
      exact CellR.mono (Same.refl _) (fun z => z) (fun u e => by rw [upd_ne hne]; exact e) (R.cell n a c' h1 h2)
    · have hl : n < (M ++ [c]).length := (List.getElem?_eq_some_iff.mp h2).1
      have en : n = M.length := by
        rw [List.length_append, List.length_singleton] at hl
        omega
      subst en
      rw [hlast] at h1
      have e2 : c = c' := by
        simpa using h2
      rw [← Option.some.inj h1, ← e2]
      exact hc
/-- a cell is changed -/
theorem RelM.setM (R : RelM K W H M) {n : Nat} {a : Addr} (h : W.μ[n]? = some a) (hz : W.Z a = none) {o : HO} {c : Cell} (hc : CellR K W.Z (upd H a o) a c) : RelM K W (upd H a o) (M.set n c) := by
  refine ⟨fun b u e => ?_, by simp [R.len], R.nd, fun m b c' h1 h2 => ?_⟩
  · rw [upd_ne (ne_of_none e hz)]
    exact R.sub _ _ e
  · have hn : n < M.length := by rw [← R.len]; exact (List.getElem?_eq_some_iff.mp h).1
    by_cases hm : n = m
    · subst hm
      rw [h] at h1
      rw [List.getElem?_set_self hn] at h2
      cases h1
      cases h2
      exact hc
    · rw [List.getElem?_set_ne hm] at h2
      have hne : b ≠ a := fun z => hm (by
        subst z
        obtain ⟨p1, q1⟩ := List.getElem?_eq_some_iff.mp h
        obtain ⟨p2, q2⟩ := List.getElem?_eq_some_iff.mp h1
        exact (List.getElem_inj R.nd).mp (q1.trans q2.symm))
      exact CellR.mono (Same.refl _) (fun z => z) (fun u e => by rw [upd_ne hne]; exact e) (R.cell m b c' h1 h2)
/-- a list cell is fixed from now on -/
theorem RelM.freeze (R : RelM K W H M) {n : Nat} {a : Addr} {xs : List PyData} (h : W.μ[n]? = some a) (hM : M[n]? = some (.lst xs)) :
    ∃ W', W.le W' ∧ RelM K W' H (M.set n (.frz (.list xs))) ∧ Dq K W'.Z (.ref a) (.list xs) := by
  obtain ⟨z, vs, e, d⟩ := R.cell n a _ h hM
  have s : Same W.Z (upd W.Z a (.lst vs)) := same_upd z
  have hd : Dq K (upd W.Z a (.lst vs)) (.ref a) (.list xs) := .lst (.inl (.inl upd_same)) (DqAll.mono s d)
  refine ⟨⟨upd W.Z a (.lst vs), W.μ⟩, ⟨s, [], (List.append_nil _).symm⟩, ⟨fun b u q => ?_, by simp [R.len], R.nd, fun m b c' h1 h2 => ?_⟩, hd⟩
  · by_cases hb : b = a
    · subst hb
      have q : upd W.Z b (.lst vs) b = some u := q
      rw [upd_same] at q
      rw [← q]
      exact e
    · have q : upd W.Z a (.lst vs) b = some u := q
      rw [upd_ne hb] at q
      exact R.sub _ _ q
  · have hn : n < M.length := by rw [← R.len]; exact (List.getElem?_eq_some_iff.mp h).1
    by_cases hm : n = m
    · subst hm
      have h1 : W.μ[n]? = some b := h1
      rw [h] at h1
      rw [List.getElem?_set_self hn] at h2
      cases h1
      cases h2
      exact ⟨⟨_, upd_same⟩, hd⟩
    · rw [List.getElem?_set_ne hm] at h2
      have hne : b ≠ a := fun z => hm (by
        subst z
        obtain ⟨p1, q1⟩ := List.getElem?_eq_some_iff.mp h
        obtain ⟨p2, q2⟩ := List.getElem?_eq_some_iff.mp h1
        exact (List.getElem_inj R.nd).mp (q1.trans q2.symm))
      exact CellR.mono s (fun z => by show upd W.Z a (.lst vs) b = none; rw [upd_ne hne]; exact z) (fun o q => q) (R.cell m b c' h1 h2)
/-- the last cells are forgotten -/
theorem RelM.trunc (R : RelM K W H M) (k : Nat) : RelM K ⟨W.Z, W.μ.take k⟩ H (M.take k) := by
  refine ⟨R.sub, by simp [R.len], ?_, fun n a c h1 h2 => ?_⟩
  · exact R.nd.sublist (List.take_sublist _ _)
  · have h1 : (W.μ.take k)[n]? = some a := h1
    have hk : n < k := by
      have := (List.getElem?_eq_some_iff.mp h1).1
      rw [List.length_take] at this
      omega
    rw [List.getElem?_take_of_lt hk] at h1 h2
    exact R.cell n a c h1 h2
end
end Ev

namespace Ev
open PySem PySem.Spec PyProof.Rows L2

/-! ### what is wanted of an outcome -/
def ExnR (K : PySem.W.Frag) (W : Wd) (H : Hp) (cls : Value) (dx : Option Addr) (x : Exn) : Prop :=
  cls = .ref (He.ga K x.c) ∧ ∃ d fs, dx = some d ∧ H d = some (.xd fs) ∧ Paired (fun (p : Str × V) (q : Str × PyData) => p.1 = q.1 ∧ Dq K W.Z p.2 q.2) fs x.fs
section
variable {α β γ δ : Type}
def Post (R : Wd → β → α → Prop) (K : PySem.W.Frag) (W0 : WX) (W : Wd) (σ : L2.St) (o : Out α) (Q : β → Hp → Prop) : Prop := match o with
  | .ok x M' => ∀ v H' W', W.le W' → RelM K W' H' M' → R W' v x → Q v H'
  | .exc x M' => ∀ cls dx H' W', W.le W' → RelM K W' H' M' → ExnR K W' H' cls dx x → W0 cls dx σ H'
  | .bad => False
theorem Post.mono {R : Wd → β → α → Prop} {K : PySem.W.Frag} {W0 : WX} {W W1 : Wd} {σ : L2.St} {o : Out α} {Q : β → Hp → Prop} (l : W.le W1) (h : Post R K W0 W σ o Q) : Post R K W0 W1 σ o Q := by
  cases o with
  | ok x M => exact fun v H' W' l' => h v H' W' (l.trans l')
  | exc x M => exact fun c d H' W' l' => h c d H' W' (l.trans l')
  | bad => exact h
theorem Post.imp {R : Wd → β → α → Prop} {K : PySem.W.Frag} {W0 : WX} {W : Wd} {σ : L2.St} {o : Out α} {Q Q' : β → Hp → Prop} (h : Post R K W0 W σ o Q) (hq : ∀ v H, Q v H → Q' v H) : Post R K W0 W σ o Q' := by
  cases o with
  | ok x M => exact fun v H' W' l r q => hq _ _ (h v H' W' l r q)
  | exc x M => exact h
  | bad => exact h
theorem post_bind {R : Wd → β → α → Prop} {R2 : Wd → δ → γ → Prop} {K : PySem.W.Frag} {W0 : WX} {W : Wd} {σ : L2.St} {o : Out α} {k : α → Sto → Out γ} {Q : β → Hp → Prop} {Q2 : δ → Hp → Prop} (P : Post R2 K W0 W σ (o.bind k) Q2)
    (h : ∀ v H1 W1 M1 x, o = .ok x M1 → W.le W1 → RelM K W1 H1 M1 → R W1 v x → Post R2 K W0 W1 σ (k x M1) Q2 → Q v H1) : Post R K W0 W σ o Q := by
  cases o with
  | ok x M => exact fun v H' W' l r q => h v H' W' M x rfl l r q (Post.mono l P)
  | exc x M => exact P
  | bad => exact P
end
def PostS (K : PySem.W.Frag) (W0 : WX) (W : Wd) (o : OutS) (D : Ends) : Prop := match o with
  | .nx ρ' M' => ∀ σ' H' W', W.le W' → RelM K W' H' M' → SltR K W' σ' ρ' → D.nx σ' H'
  | .rt x M' => ∀ v H' W', W.le W' → RelM K W' H' M' → VlR K W' v x → D.rt v H'
  | .bk ρ' M' => ∀ σ' H' W', W.le W' → RelM K W' H' M' → SltR K W' σ' ρ' → D.bk σ' H'
  | .ct ρ' M' => ∀ σ' H' W', W.le W' → RelM K W' H' M' → SltR K W' σ' ρ' → D.ct σ' H'
  | .exc x ρ' M' => ∀ cls dx σ' H' W', W.le W' → RelM K W' H' M' → SltR K W' σ' ρ' → ExnR K W' H' cls dx x → W0 cls dx σ' H'
  | .bad => False
theorem PostS.mono {K : PySem.W.Frag} {W0 : WX} {W W1 : Wd} {o : OutS} {D : Ends} (l : W.le W1) (h : PostS K W0 W o D) : PostS K W0 W1 o D := by
  cases o with
  | nx ρ M => exact fun σ H W' l' => h σ H W' (l.trans l')
  | rt x M => exact fun v H W' l' => h v H W' (l.trans l')
  | bk ρ M => exact fun σ H W' l' => h σ H W' (l.trans l')
  | ct ρ M => exact fun σ H W' l' => h σ H W' (l.trans l')
  | exc x ρ M => exact fun c d σ H W' l' => h c d σ H W' (l.trans l')
  | bad => exact h
def OutS.then (o : OutS) (k : Rho → Sto → OutS) : OutS := match o with
  | .nx ρ M => k ρ M
  | .rt v M => .rt v M
  | .bk ρ M => .bk ρ M
  | .ct ρ M => .ct ρ M
  | .exc x ρ M => .exc x ρ M
  | .bad => .bad
/-- an expression's outcome, then a statement's -/
def bindS {α : Type} (ρ : Rho) (o : Out α) (k : α → Sto → OutS) : OutS := match o with
  | .ok x M => k x M
  | .exc x M => .exc x ρ M
  | .bad => .bad
theorem postS_bind {α β : Type} {R : Wd → β → α → Prop} {K : PySem.W.Frag} {W0 : WX} {W : Wd} {σ : L2.St} {ρ : Rho} {o : Out α} {k : α → Sto → OutS} {D : Ends} {Q : β → Hp → Prop} (sl : SltR K W σ ρ) (P : PostS K W0 W (bindS ρ o k) D)
    (h : ∀ v H1 W1 M1 x, o = .ok x M1 → W.le W1 → RelM K W1 H1 M1 → R W1 v x → PostS K W0 W1 (k x M1) D → Q v H1) : Post R K W0 W σ o Q := by
  cases o with
  | ok x M => exact fun v H' W' l r q => h v H' W' M x rfl l r q (PostS.mono l P)
  | exc x M => exact fun c d H' W' l r q => P c d σ H' W' l r (sl.mono l) q
  | bad => exact P

/-! ### judgements: the readings by outcome -/
abbrev BoR : Wd → Bool → Bool → Prop := fun _ b x => b = x
def aE (K : PySem.W.Frag) (W0 : WX) (g : Rho → Sto → Out Vl) : TE := fun σ H Q => ∃ ρ M W, RelM K W H M ∧ SltR K W σ ρ ∧ Post (VlR K) K W0 W σ (g ρ M) Q
def aT (K : PySem.W.Frag) (W0 : WX) (g : Rho → Sto → Out Bool) : TT := fun σ H Q => ∃ ρ M W, RelM K W H M ∧ SltR K W σ ρ ∧ Post BoR K W0 W σ (g ρ M) Q
def aA (K : PySem.W.Frag) (W0 : WX) (g : Rho → Sto → Out (List Vl)) : TA := fun σ H Q => ∃ ρ M W, RelM K W H M ∧ SltR K W σ ρ ∧ Post (VlsR K) K W0 W σ (g ρ M) Q
def aS (K : PySem.W.Frag) (W0 : WX) (g : Rho → Sto → OutS) : TS := fun D σ H => ∃ ρ M W, RelM K W H M ∧ SltR K W σ ρ ∧ PostS K W0 W (g ρ M) D
/-- the context X with the wish W0 about exceptions -/
abbrev SE (X : Cx) (W0 : WX) (e : Expr) (g : Rho → Sto → Out Vl) : Prop := PE X e (aE X.K W0 g)
abbrev ST (X : Cx) (W0 : WX) (e : Expr) (g : Rho → Sto → Out Bool) : Prop := PT X e (aT X.K W0 g)
abbrev SA (X : Cx) (W0 : WX) (es : List Expr) (g : Rho → Sto → Out (List Vl)) : Prop := PA X es (aA X.K W0 g)
abbrev SS (X : Cx) (W0 : WX) (st : Stmt) (g : Rho → Sto → OutS) : Prop := PS X st (aS X.K W0 g)
abbrev SSs (X : Cx) (W0 : WX) (st : List Stmt) (g : Rho → Sto → OutS) : Prop := PSs X st (aS X.K W0 g)
section
variable {X : Cx}
theorem PE.mono {e : Expr} {t t' : TE} (h : PE X e t) (m : ∀ σ H Q, t' σ H Q → t σ H Q) : PE X e t' := ⟨fun pins s σ H Q I q => h.run pins s σ H Q I (m _ _ _ q)⟩
theorem PT.mono {e : Expr} {t t' : TT} (h : PT X e t) (m : ∀ σ H Q, t' σ H Q → t σ H Q) : PT X e t' := ⟨fun pins s σ H Q I q => h.run pins s σ H Q I (m _ _ _ q)⟩
theorem PW.mono {e : Expr} {t t' : TT} (h : PW X e t) (m : ∀ σ H Q, t' σ H Q → t σ H Q) : PW X e t' := ⟨fun wh pins s σ H Q I q => h.run wh pins s σ H Q I (m _ _ _ q)⟩
theorem PA.mono {e : List Expr} {t t' : TA} (h : PA X e t) (m : ∀ σ H Q, t' σ H Q → t σ H Q) : PA X e t' := ⟨fun pos pins s σ H Q I q => h.run pos pins s σ H Q I (m _ _ _ q)⟩
theorem PS.mono {e : Stmt} {t t' : TS} (h : PS X e t) (m : ∀ D σ H, t' D σ H → t D σ H) : PS X e t' := ⟨fun pins s σ H D I q => h.run pins s σ H D I (m _ _ _ q)⟩
theorem PSs.mono {e : List Stmt} {t t' : TS} (h : PSs X e t) (m : ∀ D σ H, t' D σ H → t D σ H) : PSs X e t' := ⟨fun pins s σ H D I q => h.run pins s σ H D I (m _ _ _ q)⟩
end

/-! ### data -/
mutual
theorem Dq.plain {K : PySem.W.Frag} {H : Hp} : ∀ {v : V} {d : PyData}, Dq K H v d → d.plain = true
  | _, _, .non => by simp [PyData.plain]
  | _, _, .bl b => by simp [PyData.plain]
  | _, _, .int i => by simp [PyData.plain]
  | _, _, .str x => by simp [PyData.plain]
  | _, _, .lst _ a => by simp only [PyData.plain]; exact DqAll.plain a
  | _, _, .tup _ a => by simp only [PyData.plain]; exact DqAll.plain a
theorem DqAll.plain {K : PySem.W.Frag} {H : Hp} : ∀ {vs : List V} {ds : List PyData}, DqAll K H vs ds → PyData.plainAll ds = true
  | _, _, .nil => by simp [PyData.plainAll]
  | _, _, .cons h t => by simp only [PyData.plainAll, Dq.plain h, DqAll.plain t, Bool.and_self]
end
/-- a value as data, read -/
def peek (M : Sto) : Vl → Option PyData
  | .d x => some x
  | .ref n => match M[n]? with
    | some (.lst xs) => some (.list xs)
    | some (.frz x) => some x
    | _ => none
/-- .. to be kept: a list cell is fixed from then on -/
def toD (M : Sto) : Vl → Option (PyData × Sto)
  | .d x => some (x, M)
  | .ref n => match M[n]? with
    | some (.lst xs) => some (.list xs, M.set n (.frz (.list xs)))
    | some (.frz x) => some (x, M)
    | _ => none
def toDs (M : Sto) : List Vl → Option (List PyData × Sto)
  | [] => some ([], M)
  | v :: vs => match toD M v with
    | some (d, M1) => (match toDs M1 vs with
      | some (ds, M2) => some (d :: ds, M2)
      | none => none)
    | none => none
section
variable {K : PySem.W.Frag} {W : Wd} {H : Hp} {M : Sto}
theorem RelM.cellAt (R : RelM K W H M) {n : Nat} {c : Cell} (h : M[n]? = some c) : ∃ a, W.μ[n]? = some a ∧ CellR K W.Z H a c := by
  have hn : n < W.μ.length := by rw [R.len]; exact (List.getElem?_eq_some_iff.mp h).1
  exact ⟨_, List.getElem?_eq_getElem hn, R.cell n _ c (List.getElem?_eq_getElem hn) h⟩
theorem peek_dp (R : RelM K W H M) {v : V} {x : Vl} {d : PyData} (r : VlR K W v x) (h : peek M x = some d) : Dq K H v d := by
  cases x with
  | d y =>
    have e : y = d := Option.some.inj h
    subst e
    exact Dq.mono R.sub r
  | ref n =>
    obtain ⟨a, rfl, hm⟩ := r
    simp only [peek] at h
    cases e : M[n]? with
    | none => rw [e] at h; cases h
    | some c =>
      obtain ⟨a', hm', hc⟩ := R.cellAt e
      rw [hm] at hm'
      cases hm'
      rw [e] at h
      cases c with
      | lst xs =>
        cases h
        obtain ⟨z, vs, hv, hd⟩ := hc
        exact .lst (.inl (.inl hv)) (DqAll.mono R.sub hd)
      | frz y =>
        cases h
        exact Dq.mono R.sub hc.2
      | dct kvs => cases h
theorem toD_dp (R : RelM K W H M) {v : V} {x : Vl} {d : PyData} {M' : Sto} (r : VlR K W v x) (h : toD M x = some (d, M')) : ∃ W', W.le W' ∧ RelM K W' H M' ∧ Dq K W'.Z v d := by
  cases x with
  | d y =>
    have e : (y, M) = (d, M') := Option.some.inj h
    cases e
    exact ⟨W, Wd.le.refl W, R, r⟩
  | ref n =>
    obtain ⟨a, rfl, hm⟩ := r
    simp only [toD] at h
    cases e : M[n]? with
    | none => rw [e] at h; cases h
    | some c =>
      rw [e] at h
      cases c with
      | lst xs =>
        cases h
        exact R.freeze hm e
      | frz y =>
        cases h
        obtain ⟨a', hm', hc⟩ := R.cellAt e
        rw [hm] at hm'
        cases hm'
        exact ⟨W, Wd.le.refl W, R, hc.2⟩
      | dct kvs => cases h
theorem toDs_dp : ∀ {W : Wd} {M : Sto} {vs : List V} {xs : List Vl} {ds : List PyData} {M' : Sto}, RelM K W H M → VlsR K W vs xs → toDs M xs = some (ds, M') → ∃ W', W.le W' ∧ RelM K W' H M' ∧ DqAll K W'.Z vs ds
  | W, M, _, _, ds, M', R, .nil, h => by
    cases h
    exact ⟨W, Wd.le.refl W, R, .nil⟩
  | W, M, _, _, ds, M', R, .cons (v := v) (x := x) (vs := vs) (xs := xs) h1 h2, h => by
    simp only [toDs] at h
    cases e : toD M x with
    | none => rw [e] at h; cases h
    | some p =>
      obtain ⟨d, M1⟩ := p
      rw [e] at h
      obtain ⟨W1, l1, R1, r1⟩ := toD_dp R h1 e
      have h : (match toDs M1 xs with
        | some (ds, M2) => some (d :: ds, M2)
        | none => none) = some (ds, M') := h
      cases e2 : toDs M1 xs with
      | none => rw [e2] at h; cases h
      | some q =>
        obtain ⟨es, M2⟩ := q
        rw [e2] at h
        cases h
        obtain ⟨W2, l2, R2, r2⟩ := toDs_dp R1 (h2.mono l1) e2
        exact ⟨W2, l1.trans l2, R2, .cons (Dq.mono l2.1 r1) r2⟩
end
/-- reading data off the machine's heap -/
theorem inv_dp {X : Cx} {pins : List (Addr × Obj)} {σ : L2.St} {H : Hp} {s : Shared} {v : V} {u : Value} {d : PyData} (I : Inv X pins σ H s) (h : Dq X.K H v d) (r : RelV v u) : (∃ as, Reads s.heap u d as) ∧ d.plain = true := ⟨Dp.reads I d v u (Dq.dp h) r, Dq.plain h⟩
end Ev

namespace Ev
open PySem PySem.Spec PyProof.Rows L2

/-! ### operators on values -/
/-- a value that has been peeked at -/
def PkR (K : PySem.W.Frag) (W : Wd) (H : Hp) (v : V) (d : PyData) : Prop := Dq K W.Z v d ∨ ∃ a vs xs, v = .ref a ∧ d = .list xs ∧ H a = some (.lst vs) ∧ DqAll K W.Z vs xs
section
variable {K : PySem.W.Frag} {W : Wd} {H : Hp} {M : Sto}
theorem peek_pk (R : RelM K W H M) {v : V} {x : Vl} {d : PyData} (r : VlR K W v x) (h : peek M x = some d) : PkR K W H v d := by
  cases x with
  | d y =>
    have e : y = d := Option.some.inj h
    subst e
    exact .inl r
  | ref n =>
    obtain ⟨a, rfl, hm⟩ := r
    simp only [peek] at h
    cases e : M[n]? with
    | none => rw [e] at h; cases h
    | some c =>
      obtain ⟨a', hm', hc⟩ := R.cellAt e
      rw [hm] at hm'
      cases hm'
      rw [e] at h
      cases c with
      | lst xs =>
        cases h
        obtain ⟨z, vs, hv, hd⟩ := hc
        exact .inr ⟨a, vs, xs, rfl, rfl, hv, hd⟩
      | frz y =>
        cases h
        exact .inl hc.2
      | dct kvs => cases h
theorem PkR.dp (R : RelM K W H M) {v : V} {d : PyData} (h : PkR K W H v d) : Dq K H v d := by
  rcases h with h | ⟨a, vs, xs, rfl, rfl, e, hd⟩
  · exact Dq.mono R.sub h
  · exact .lst (.inl (.inl e)) (DqAll.mono R.sub hd)
theorem PkR.int {v : V} {i : Int} (h : PkR K W H v (.int i)) : v = .int i := by
  rcases h with h | ⟨_, _, _, _, e, _⟩
  · cases h; rfl
  · cases e
theorem PkR.bool {v : V} {i : Bool} (h : PkR K W H v (.bool i)) : v = .bl i := by
  rcases h with h | ⟨_, _, _, _, e, _⟩
  · cases h; rfl
  · cases e
theorem PkR.str {v : V} {i : Str} (h : PkR K W H v (.str i)) : v = .str i := by
  rcases h with h | ⟨_, _, _, _, e, _⟩
  · cases h; rfl
  · cases e
theorem PkR.none {v : V} (h : PkR K W H v .none) : v = .non := by
  rcases h with h | ⟨_, _, _, _, e, _⟩
  · cases h; rfl
  · cases e
theorem PkR.list (R : RelM K W H M) {v : V} {xs : List PyData} (h : PkR K W H v (.list xs)) : ∃ a vs, v = .ref a ∧ SqL K H a vs ∧ DqAll K W.Z vs xs := by
  rcases h with h | ⟨a, vs, ys, rfl, e, hv, hd⟩
  · cases h with
    | lst hs hd => exact ⟨_, _, rfl, Same.seqL R.sub hs, hd⟩
  · cases e
    exact ⟨a, vs, rfl, .inl (.inl hv), hd⟩
theorem PkR.tuple (R : RelM K W H M) {v : V} {xs : List PyData} (h : PkR K W H v (.tuple xs)) : ∃ a vs, v = .ref a ∧ SqT K W.Z a vs ∧ SqT K H a vs ∧ DqAll K W.Z vs xs := by
  rcases h with h | ⟨a, vs, ys, rfl, e, hv, hd⟩
  · cases h with
    | tup hs hd => exact ⟨_, _, rfl, hs, Same.seqT R.sub hs, hd⟩
  · cases e
/-- a new list, a new tuple of data -/
theorem RelM.mkL (R : RelM K W H M) {p : Addr} (h : H p = Option.none) {vs : List V} {xs : List PyData} (d : DqAll K W.Z vs xs) : RelM K ⟨upd W.Z p (.lst vs), W.μ⟩ (upd H p (.lst vs)) M ∧ W.le ⟨upd W.Z p (.lst vs), W.μ⟩ ∧ Dq K (upd W.Z p (.lst vs)) (.ref p) (.list xs) := by
  obtain ⟨R', l⟩ := R.newZ h (.lst vs)
  exact ⟨R', l, .lst (.inl (.inl upd_same)) (DqAll.mono l.1 d)⟩
theorem RelM.mkT (R : RelM K W H M) {p : Addr} (h : H p = Option.none) {vs : List V} {xs : List PyData} (d : DqAll K W.Z vs xs) : RelM K ⟨upd W.Z p (.tup vs), W.μ⟩ (upd H p (.tup vs)) M ∧ W.le ⟨upd W.Z p (.tup vs), W.μ⟩ ∧ Dq K (upd W.Z p (.tup vs)) (.ref p) (.tuple xs) := by
  obtain ⟨R', l⟩ := R.newZ h (.tup vs)
  exact ⟨R', l, .tup (.inl (.inl upd_same)) (DqAll.mono l.1 d)⟩
end
/-- a value out -/
def give (M : Sto) : Option PyData → Out Vl
  | some c => .ok (.d c) M
  | none => .bad
def lift2 (f : PyData → PyData → Option PyData) (x y : Vl) (M : Sto) : Out Vl := match peek M x, peek M y with
  | some a, some b => give M (f a b)
  | _, _ => .bad
def lift1 (f : PyData → Option PyData) (x : Vl) (M : Sto) : Out Vl := match peek M x with
  | some a => give M (f a)
  | none => .bad
def aO (K : PySem.W.Frag) (W0 : WX) (op : Vl → Vl → Sto → Out Vl) : R2 := fun x y H Q => ∃ (W : Wd) (M : Sto) (σ : L2.St) (v1 v2 : Vl), RelM K W H M ∧ VlR K W x v1 ∧ VlR K W y v2 ∧ Post (VlR K) K W0 W σ (op v1 v2 M) Q
def aU (K : PySem.W.Frag) (W0 : WX) (op : Vl → Sto → Out Vl) : V → Hp → VK → Prop := fun x H Q => ∃ (W : Wd) (M : Sto) (σ : L2.St) (v1 : Vl), RelM K W H M ∧ VlR K W x v1 ∧ Post (VlR K) K W0 W σ (op v1 M) Q
def aC (K : PySem.W.Frag) (W0 : WX) (op : List Vl → Sto → Out Vl) : List V → Hp → VK → Prop := fun xs H Q => ∃ (W : Wd) (M : Sto) (σ : L2.St) (vs : List Vl), RelM K W H M ∧ VlsR K W xs vs ∧ Post (VlR K) K W0 W σ (op vs M) Q
section
variable {K : PySem.W.Frag} {W0 : WX} {W : Wd} {H : Hp} {M : Sto} {σ : L2.St}
theorem lift2_post {f : PyData → PyData → Option PyData} {x y : V} {v1 v2 : Vl} {Q : VK} (R : RelM K W H M) (r1 : VlR K W x v1) (r2 : VlR K W y v2) (P : Post (VlR K) K W0 W σ (lift2 f v1 v2 M) Q) :
    ∃ a b c, PkR K W H x a ∧ PkR K W H y b ∧ f a b = some c ∧ ∀ v H' W', W.le W' → RelM K W' H' M → Dq K W'.Z v c → Q v H' := by
  unfold lift2 at P
  cases e1 : peek M v1 with
  | none => rw [e1] at P; exact P.elim
  | some a =>
    cases e2 : peek M v2 with
    | none => rw [e1, e2] at P; exact P.elim
    | some b =>
      rw [e1, e2] at P
      cases e3 : f a b with
      | none =>
        have P : Post (VlR K) K W0 W σ (give M (f a b)) Q := P
        rw [e3] at P; exact P.elim
      | some c =>
        have P : Post (VlR K) K W0 W σ (give M (f a b)) Q := P
        rw [e3] at P
        exact ⟨a, b, c, peek_pk R r1 e1, peek_pk R r2 e2, e3, P⟩
theorem lift1_post {f : PyData → Option PyData} {x : V} {v1 : Vl} {Q : VK} (R : RelM K W H M) (r1 : VlR K W x v1) (P : Post (VlR K) K W0 W σ (lift1 f v1 M) Q) :
    ∃ a c, PkR K W H x a ∧ f a = some c ∧ ∀ v H' W', W.le W' → RelM K W' H' M → Dq K W'.Z v c → Q v H' := by
  unfold lift1 at P
  cases e1 : peek M v1 with
  | none => rw [e1] at P; exact P.elim
  | some a =>
    rw [e1] at P
    have P : Post (VlR K) K W0 W σ (give M (f a)) Q := P
    cases e3 : f a with
    | none => rw [e3] at P; exact P.elim
    | some c =>
      rw [e3] at P
      exact ⟨a, c, peek_pk R r1 e1, e3, P⟩
end

/-! #### + - * // % ** -/
def addD : PyData → PyData → Option PyData
  | .int i, .int j => some (.int (i + j))
  | .str a, .str b => if a.length + b.length ≤ sizeLine then some (.str (a ++ b)) else none
  | .tuple xs, .tuple ys => if xs.length + ys.length ≤ sizeLine then some (.tuple (xs ++ ys)) else none
  | .list xs, .list ys => if xs.length + ys.length ≤ sizeLine then some (.list (xs ++ ys)) else none
  | _, _ => none
def subD : PyData → PyData → Option PyData
  | .int i, .int j => some (.int (i - j))
  | _, _ => none
/-- n copies -/
def repL {α : Type} (n : Nat) (xs : List α) : List α := (List.replicate n xs).flatten
def mulD : PyData → PyData → Option PyData
  | .int i, .int j => if i.natAbs.log2 + j.natAbs.log2 < 1000000 then some (.int (i * j)) else none
  | .tuple xs, .int k => if xs ≠ [] ∧ 2 ≤ k ∧ k ≤ 1000 ∧ xs.length ≤ 1000 then some (.tuple (repL k.toNat xs)) else if k = 1 then some (.tuple xs) else none
  | .list xs, .int k => if -(2 ^ 63) ≤ k ∧ k < 2 ^ 63 ∧ xs.length * k.toNat ≤ sizeLine then some (.list (repL k.toNat xs)) else none
  | _, _ => none
def divD : PyData → PyData → Option PyData
  | .int i, .int j => if j ≠ 0 ∧ j.natAbs.log2 < 9000 then some (.int (i.fdiv j)) else none
  | _, _ => none
def modD : PyData → PyData → Option PyData
  | .int i, .int j => if j ≠ 0 then some (.int (i.fmod j)) else none
  | _, _ => none
def powD : PyData → PyData → Option PyData
  | .int i, .int j => if 0 ≤ j ∧ j ≤ 1000000 ∧ i.natAbs < 2 ^ 64 then some (.int (i ^ j.toNat)) else none
  | _, _ => none
section
variable {X : Cx} {W0 : WX}
theorem inv_rdL {pins : List (Addr × Obj)} {σ : L2.St} {H : Hp} {s : Shared} {l : Addr} {xs : List V} (I : Inv X pins σ H s) (hH : Rd H l (.lst xs)) :
    xs.length ≤ sizeLine ∧ ∃ (its : List Value) (n : Nat), Vals xs its ∧ xs.length = its.length ∧ s.heap.get? l = some { cls := .type "list", data := .seq its.toArray n } := by
  obtain ⟨z, its, n, r, e⟩ := hH.ok I.hok
  exact ⟨z, its, n, r, r.length, e⟩
theorem op_catL : OpR X (binaryOp .Add) (fun x y H Q => ∃ l b xs zs, x = .ref l ∧ y = .ref b ∧ SqL X.K H l xs ∧ SqL X.K H b zs ∧ xs.length + zs.length ≤ sizeLine ∧ ∀ p, H p = none → Q (.ref p) (upd H p (.lst (xs ++ zs)))) := by
  intro pins s σ H x y v u Q I rx ry h
  obtain ⟨l, b, xs, zs, rfl, rfl, hH, hB, hz, q⟩ := h
  cases rx
  cases ry
  obtain ⟨its, r, hl, z⟩ := I.list hH
  obtain ⟨its2, r2, hl2, z2⟩ := I.list hB
  obtain ⟨⟨cls, dd, data, sl⟩, n, ho, hc, hd0, hd⟩ := id hl
  obtain ⟨⟨cls2, dd2, data2, sl2⟩, n2, ho2, hc2, hd02, hd2⟩ := id hl2
  simp only at hc hd hc2 hd2
  subst hc hd hc2 hd2
  have hlen := r.length
  have hlen2 := r2.length
  refine concat_meets ⟨_, ho, rfl⟩ ⟨_, ho2, rfl⟩ noFill_list_add seq_list_add PySem.F.slot_list_add PySem.F.entry_list_add (PySem.F.args_list_add_2 _ _) (list_addW l b its.toArray its2.toArray n n2 dd dd2 sl sl2 (by rw [List.size_toArray, List.size_toArray]; omega)) ⟨ho, ho2, ?_⟩
  have ea : its.toArray ++ its2.toArray = (its ++ its2).toArray := by simp
  rw [ea]
  exact ⟨.ref _, _, I.lnew (t' := s.toks) (r.append r2) (by rw [List.length_append]; omega), rfl, q _ I.fresh⟩
theorem op_addV : OpR X (binaryOp .Add) (aO X.K W0 (lift2 addD)) := by
  intro pins s σ H x y v u Q I rx ry h
  obtain ⟨W, M, σ', v1, v2, R, r1, r2, P⟩ := h
  obtain ⟨a, b, c, pa, pb, e, q⟩ := lift2_post R r1 r2 P
  cases a with
  | int i =>
    cases b with
    | int j =>
      cases e
      obtain rfl := pa.int
      obtain rfl := pb.int
      exact op_add pins s σ H _ _ v u Q I rx ry ⟨i, j, rfl, rfl, q _ _ W (Wd.le.refl W) R (.int _)⟩
    | _ => cases e
  | str i =>
    cases b with
    | str j =>
      obtain rfl := pa.str
      obtain rfl := pb.str
      simp only [addD] at e
      split at e
      · rename_i hz
        cases e
        exact op_add_str pins s σ H _ _ v u Q I rx ry ⟨i, j, rfl, rfl, hz, q _ _ W (Wd.le.refl W) R (.str _)⟩
      · cases e
    | _ => cases e
  | tuple xs =>
    cases b with
    | tuple ys =>
      simp only [addD] at e
      split at e
      · rename_i hz
        cases e
        obtain ⟨a, vs, rfl, ha0, ha, hd⟩ := pa.tuple R
        obtain ⟨b, ws, rfl, hb0, hb, he⟩ := pb.tuple R
        refine op_catA pins s σ H _ _ v u Q I rx ry ⟨a, b, vs, ws, rfl, rfl, ha, hb, by rw [hd.length, he.length]; exact hz, fun ev => ?_, fun _ ew => ?_, fun _ _ p hp => ?_⟩
        · subst ev
          cases hd
          exact q _ _ W (Wd.le.refl W) R (.tup hb0 he)
        · subst ew
          cases he
          rw [List.append_nil] at q
          exact q _ _ W (Wd.le.refl W) R (.tup ha0 hd)
        · obtain ⟨R', l, d⟩ := R.mkT hp (hd.append he)
          exact q _ _ _ l R' d
      · cases e
    | _ => cases e
  | list xs =>
    cases b with
    | list ys =>
      simp only [addD] at e
      split at e
      · rename_i hz
        cases e
        obtain ⟨a, vs, rfl, ha, hd⟩ := pa.list R
        obtain ⟨b, ws, rfl, hb, he⟩ := pb.list R
        refine op_catL pins s σ H _ _ v u Q I rx ry ⟨a, b, vs, ws, rfl, rfl, ha, hb, by rw [hd.length, he.length]; exact hz, fun p hp => ?_⟩
        obtain ⟨R', l, d⟩ := R.mkL hp (hd.append he)
        exact q _ _ _ l R' d
      · cases e
    | _ => cases e
  | _ => cases e
theorem op_subV : OpR X (binaryOp .Sub) (aO X.K W0 (lift2 subD)) := by
  intro pins s σ H x y v u Q I rx ry h
  obtain ⟨W, M, σ', v1, v2, R, r1, r2, P⟩ := h
  obtain ⟨a, b, c, pa, pb, e, q⟩ := lift2_post R r1 r2 P
  cases a with
  | int i =>
    cases b with
    | int j =>
      cases e
      obtain rfl := pa.int
      obtain rfl := pb.int
      exact op_sub pins s σ H _ _ v u Q I rx ry ⟨i, j, rfl, rfl, q _ _ W (Wd.le.refl W) R (.int _)⟩
    | _ => cases e
  | _ => cases e
theorem op_divV : OpR X (binaryOp .FloorDiv) (aO X.K W0 (lift2 divD)) := by
  intro pins s σ H x y v u Q I rx ry h
  obtain ⟨W, M, σ', v1, v2, R, r1, r2, P⟩ := h
  obtain ⟨a, b, c, pa, pb, e, q⟩ := lift2_post R r1 r2 P
  cases a with
  | int i =>
    cases b with
    | int j =>
      obtain rfl := pa.int
      obtain rfl := pb.int
      simp only [divD] at e
      split at e
      · rename_i hz
        cases e
        exact (opI (X := X) (C := fun i j => j ≠ 0 ∧ j.natAbs.log2 < 9000) (g := fun i j => i.fdiv j) fun i j _ _ _ _ _ hc q => floordiv_int hc.1 q (.inl (PyProof.noPylong_of_log2 hc.2))) pins s σ H _ _ v u Q I rx ry ⟨i, j, rfl, rfl, hz, q _ _ W (Wd.le.refl W) R (.int _)⟩
      · cases e
    | _ => cases e
  | _ => cases e
theorem op_modV : OpR X (binaryOp .Mod) (aO X.K W0 (lift2 modD)) := by
  intro pins s σ H x y v u Q I rx ry h
  obtain ⟨W, M, σ', v1, v2, R, r1, r2, P⟩ := h
  obtain ⟨a, b, c, pa, pb, e, q⟩ := lift2_post R r1 r2 P
  cases a with
  | int i =>
    cases b with
    | int j =>
      obtain rfl := pa.int
      obtain rfl := pb.int
      simp only [modD] at e
      split at e
      · rename_i hz
        cases e
        exact op_modN pins s σ H _ _ v u Q I rx ry ⟨i, j, rfl, rfl, hz, q _ _ W (Wd.le.refl W) R (.int _)⟩
      · cases e
    | _ => cases e
  | _ => cases e
theorem op_powV : OpR X (binaryOp .Pow) (aO X.K W0 (lift2 powD)) := by
  intro pins s σ H x y v u Q I rx ry h
  obtain ⟨W, M, σ', v1, v2, R, r1, r2, P⟩ := h
  obtain ⟨a, b, c, pa, pb, e, q⟩ := lift2_post R r1 r2 P
  cases a with
  | int i =>
    cases b with
    | int j =>
      obtain rfl := pa.int
      obtain rfl := pb.int
      simp only [powD] at e
      split at e
      · rename_i hz
        cases e
        exact op_pow pins s σ H _ _ v u Q I rx ry ⟨i, j, rfl, rfl, hz, q _ _ W (Wd.le.refl W) R (.int _)⟩
      · cases e
    | _ => cases e
  | _ => cases e
end
end Ev

namespace Ev
open PySem PySem.Spec PyProof.Rows L2
open Builtin
theorem tuple_mul1 (l : Addr) (items : Array Value) (n : Nat) (dd : Option Addr) (sl : Array (Option Value)) (x : Int) (u : Tok) (c0 : (decide (x < -(2 ^ 63)) || decide (x ≥ 2 ^ 63)) = false) (c1 : (items.isEmpty || x == 1) = true) :
    Meets (Builtin.«tuple.__mul__» ⟨[.ref l, .int x u], []⟩) (fun _ R s => s.heap.get? l = some { cls := .type "tuple", dict := dd, data := .seq items n, slots := sl } ∧ R (.ok (.ret (Value.ref l))) s) :=
  .of_wp fun prog w A R s h => by
    obtain ⟨hp, g, d, tk, os⟩ := s
    obtain ⟨hl, h⟩ := h
    have f1 := AutoSeq1.idx_int
    wp_walk using wpAny_loadPart' hl
    refine wpAny_ite_false (decide_eq_false (by rw [c0]; exact Bool.false_ne_true)) ?_
    wp_walk using wpAny_loadPart' hl
    exact ⟨_, rfl, h⟩
theorem int_rmul_listW (a : Int) (t : Tok) (l : Addr) (items : Array Value) (n : Nat) (dd : Option Addr) (sl : Array (Option Value)) :
    Meets (Builtin.«int.__rmul__» ⟨[.int a t, .ref l], []⟩) (fun _ R s => s.heap.get? l = some { cls := .type "list", dict := dd, data := .seq items n, slots := sl } ∧ R (.ok (.ret Value.notImplemented)) s) :=
  .of_wp fun prog w A R s h => by obtain ⟨hp, g, d, tk, os⟩ := s; obtain ⟨hl, h⟩ := h; wp_walk; exact ⟨_, rfl, h⟩
theorem list_mulW (l : Addr) (items : Array Value) (n : Nat) (dd : Option Addr) (sl : Array (Option Value)) (x : Int) (u : Tok) (hc0 : ¬(!Builtin.List.listFitsIndex x) = true) (hc1 : ¬items.size * x.toNat > (2 ^ 63 - 1) / 8) (hc2 : ¬Builtin.List.listTooLong (items.size * x.toNat) = true) :
    Meets (Builtin.«list.__mul__» ⟨[.ref l, .int x u], []⟩) (fun _ R s => s.heap.get? l = some { cls := .type "list", dict := dd, data := .seq items n, slots := sl } ∧ R (.ok (.ret (Value.ref s.heap.objs.size))) { s with heap := s.heap.push { cls := Value.type "list", data := Data.seq (List.foldl (fun x1 x2 => x1 ++ x2) #[] (List.replicate (if items.isEmpty = true then 0 else x.toNat) items)) }, toks := s.toks }) :=
  .of_wp fun prog w A R s h => by
    obtain ⟨hp, g, d, tk, os⟩ := s; obtain ⟨hl, h⟩ := h
    have hsz := AutoListH.joined_fits hc2
    wp_walk; refine wpAny_ite_false (decide_eq_false (Nat.not_lt.mpr hsz)) ?_; wp_walk; exact ⟨_, rfl, h⟩
section
variable {X : Cx} {W0 : WX}
theorem op_repT1 : OpR X (binaryOp .Mult) (fun x y H Q => ∃ l xs, x = .ref l ∧ y = .int 1 ∧ SqT X.K H l xs ∧ Q (.ref l) H) := by
  intro pins s σ H x y v u Q I rx ry h
  obtain ⟨l, xs, rfl, rfl, hT, q⟩ := h
  cases rx
  obtain ⟨t, rfl⟩ := ry
  obtain ⟨its, r, ⟨⟨cls, dd, data, sl⟩, ho, hc, n, hd⟩, hs⟩ := I.tuple hT
  simp only at hc hd
  subst hc hd
  exact wpAny_binaryOp_repeat_ref (T := "tuple") (U := "int") (by decide) ⟨_, ho, rfl⟩ (fun s' => typeIs_int s' 1 t) noFill_tuple_mul F.fills_int_mul F.slot_int_rmul repeat_tuple F.slot_int_index.lookup
    (call_meets F.slot_int_rmul (typeIs_int s 1 t) F.entry_int_rmul (F.args_int_rmul_2 _ _) (int_rmul_tuple 1 t l its.toArray n dd sl)
      ⟨ho, rfl, ⟨_, ho, rfl⟩, call_meets F.slot_tuple_mul ⟨_, ho, rfl⟩ F.entry_tuple_mul (F.args_tuple_mul_2 _ _) (tuple_mul1 l its.toArray n dd sl 1 t (by decide) (by simp)) ⟨ho, ⟨.ref l, H, I, rfl, q⟩⟩⟩)
theorem op_repL : OpR X (binaryOp .Mult) (fun x y H Q => ∃ l k xs, x = .ref l ∧ y = .int k ∧ SqL X.K H l xs ∧ -(2 ^ 63) ≤ k ∧ k < 2 ^ 63 ∧ xs.length * k.toNat ≤ sizeLine ∧
  ∀ p, H p = none → Q (.ref p) (upd H p (.lst (List.replicate k.toNat xs).flatten))) := by
  intro pins s σ H x y v u Q I rx ry h
  obtain ⟨l, k, xs, rfl, rfl, hH, h1, h2, hz, q⟩ := h
  cases rx
  obtain ⟨t, rfl⟩ := ry
  obtain ⟨its, r, hpl, z⟩ := I.list hH
  obtain ⟨⟨cls, dd, data, sl⟩, n, e, hc, hd0, hd⟩ := id hpl
  simp only at hc hd
  subst hc hd
  have hl := r.length
  have hlen : its.toArray.size * k.toNat ≤ sizeLine := by rw [List.size_toArray, ← hl]; exact hz
  have hcap : ¬ its.toArray.size * k.toNat > (2 ^ 63 - 1) / 8 := by
    have : (sizeLine : Nat) ≤ (2 ^ 63 - 1) / 8 := by decide
    omega
  have hfit : ¬ (!Builtin.List.listFitsIndex k) = true := by
    rw [fitsIndex_both h1 h2]
    exact Bool.false_ne_true
  have hlong : ¬ Builtin.List.listTooLong (its.toArray.size * k.toNat) = true := by
    rw [notLongL hlen]
    exact Bool.false_ne_true
  have hnew : List.foldl (fun x1 x2 => x1 ++ x2) #[] (List.replicate (if its.toArray.isEmpty = true then 0 else k.toNat) its.toArray) = (List.replicate k.toNat its).flatten.toArray := by
    have f0 : ∀ m : Nat, List.foldl (fun x1 x2 => x1 ++ x2) #[] (List.replicate m its.toArray) = (List.replicate m its).flatten.toArray := fun m => by
      have := foldl_rep its m []
      rw [List.nil_append] at this
      exact this
    rw [f0]
    cases its with
    | nil => simp
    | cons a r' => rw [if_neg (by simp)]
  refine wpAny_binaryOp_repeat_ref (T := "list") (U := "int") (by decide) ⟨_, e, rfl⟩ (fun s' => typeIs_int s' k t) noFill_list_mul F.fills_int_mul F.slot_int_rmul repeat_list F.slot_int_index.lookup
    (call_meets F.slot_int_rmul (typeIs_int s k t) F.entry_int_rmul (F.args_int_rmul_2 _ _) (int_rmul_listW k t l its.toArray n dd sl)
      ⟨e, rfl, ⟨_, e, rfl⟩, call_meets F.slot_list_mul ⟨_, e, rfl⟩ F.entry_list_mul (F.args_list_mul_2 _ _) (list_mulW l its.toArray n dd sl k t hfit hcap hlong) ⟨e, ?_⟩⟩)
  rw [hnew]
  exact ⟨.ref _, _, I.lnew (t' := s.toks) (r.rep k.toNat) (by rw [PyProof.Rows.lm_len_rep_flat, Nat.mul_comm]; exact hz), rfl, q _ I.fresh⟩
theorem DqAll.rep {K : PySem.W.Frag} {H : Hp} {vs : List V} {ds : List PyData} (h : DqAll K H vs ds) : ∀ n : Nat, DqAll K H (List.replicate n vs).flatten (List.replicate n ds).flatten
  | 0 => .nil
  | n + 1 => by
    rw [List.replicate_succ, List.replicate_succ, List.flatten_cons, List.flatten_cons]
    exact h.append (DqAll.rep h n)
theorem op_mulV : OpR X (binaryOp .Mult) (aO X.K W0 (lift2 mulD)) := by
  intro pins s σ H x y v u Q I rx ry h
  obtain ⟨W, M, σ', v1, v2, R, r1, r2, P⟩ := h
  obtain ⟨a, b, c, pa, pb, e, q⟩ := lift2_post R r1 r2 P
  cases a with
  | int i =>
    cases b with
    | int j =>
      obtain rfl := pa.int
      obtain rfl := pb.int
      simp only [mulD] at e
      split at e
      · rename_i hz
        cases e
        exact op_mulW pins s σ H _ _ v u Q I rx ry ⟨i, j, rfl, rfl, hz, q _ _ W (Wd.le.refl W) R (.int _)⟩
      · cases e
    | _ => cases e
  | tuple xs =>
    cases b with
    | int k =>
      obtain rfl := pb.int
      obtain ⟨a, vs, rfl, ha0, ha, hd⟩ := pa.tuple R
      simp only [mulD] at e
      split at e
      · rename_i hz
        cases e
        obtain ⟨h1, h2, h3, h4⟩ := hz
        refine op_repT pins s σ H _ _ v u Q I rx ry ⟨a, k, vs, rfl, rfl, ha, fun ev => h1 ?_, h2, h3, by rw [hd.length]; exact h4, fun p hp => ?_⟩
        · subst ev
          cases hd
          rfl
        · obtain ⟨R', l, d⟩ := R.mkT hp (hd.rep k.toNat)
          exact q _ _ _ l R' d
      · split at e
        · rename_i hk
          subst hk
          cases e
          exact op_repT1 pins s σ H _ _ v u Q I rx ry ⟨a, vs, rfl, rfl, ha, q _ _ W (Wd.le.refl W) R (.tup ha0 hd)⟩
        · cases e
    | _ => cases e
  | list xs =>
    cases b with
    | int k =>
      obtain rfl := pb.int
      obtain ⟨a, vs, rfl, ha, hd⟩ := pa.list R
      simp only [mulD] at e
      split at e
      · rename_i hz
        cases e
        obtain ⟨h1, h2, h3⟩ := hz
        refine op_repL pins s σ H _ _ v u Q I rx ry ⟨a, k, vs, rfl, rfl, ha, h1, h2, by rw [hd.length]; exact h3, fun p hp => ?_⟩
        obtain ⟨R', l, d⟩ := R.mkL hp (hd.rep k.toNat)
        exact q _ _ _ l R' d
      · cases e
    | _ => cases e
  | _ => cases e
end
end Ev

namespace Ev
open PySem PySem.Spec PyProof.Rows L2

/-! #### == != < <= > >= in is -/
def eqD (a b : PyData) : Option PyData := if min a.depth b.depth ≤ 64 then some (.bool (PyData.eqv a b)) else none
def neD (a b : PyData) : Option PyData := if min a.depth b.depth ≤ 64 then some (.bool (!PyData.eqv a b)) else none
def cmpI (p : Int → Int → Bool) : PyData → PyData → Option PyData
  | .int i, .int j => some (.bool (p i j))
  | _, _ => none
def itemsOf : PyData → Option (List PyData)
  | .list xs => some xs
  | .tuple xs => some xs
  | _ => none
/-- a one-sign text within a text; an item within a list or tuple -/
def inD (neg : Bool) (a : PyData) : PyData → Option PyData
  | .list xs => if min (PyData.depthAll xs) a.depth ≤ 64 then some (.bool (neg ^^ xs.any fun y => PyData.eqv y a)) else none
  | .tuple xs => if min (PyData.depthAll xs) a.depth ≤ 64 then some (.bool (neg ^^ xs.any fun y => PyData.eqv y a)) else none
  | .str y => match a with
    | .str x => some (.bool (neg ^^ !(Builtin.Str.occurrences y x 0 y.length 1).isEmpty))
    | _ => none
  | _ => none
def isNoneV (neg : Bool) : Vl → Sto → Out Vl
  | .d .none, M => .ok (.d (.bool (!neg))) M
  | _, M => .ok (.d (.bool neg)) M
/-- a datum's truth -/
def truD : PyData → Option Bool
  | .str x => if x.length ≤ sizeLine then some (PyData.truthy (.str x)) else none
  | x => some x.truthy
def truV (M : Sto) (x : Vl) : Out Bool := match peek M x with
  | some a => (match truD a with
    | some b => .ok b M
    | none => .bad)
  | none => match x with
    | .ref n => (match M[n]? with
      | some (.dct kvs) => .ok (!kvs.isEmpty) M
      | _ => .bad)
    | _ => .bad
section
variable {X : Cx} {W0 : WX}
theorem op_eqV (hu : X.A.units + 64 < cLine) : OpR X (compareOp .Eq) (aO X.K W0 (lift2 eqD)) := by
  intro pins s σ H x y v u Q I rx ry h
  obtain ⟨W, M, σ', v1, v2, R, r1, r2, P⟩ := h
  obtain ⟨a, b, c, pa, pb, e, q⟩ := lift2_post R r1 r2 P
  unfold eqD at e
  split at e
  · rename_i hd
    cases e
    obtain ⟨⟨as, ra⟩, ha⟩ := inv_dp I (pa.dp R) rx
    obtain ⟨⟨bs, rb⟩, hb⟩ := inv_dp I (pb.dp R) ry
    exact SeqAt.eq_plain ra rb ha hb (by omega) ⟨.bl _, H, I, rfl, q _ _ W (Wd.le.refl W) R (.bl _)⟩
  · cases e
theorem op_neV (hu : X.A.units + 64 < cLine) : OpR X (compareOp .NotEq) (aO X.K W0 (lift2 neD)) := by
  intro pins s σ H x y v u Q I rx ry h
  obtain ⟨W, M, σ', v1, v2, R, r1, r2, P⟩ := h
  obtain ⟨a, b, c, pa, pb, e, q⟩ := lift2_post R r1 r2 P
  unfold neD at e
  split at e
  · rename_i hd
    cases e
    obtain ⟨⟨as, ra⟩, ha⟩ := inv_dp I (pa.dp R) rx
    obtain ⟨⟨bs, rb⟩, hb⟩ := inv_dp I (pb.dp R) ry
    exact SeqAt.ne_plain ra rb ha hb (by omega) ⟨.bl _, H, I, rfl, q _ _ W (Wd.le.refl W) R (.bl _)⟩
  · cases e
theorem op_cmpI {op : CmpOp} {p : Int → Int → Bool} (ho : OpR X (compareOp op) (rI0 fun i j => .bl (p i j))) : OpR X (compareOp op) (aO X.K W0 (lift2 (cmpI p))) := by
  intro pins s σ H x y v u Q I rx ry h
  obtain ⟨W, M, σ', v1, v2, R, r1, r2, P⟩ := h
  obtain ⟨a, b, c, pa, pb, e, q⟩ := lift2_post R r1 r2 P
  cases a with
  | int i =>
    cases b with
    | int j =>
      obtain rfl := pa.int
      obtain rfl := pb.int
      cases e
      exact ho pins s σ H _ _ v u Q I rx ry ⟨i, j, rfl, rfl, q _ _ W (Wd.le.refl W) R (.bl _)⟩
    | _ => cases e
  | _ => cases e
theorem op_inV (hu : X.A.units + 65 < cLine) : OpR X (compareOp .In) (aO X.K W0 (lift2 (inD false))) := by
  intro pins s σ H x y v u Q I rx ry h
  obtain ⟨W, M, σ', v1, v2, R, r1, r2, P⟩ := h
  obtain ⟨a, b, c, pa, pb, e, q⟩ := lift2_post R r1 r2 P
  obtain ⟨⟨as, ra⟩, ha⟩ := inv_dp I (pa.dp R) rx
  obtain ⟨⟨bs, rb⟩, hb⟩ := inv_dp I (pb.dp R) ry
  cases b with
  | list xs =>
    simp only [inD] at e
    split at e
    · rename_i hd
      cases e
      exact SeqAt.in_list_data rb ra (by simpa [PyData.plain] using hb) ha (by omega) ⟨.bl _, H, I, rfl, by simpa using q _ _ W (Wd.le.refl W) R (.bl _)⟩
    · cases e
  | tuple xs =>
    simp only [inD] at e
    split at e
    · rename_i hd
      cases e
      exact SeqAt.in_tuple_data rb ra (by simpa [PyData.plain] using hb) ha (by omega) ⟨.bl _, H, I, rfl, by simpa using q _ _ W (Wd.le.refl W) R (.bl _)⟩
    · cases e
  | str z =>
    cases a with
    | str w =>
      cases e
      obtain rfl := pa.str
      obtain rfl := pb.str
      exact op_in_str pins s σ H _ _ v u Q I rx ry ⟨w, z, rfl, rfl, by simpa using q _ _ W (Wd.le.refl W) R (.bl _)⟩
    | _ => cases e
  | _ => cases e
theorem op_notInV (hu : X.A.units + 65 < cLine) : OpR X (compareOp .NotIn) (aO X.K W0 (lift2 (inD true))) := by
  intro pins s σ H x y v u Q I rx ry h
  obtain ⟨W, M, σ', v1, v2, R, r1, r2, P⟩ := h
  obtain ⟨a, b, c, pa, pb, e, q⟩ := lift2_post R r1 r2 P
  obtain ⟨⟨as, ra⟩, ha⟩ := inv_dp I (pa.dp R) rx
  obtain ⟨⟨bs, rb⟩, hb⟩ := inv_dp I (pb.dp R) ry
  cases b with
  | list xs =>
    simp only [inD] at e
    split at e
    · rename_i hd
      cases e
      exact SeqAt.notIn_list_data rb ra (by simpa [PyData.plain] using hb) ha (by omega) ⟨.bl _, H, I, rfl, by simpa using q _ _ W (Wd.le.refl W) R (.bl _)⟩
    · cases e
  | tuple xs =>
    simp only [inD] at e
    split at e
    · rename_i hd
      cases e
      exact SeqAt.notIn_tuple_data rb ra (by simpa [PyData.plain] using hb) ha (by omega) ⟨.bl _, H, I, rfl, by simpa using q _ _ W (Wd.le.refl W) R (.bl _)⟩
    · cases e
  | str z =>
    cases a with
    | str w =>
      cases e
      obtain rfl := pa.str
      obtain rfl := pb.str
      exact op_notin_str pins s σ H _ _ v u Q I rx ry ⟨w, z, rfl, rfl, by simpa using q _ _ W (Wd.le.refl W) R (.bl _)⟩
    | _ => cases e
  | _ => cases e
theorem vlr_non {K : PySem.W.Frag} {W : Wd} {x : V} {v : Vl} (r : VlR K W x v) : decide (x = V.non) = (match v with | .d .none => true | _ => false) := by
  cases v with
  | d y => cases r <;> rfl
  | ref n => obtain ⟨a, rfl, _⟩ := r; rfl
theorem isNone_post {K : PySem.W.Frag} {W : Wd} {M : Sto} {σ : L2.St} {H : Hp} {x : V} {v : Vl} {neg : Bool} {Q : VK} (R : RelM K W H M) (r : VlR K W x v) (P : Post (VlR K) K W0 W σ (isNoneV neg v M) Q) : Q (.bl (neg ^^ decide (x = V.non))) H := by
  rw [vlr_non r]
  cases v with
  | d y =>
    cases y with
    | none => simpa using P _ _ W (Wd.le.refl W) R (.bl (!neg))
    | _ => simpa using P _ _ W (Wd.le.refl W) R (.bl neg)
  | ref n => simpa using P _ _ W (Wd.le.refl W) R (.bl neg)
theorem op_isNoneV : OpR X (compareOp .Is) (fun x y H Q => y = .non ∧ aU X.K W0 (isNoneV false) x H Q) := by
  intro pins s σ H x y v u Q I rx ry h
  obtain ⟨rfl, W, M, σ', v1, R, r1, P⟩ := h
  refine op_isN pins s σ H _ _ v u Q I rx ry ⟨rfl, ?_⟩
  simpa using isNone_post R r1 P
theorem op_notNoneV : OpR X (compareOp .IsNot) (fun x y H Q => y = .non ∧ aU X.K W0 (isNoneV true) x H Q) := by
  intro pins s σ H x y v u Q I rx ry h
  obtain ⟨rfl, W, M, σ', v1, R, r1, P⟩ := h
  refine op_notN pins s σ H _ _ v u Q I rx ry ⟨rfl, ?_⟩
  simpa using isNone_post R r1 P
/-- truth -/
theorem dq_tru {K : PySem.W.Frag} {H : Hp} {x : V} {d : PyData} {b : Bool} (h : Dq K H x d) (e : truD d = some b) : TruV K x H b := by
  cases h with
  | non => cases e; rfl
  | bl b => cases e; rfl
  | int i => cases e; rfl
  | str z =>
    simp only [truD] at e
    split at e
    · rename_i hz
      cases e
      exact ⟨hz, rfl⟩
    · cases e
  | lst hs hd =>
    cases e
    refine .inl ⟨_, hs, ?_⟩
    simp only [PyData.truthy]
    cases hd <;> rfl
  | tup hs hd =>
    cases e
    refine .inr (.inl ⟨_, hs, ?_⟩)
    simp only [PyData.truthy]
    cases hd <;> rfl
theorem truV_ok {K : PySem.W.Frag} {W : Wd} {M M' : Sto} {H : Hp} {x : V} {v : Vl} {b : Bool} (R : RelM K W H M) (r : VlR K W x v) (P : truV M v = .ok b M') : M' = M ∧ TruV K x H b := by
  unfold truV at P
  cases e1 : peek M v with
  | some a =>
    simp only [e1] at P
    cases e2 : truD a with
    | none => simp only [e2] at P; cases P
    | some c =>
      simp only [e2] at P
      cases P
      exact ⟨rfl, dq_tru (peek_dp R r e1) e2⟩
  | none =>
    cases v with
    | d y => cases e1
    | ref n =>
      simp only [e1] at P
      obtain ⟨a, rfl, hm⟩ := r
      cases e2 : M[n]? with
      | none => simp only [e2] at P; cases P
      | some c =>
        obtain ⟨a', hm', hc⟩ := R.cellAt e2
        rw [hm] at hm'
        cases hm'
        cases c with
        | dct kvs =>
          simp only [e2] at P
          cases P
          obtain ⟨z, vs, hv, hp⟩ := hc
          refine ⟨rfl, .inr (.inr ⟨vs, hv, ?_⟩)⟩
          cases hp <;> rfl
        | lst xs => simp only [e2] at P; cases P
        | frz x => simp only [e2] at P; cases P
theorem truV_nx {x : Vl} {e : Exn} {M M' : Sto} (h : truV M x = .exc e M') : False := by
  unfold truV at h
  split at h
  · split at h <;> cases h
  · split at h
    · split at h <;> cases h
    · cases h
end
end Ev

namespace Ev
open PySem PySem.Spec PyProof.Rows L2

/-! ### expressions: names, constants, operators -/
abbrev Ev0 (α : Type) := Rho → Sto → Out α
def gVar (i : Nat) : Ev0 Vl := fun ρ M => match ρ[i]? with
  | some (some v) => .ok v M
  | _ => .bad
def gCon (d : PyData) : Ev0 Vl := fun _ M => .ok (.d d) M
def gBin (op : Vl → Vl → Sto → Out Vl) (g h : Ev0 Vl) : Ev0 Vl := fun ρ M => (g ρ M).bind fun x M1 => (h ρ M1).bind fun y M2 => op x y M2
def gUn (op : Vl → Sto → Out Vl) (g : Ev0 Vl) : Ev0 Vl := fun ρ M => (g ρ M).bind fun x M1 => op x M1
/-- a value's truth -/
def gTru (g : Ev0 Vl) : Ev0 Bool := fun ρ M => (g ρ M).bind fun x M1 => truV M1 x
def asBool : Vl → Sto → Out Bool
  | .d (.bool b), M => .ok b M
  | _, _ => .bad
def gB (g : Ev0 Vl) : Ev0 Bool := fun ρ M => (g ρ M).bind fun x M1 => asBool x M1
def gIf {α : Type} (c : Ev0 Bool) (g h : Ev0 α) : Ev0 α := fun ρ M => (c ρ M).bind fun b M1 => if b then g ρ M1 else h ρ M1
def gAndT (c d : Ev0 Bool) : Ev0 Bool := fun ρ M => (c ρ M).bind fun b M1 => if b then d ρ M1 else .ok false M1
def gOrT (c d : Ev0 Bool) : Ev0 Bool := fun ρ M => (c ρ M).bind fun b M1 => if b then .ok true M1 else d ρ M1
def gNotT (c : Ev0 Bool) : Ev0 Bool := fun ρ M => (c ρ M).bind fun b M1 => .ok (!b) M1
/-- x and y, x or y as values -/
def gAnd (g h : Ev0 Vl) : Ev0 Vl := fun ρ M => (g ρ M).bind fun x M1 => (truV M1 x).bind fun b M2 => if b then h ρ M2 else .ok x M2
def gOr (g h : Ev0 Vl) : Ev0 Vl := fun ρ M => (g ρ M).bind fun x M1 => (truV M1 x).bind fun b M2 => if b then .ok x M2 else h ρ M2
def gNot (g : Ev0 Vl) : Ev0 Vl := fun ρ M => (g ρ M).bind fun x M1 => (truV M1 x).bind fun b M2 => .ok (.d (.bool (!b))) M2
/-- a op b op' c -/
def gChain (op op' : Vl → Vl → Sto → Out Vl) (a b c : Ev0 Vl) : Ev0 Vl := fun ρ M => (a ρ M).bind fun x M1 => (b ρ M1).bind fun y M2 => (op x y M2).bind fun z M3 => (asBool z M3).bind fun k M4 =>
  if k then (c ρ M4).bind fun w M5 => op' y w M5 else .ok (.d (.bool false)) M4
def gNil : Ev0 (List Vl) := fun _ M => .ok [] M
def gCons (g : Ev0 Vl) (h : Ev0 (List Vl)) : Ev0 (List Vl) := fun ρ M => (g ρ M).bind fun x M1 => (h ρ M1).bind fun xs M2 => .ok (x :: xs) M2
section
variable {K : PySem.W.Frag} {W0 : WX} {W : Wd} {H : Hp} {M : Sto} {σ : L2.St}
/-- the truth of a value at hand, then what follows -/
theorem tru_bind {γ δ : Type} {R2 : Wd → δ → γ → Prop} {v : V} {x : Vl} {k : Bool → Sto → Out γ} {Q2 : δ → Hp → Prop} (R : RelM K W H M) (r : VlR K W v x) (P : Post R2 K W0 W σ ((truV M x).bind k) Q2) : ∃ b, TruV K v H b ∧ Post R2 K W0 W σ (k b M) Q2 := by
  cases e : truV M x with
  | ok b M' =>
    obtain ⟨h, t⟩ := truV_ok R r e
    subst h
    rw [e] at P
    exact ⟨b, t, P⟩
  | exc e' M' => exact (truV_nx e).elim
  | bad => rw [e] at P; exact P.elim
theorem asB_bind {γ δ : Type} {R2 : Wd → δ → γ → Prop} {v : V} {x : Vl} {k : Bool → Sto → Out γ} {Q2 : δ → Hp → Prop} (r : VlR K W v x) (P : Post R2 K W0 W σ ((asBool x M).bind k) Q2) : ∃ b, v = .bl b ∧ Post R2 K W0 W σ (k b M) Q2 := by
  cases x with
  | d y =>
    cases y with
    | bool b =>
      cases r
      exact ⟨b, rfl, P⟩
    | _ => exact P.elim
  | ref n => exact P.elim
end
section
variable {X : Cx} {W0 : WX} {a b c : Expr} {ga gb gc : Ev0 Vl} {ca cb : Ev0 Bool} {pos : Pos}
theorem se_var {i : Nat} {x : Str} (hN : X.N[i]? = some x) (hv : Vis X.env.scope x) (hd : (x == ("__debug__" : Str)) = false) (hcd : (x == ("__classdict__" : Str)) = false) : SE X W0 (.Name x pos) (gVar i) := by
  refine PE.mono (pe_var hN hv hd hcd) fun σ H Q h => ?_
  obtain ⟨ρ, M, W, R, S, P⟩ := h
  unfold gVar at P
  cases e : ρ[i]? with
  | none => simp only [e] at P; exact P.elim
  | some o =>
    cases o with
    | none => simp only [e] at P; exact P.elim
    | some v =>
      simp only [e] at P
      obtain ⟨u, h1, h2⟩ := S.2 i v e
      exact ⟨u, h1, P u H W (Wd.le.refl W) R h2⟩
theorem se_tC {e : Expr} {v : V} {d : PyData} (h : PE X e (tC v)) (r : ∀ Z, Dq X.K Z v d) : SE X W0 e (gCon d) := by
  refine PE.mono h fun σ H Q h => ?_
  obtain ⟨ρ, M, W, R, S, P⟩ := h
  exact P v H W (Wd.le.refl W) R (r _)
theorem se_int {i : Int} {j : Nat} : SE X W0 (.Constant (.int i) j pos) (gCon (.int i)) := se_tC pe_int fun _ => .int i
theorem se_bl {i : Bool} {j : Nat} : SE X W0 (.Constant (.bool i) j pos) (gCon (.bool i)) := se_tC pe_bl fun _ => .bl i
theorem se_non {j : Nat} : SE X W0 (.Constant .none j pos) (gCon .none) := se_tC pe_non fun _ => .non
theorem se_str {i : Str} {j : Nat} : SE X W0 (.Constant (.str i) j pos) (gCon (.str i)) := se_tC pe_str fun _ => .str i
theorem se_op {op : Operator} {f : Vl → Vl → Sto → Out Vl} (ho : OpR X (binaryOp op) (aO X.K W0 f)) (ha : SE X W0 a ga) (hb : SE X W0 b gb) : SE X W0 (.BinOp a op b pos) (gBin f ga gb) := by
  refine PE.mono (pe_op ho ha hb) fun σ H Q h => ?_
  obtain ⟨ρ, M, W, R, S, P⟩ := h
  refine ⟨ρ, M, W, R, S, post_bind P fun v H1 W1 M1 x e l1 R1 r1 P1 => ?_⟩
  refine ⟨ρ, M1, W1, R1, S.mono l1, post_bind P1 fun u H2 W2 M2 y e2 l2 R2 r2 P2 => ?_⟩
  exact ⟨W2, M2, σ, x, y, R2, r1.mono l2, r2, P2⟩
theorem se_un {op : UnaryOp} {f : Vl → Sto → Out Vl} (ho : UnR X (unaryOp op) (aU X.K W0 f)) (ha : SE X W0 a ga) : SE X W0 (.UnaryOp op a pos) (gUn f ga) := by
  refine PE.mono (pe_un ho ha) fun σ H Q h => ?_
  obtain ⟨ρ, M, W, R, S, P⟩ := h
  refine ⟨ρ, M, W, R, S, post_bind P fun v H1 W1 M1 x e l1 R1 r1 P1 => ?_⟩
  exact ⟨W1, M1, σ, x, R1, r1, P1⟩
def negD : PyData → Option PyData
  | .int i => some (.int (-i))
  | _ => none
theorem un_negV : UnR X (unaryOp .USub) (aU X.K W0 (lift1 negD)) := by
  intro pins s σ H x v Q I rx h
  obtain ⟨W, M, σ', v1, R, r1, P⟩ := h
  obtain ⟨d, c, pa, e, q⟩ := lift1_post R r1 P
  cases d with
  | int i =>
    cases e
    obtain rfl := pa.int
    exact un_neg pins s σ H _ v Q I rx ⟨i, rfl, q _ _ W (Wd.le.refl W) R (.int _)⟩
  | _ => cases e
theorem behind_of {op : CmpOp} (hb : ∀ es k p, b ≠ .Set es k p) : behindInMarks op b = false := by
  cases b <;> first | rfl | exact absurd rfl (hb _ _ _)
theorem se_cmp {op : CmpOp} {f : Vl → Vl → Sto → Out Vl} (ho : OpR X (compareOp op) (aO X.K W0 f)) (ha : SE X W0 a ga) (hb : SE X W0 b gb) (hs : ∀ es k p, b ≠ .Set es k p) : SE X W0 (.Compare a [op] [b] pos) (gBin f ga gb) := by
  refine PE.mono (pe_cmpR ho ha hb (behind_of hs)) fun σ H Q h => ?_
  obtain ⟨ρ, M, W, R, S, P⟩ := h
  refine ⟨ρ, M, W, R, S, post_bind P fun v H1 W1 M1 x e l1 R1 r1 P1 => ?_⟩
  refine ⟨ρ, M1, W1, R1, S.mono l1, post_bind P1 fun u H2 W2 M2 y e2 l2 R2 r2 P2 => ?_⟩
  exact ⟨W2, M2, σ, x, y, R2, r1.mono l2, r2, P2⟩
theorem st_cmp {op : CmpOp} {f : Vl → Vl → Sto → Out Vl} (ho : OpR X (compareOp op) (aO X.K W0 f)) (ha : SE X W0 a ga) (hb : SE X W0 b gb) (hs : ∀ es k p, b ≠ .Set es k p) : ST X W0 (.Compare a [op] [b] pos) (gB (gBin f ga gb)) := by
  refine PT.mono (pt_cmpR ho ha hb (behind_of hs)) fun σ H Q h => ?_
  obtain ⟨ρ, M, W, R, S, P⟩ := h
  have P : Post BoR X.K W0 W σ ((gBin f ga gb ρ M).bind fun z M3 => asBool z M3) Q := P
  have P2 : Post (VlR X.K) X.K W0 W σ (gBin f ga gb ρ M) (fun z H' => ∃ k, z = .bl k ∧ Q k H') := by
    refine post_bind P fun v H1 W1 M1 x e l1 R1 r1 P1 => ?_
    cases x with
    | d y =>
      cases y with
      | bool k =>
        cases r1
        exact ⟨k, rfl, P1 k H1 W1 (Wd.le.refl _) R1 rfl⟩
      | _ => exact P1.elim
    | ref n => exact P1.elim
  refine ⟨ρ, M, W, R, S, post_bind P2 fun v H1 W1 M1 x e l1 R1 r1 P1 => ?_⟩
  refine ⟨ρ, M1, W1, R1, S.mono l1, post_bind P1 fun u H2 W2 M2 y e2 l2 R2 r2 P2 => ?_⟩
  exact ⟨W2, M2, σ, x, y, R2, r1.mono l2, r2, P2⟩
theorem se_isN {j : Nat} {p : Pos} (ha : SE X W0 a ga) : SE X W0 (.Compare a [.Is] [.Constant .none j p] pos) (gUn (isNoneV false) ga) := by
  refine PE.mono (pe_cmpR (op_isNoneV (W0 := W0)) ha pe_non (behind_of fun _ _ _ e => by cases e)) fun σ H Q h => ?_
  obtain ⟨ρ, M, W, R, S, P⟩ := h
  refine ⟨ρ, M, W, R, S, post_bind P fun v H1 W1 M1 x e l1 R1 r1 P1 => ?_⟩
  exact ⟨rfl, W1, M1, σ, x, R1, r1, P1⟩
theorem se_notN {j : Nat} {p : Pos} (ha : SE X W0 a ga) : SE X W0 (.Compare a [.IsNot] [.Constant .none j p] pos) (gUn (isNoneV true) ga) := by
  refine PE.mono (pe_cmpR (op_notNoneV (W0 := W0)) ha pe_non (behind_of fun _ _ _ e => by cases e)) fun σ H Q h => ?_
  obtain ⟨ρ, M, W, R, S, P⟩ := h
  refine ⟨ρ, M, W, R, S, post_bind P fun v H1 W1 M1 x e l1 R1 r1 P1 => ?_⟩
  exact ⟨rfl, W1, M1, σ, x, R1, r1, P1⟩
/-- a comparison's value as a test, whatever its rule -/
theorem st_of_cmp {op : CmpOp} {r : R2} {ta tb : TE} {g : Ev0 Vl} (ho : OpR X (compareOp op) r) (ha : PE X a ta) (hb : PE X b tb) (hm : behindInMarks op b = false) (hg : ∀ σ H Q, aE X.K W0 g σ H Q → tOp r ta tb σ H Q) : ST X W0 (.Compare a [op] [b] pos) (gB g) := by
  refine PT.mono (pt_cmpR ho ha hb hm) fun σ H Q h => ?_
  obtain ⟨ρ, M, W, R, S, P⟩ := h
  refine hg σ H _ ⟨ρ, M, W, R, S, post_bind P fun v H1 W1 M1 x e l1 R1 r1 P1 => ?_⟩
  cases x with
  | d y =>
    cases y with
    | bool k =>
      cases r1
      exact ⟨k, rfl, P1 k H1 W1 (Wd.le.refl _) R1 rfl⟩
    | _ => exact P1.elim
  | ref n => exact P1.elim
theorem st_isN {j : Nat} {p : Pos} (ha : SE X W0 a ga) : ST X W0 (.Compare a [.Is] [.Constant .none j p] pos) (gB (gUn (isNoneV false) ga)) := by
  refine st_of_cmp (op_isNoneV (W0 := W0)) ha pe_non (behind_of fun _ _ _ e => by cases e) fun σ H Q h => ?_
  obtain ⟨ρ, M, W, R, S, P⟩ := h
  refine ⟨ρ, M, W, R, S, post_bind P fun v H1 W1 M1 x e l1 R1 r1 P1 => ?_⟩
  exact ⟨rfl, W1, M1, σ, x, R1, r1, P1⟩
theorem st_notN {j : Nat} {p : Pos} (ha : SE X W0 a ga) : ST X W0 (.Compare a [.IsNot] [.Constant .none j p] pos) (gB (gUn (isNoneV true) ga)) := by
  refine st_of_cmp (op_notNoneV (W0 := W0)) ha pe_non (behind_of fun _ _ _ e => by cases e) fun σ H Q h => ?_
  obtain ⟨ρ, M, W, R, S, P⟩ := h
  refine ⟨ρ, M, W, R, S, post_bind P fun v H1 W1 M1 x e l1 R1 r1 P1 => ?_⟩
  exact ⟨rfl, W1, M1, σ, x, R1, r1, P1⟩
theorem chain_post {op op' : Vl → Vl → Sto → Out Vl} {r r' : R2} {ρ : Rho} {M : Sto} {W : Wd} {σ : L2.St} {H : Hp} {Q : VK} (hr : r = aO X.K W0 op) (hr' : r' = aO X.K W0 op') (R : RelM X.K W H M) (S : SltR X.K W σ ρ) (P : Post (VlR X.K) X.K W0 W σ (gChain op op' ga gb gc ρ M) Q) :
    tChain r r' (aE X.K W0 ga) (aE X.K W0 gb) (aE X.K W0 gc) σ H Q := by
  subst hr hr'
  refine ⟨ρ, M, W, R, S, post_bind P fun v H1 W1 M1 x e l1 R1 r1 P1 => ?_⟩
  refine ⟨ρ, M1, W1, R1, S.mono l1, post_bind P1 fun u H2 W2 M2 y e2 l2 R2 r2 P2 => ?_⟩
  refine ⟨W2, M2, σ, x, y, R2, r1.mono l2, r2, post_bind P2 fun z H3 W3 M3 k e3 l3 R3 r3 P3 => ?_⟩
  obtain ⟨t, rfl, P4⟩ := asB_bind r3 P3
  refine ⟨t, rfl, ?_⟩
  cases t with
  | false => exact P4 _ H3 W3 (Wd.le.refl _) R3 (.bl false)
  | true =>
    refine ⟨ρ, M3, W3, R3, S.mono (l1.trans (l2.trans l3)), post_bind P4 fun w H4 W4 M4 q e4 l4 R4 r4 P5 => ?_⟩
    exact ⟨W4, M4, σ, y, q, R4, (r2.mono l3).mono l4, r4, P5⟩
theorem last_of {op op' : CmpOp} (hs : ∀ es k p, c ≠ .Set es k p) : lastMarks [op, op'] [b, c] = false := by
  show lastMarks [op'] [c] = false
  exact behind_of hs
theorem se_chain {op op' : CmpOp} {f f' : Vl → Vl → Sto → Out Vl} (ho : OpR X (compareOp op) (aO X.K W0 f)) (ho' : OpR X (compareOp op') (aO X.K W0 f')) (ha : SE X W0 a ga) (hb : SE X W0 b gb) (hc : SE X W0 c gc) (hs : ∀ es k p, c ≠ .Set es k p) :
    SE X W0 (.Compare a [op, op'] [b, c] pos) (gChain f f' ga gb gc) := by
  refine PE.mono (pe_chain ho ho' ha hb hc (last_of hs)) fun σ H Q h => ?_
  obtain ⟨ρ, M, W, R, S, P⟩ := h
  exact chain_post rfl rfl R S P
theorem st_chain {op op' : CmpOp} {f f' : Vl → Vl → Sto → Out Vl} (ho : OpR X (compareOp op) (aO X.K W0 f)) (ho' : OpR X (compareOp op') (aO X.K W0 f')) (ha : SE X W0 a ga) (hb : SE X W0 b gb) (hc : SE X W0 c gc) (hs : ∀ es k p, c ≠ .Set es k p) :
    ST X W0 (.Compare a [op, op'] [b, c] pos) (gB (gChain f f' ga gb gc)) := by
  refine PT.mono (pt_chain ho ho' ha hb hc (last_of hs)) fun σ H Q h => ?_
  obtain ⟨ρ, M, W, R, S, P⟩ := h
  refine chain_post rfl rfl R S (post_bind P fun v H1 W1 M1 x e l1 R1 r1 P1 => ?_)
  cases x with
  | d y =>
    cases y with
    | bool k =>
      cases r1
      exact ⟨k, rfl, P1 k H1 W1 (Wd.le.refl _) R1 rfl⟩
    | _ => exact P1.elim
  | ref n => exact P1.elim

/-! #### tests -/
/-- an expression whose test is the truth of its value -/
def testsPlain : Expr → Bool
  | .UnaryOp .Not _ _ => false
  | .BoolOp _ _ _ => false
  | .IfExp _ _ _ _ => false
  | .Compare _ _ _ _ => false
  | _ => true
theorem testsPlain_ok {X : Cx} (h : testsPlain a = true) (whole : Sem Value) : isTrue a X.env whole = (do let v ← whole; standAt a.pos; holding [v] (truthy v)) := by
  cases a with
  | UnaryOp op e p => cases op <;> first | rfl | cases h
  | BoolOp _ _ _ => cases h
  | IfExp _ _ _ _ => cases h
  | Compare _ _ _ _ => cases h
  | _ => rfl
theorem st_truth (ha : SE X W0 a ga) (h : testsPlain a = true) : ST X W0 a (gTru ga) := by
  refine PT.mono (pt_truth ha (testsPlain_ok h)) fun σ H Q h => ?_
  obtain ⟨ρ, M, W, R, S, P⟩ := h
  refine ⟨ρ, M, W, R, S, post_bind P fun v H1 W1 M1 x e l1 R1 r1 P1 => ?_⟩
  cases e2 : truV M1 x with
  | ok b M' =>
    obtain ⟨h, t⟩ := truV_ok R1 r1 e2
    subst h
    rw [e2] at P1
    exact ⟨b, t, P1 b H1 W1 (Wd.le.refl _) R1 rfl⟩
  | exc e' M' => exact (truV_nx e2).elim
  | bad => rw [e2] at P1; exact P1.elim
theorem st_not (ha : ST X W0 a ca) : ST X W0 (.UnaryOp .Not a pos) (gNotT ca) := by
  refine PT.mono (pt_not ha) fun σ H Q h => ?_
  obtain ⟨ρ, M, W, R, S, P⟩ := h
  refine ⟨ρ, M, W, R, S, post_bind P fun v H1 W1 M1 x e l1 R1 r1 P1 => ?_⟩
  have r1 : v = x := r1
  subst r1
  exact P1 _ H1 W1 (Wd.le.refl _) R1 rfl
/-- and, or: whatever the whole is -/
abbrev SW (X : Cx) (W0 : WX) (e : Expr) (g : Ev0 Bool) : Prop := PW X e (aT X.K W0 g)
theorem sw_and1 (ha : ST X W0 a ca) : SW X W0 (.BoolOp .And [a] pos) ca := pw_and1 ha
theorem sw_or1 (ha : ST X W0 a ca) : SW X W0 (.BoolOp .Or [a] pos) ca := pw_or1 ha
theorem sw_and {rest : List Expr} (ha : ST X W0 a ca) (hb : SW X W0 (.BoolOp .And (b :: rest) pos) cb) : SW X W0 (.BoolOp .And (a :: b :: rest) pos) (gAndT ca cb) := by
  refine PW.mono (pw_and ha hb) fun σ H Q h => ?_
  obtain ⟨ρ, M, W, R, S, P⟩ := h
  refine ⟨ρ, M, W, R, S, post_bind P fun v H1 W1 M1 x e l1 R1 r1 P1 => ?_⟩
  have r1 : v = x := r1
  subst r1
  cases v with
  | true => exact ⟨ρ, M1, W1, R1, S.mono l1, P1⟩
  | false => exact P1 false H1 W1 (Wd.le.refl _) R1 rfl
theorem sw_or {rest : List Expr} (ha : ST X W0 a ca) (hb : SW X W0 (.BoolOp .Or (b :: rest) pos) cb) : SW X W0 (.BoolOp .Or (a :: b :: rest) pos) (gOrT ca cb) := by
  refine PW.mono (pw_or ha hb) fun σ H Q h => ?_
  obtain ⟨ρ, M, W, R, S, P⟩ := h
  refine ⟨ρ, M, W, R, S, post_bind P fun v H1 W1 M1 x e l1 R1 r1 P1 => ?_⟩
  have r1 : v = x := r1
  subst r1
  cases v with
  | false => exact ⟨ρ, M1, W1, R1, S.mono l1, P1⟩
  | true => exact P1 true H1 W1 (Wd.le.refl _) R1 rfl
theorem st_if (hc : ST X W0 c ca) (ha : ST X W0 a cb) {cc : Ev0 Bool} (hb : ST X W0 b cc) : ST X W0 (.IfExp c a b pos) (gIf ca cb cc) := by
  refine ⟨fun pins s σ H Q I h => ?_⟩
  obtain ⟨ρ, M, W, R, S, P⟩ := h
  show wpAny _ _ (do if ← isTrue c X.env (eval c X.env) then isTrue a X.env (eval a X.env) else isTrue b X.env (eval b X.env)) _ _ _
  refine wpAny_bind (thn (hc.run pins s σ H (fun k H1 => if k = true then aT X.K W0 cb σ H1 Q else aT X.K W0 cc σ H1 Q) I ⟨ρ, M, W, R, S, post_bind P fun v H1 W1 M1 x e l1 R1 r1 P1 => ?_⟩) fun d s1 ⟨H1, I1, q1⟩ => ?_)
  · have r1 : v = x := r1
    subst r1
    cases v with
    | true => exact ⟨ρ, M1, W1, R1, S.mono l1, P1⟩
    | false => exact ⟨ρ, M1, W1, R1, S.mono l1, P1⟩
  · cases d with
    | true => exact ha.run pins s1 σ H1 Q I1 q1
    | false => exact hb.run pins s1 σ H1 Q I1 q1
/-! #### and, or, not, if as values -/
theorem se_one {op : BoolOp} (ha : SE X W0 a ga) : SE X W0 (.BoolOp op [a] pos) ga := pe_one ha
theorem se_and {rest : List Expr} (ha : SE X W0 a ga) (hb : SE X W0 (.BoolOp .And (b :: rest) pos) gb) : SE X W0 (.BoolOp .And (a :: b :: rest) pos) (gAnd ga gb) := by
  refine PE.mono (pe_andT ha hb) fun σ H Q h => ?_
  obtain ⟨ρ, M, W, R, S, P⟩ := h
  refine ⟨ρ, M, W, R, S, post_bind P fun v H1 W1 M1 x e l1 R1 r1 P1 => ?_⟩
  obtain ⟨k, t, P2⟩ := tru_bind R1 r1 P1
  refine ⟨k, t, ?_⟩
  cases k with
  | true => exact ⟨ρ, M1, W1, R1, S.mono l1, P2⟩
  | false => exact P2 v H1 W1 (Wd.le.refl _) R1 r1
theorem se_or {rest : List Expr} (ha : SE X W0 a ga) (hb : SE X W0 (.BoolOp .Or (b :: rest) pos) gb) : SE X W0 (.BoolOp .Or (a :: b :: rest) pos) (gOr ga gb) := by
  refine PE.mono (pe_orT ha hb) fun σ H Q h => ?_
  obtain ⟨ρ, M, W, R, S, P⟩ := h
  refine ⟨ρ, M, W, R, S, post_bind P fun v H1 W1 M1 x e l1 R1 r1 P1 => ?_⟩
  obtain ⟨k, t, P2⟩ := tru_bind R1 r1 P1
  refine ⟨k, t, ?_⟩
  cases k with
  | false => exact ⟨ρ, M1, W1, R1, S.mono l1, P2⟩
  | true => exact P2 v H1 W1 (Wd.le.refl _) R1 r1
theorem se_not (ha : SE X W0 a ga) : SE X W0 (.UnaryOp .Not a pos) (gNot ga) := by
  refine PE.mono (pe_notT ha) fun σ H Q h => ?_
  obtain ⟨ρ, M, W, R, S, P⟩ := h
  refine ⟨ρ, M, W, R, S, post_bind P fun v H1 W1 M1 x e l1 R1 r1 P1 => ?_⟩
  obtain ⟨k, t, P2⟩ := tru_bind R1 r1 P1
  exact ⟨k, t, P2 _ H1 W1 (Wd.le.refl _) R1 (.bl _)⟩
theorem se_if (hc : ST X W0 c ca) (ha : SE X W0 a ga) (hb : SE X W0 b gb) : SE X W0 (.IfExp c a b pos) (gIf ca ga gb) := by
  refine PE.mono (pe_ifExp hc ha hb) fun σ H Q h => ?_
  obtain ⟨ρ, M, W, R, S, P⟩ := h
  refine ⟨ρ, M, W, R, S, post_bind P fun v H1 W1 M1 x e l1 R1 r1 P1 => ?_⟩
  have r1 : v = x := r1
  subst r1
  cases v with
  | true => exact ⟨ρ, M1, W1, R1, S.mono l1, P1⟩
  | false => exact ⟨ρ, M1, W1, R1, S.mono l1, P1⟩
end
end Ev

namespace Ev
open PySem PySem.Spec PyProof.Rows L2

/-! ### dict cells -/
def getP (kvs : List (Key × PyData)) (k : Key) : Option PyData := (kvs.find? fun kv => decide (kv.1 = k)).map (·.2)
def putP (kvs : List (Key × PyData)) (k : Key) (v : PyData) : List (Key × PyData) :=
  if (kvs.any fun kv => decide (kv.1 = k)) = true then kvs.map (fun kv => if kv.1 = k then (kv.1, v) else kv) else kvs ++ [(k, v)]
def mergeP (kvs more : List (Key × PyData)) : List (Key × PyData) := more.foldl (fun acc kv => putP acc kv.1 kv.2) kvs
abbrev KvR (K : PySem.W.Frag) (Z : Hp) : List (Key × V) → List (Key × PyData) → Prop := Paired (fun (p : Key × V) (q : Key × PyData) => p.1 = q.1 ∧ Dq K Z p.2 q.2)
section
variable {K : PySem.W.Frag} {Z : Hp}
theorem kv_any (k : Key) : ∀ {vs : List (Key × V)} {kvs : List (Key × PyData)}, KvR K Z vs kvs → (vs.any fun kv => decide (kv.1 = k)) = (kvs.any fun kv => decide (kv.1 = k))
  | _, _, .nil => rfl
  | _, _, .cons h t => by rw [List.any_cons, List.any_cons, kv_any k t, h.1]
theorem kv_get (k : Key) : ∀ {vs : List (Key × V)} {kvs : List (Key × PyData)}, KvR K Z vs kvs → (∀ d, getP kvs k = some d → ∃ v, valV vs k = some v ∧ Dq K Z v d) ∧ (getP kvs k = none → valV vs k = none)
  | _, _, .nil => ⟨fun d e => absurd (show (none : Option PyData) = some d from e) (by simp), fun _ => rfl⟩
  | _, _, .cons (a := p) (b := q) (l₁ := vs) (l₂ := kvs) h t => by
    obtain ⟨i1, i2⟩ := kv_get k t
    unfold getP valV at *
    simp only [List.find?_cons]
    rw [h.1]
    by_cases hk : q.1 = k
    · simp only [hk, decide_true]
      exact ⟨fun d e => ⟨p.2, rfl, by cases e; exact h.2⟩, fun e => by cases e⟩
    · simp only [hk, decide_false]
      exact ⟨i1, i2⟩
theorem kv_map (k : Key) {v : V} {d : PyData} (r : Dq K Z v d) : ∀ {vs : List (Key × V)} {kvs : List (Key × PyData)}, KvR K Z vs kvs → KvR K Z (vs.map (fun kv => if kv.1 = k then (kv.1, v) else kv)) (kvs.map (fun kv => if kv.1 = k then (kv.1, d) else kv))
  | _, _, .nil => .nil
  | _, _, .cons (a := p) (b := q) h t => by
    rw [List.map_cons, List.map_cons]
    refine .cons ?_ (kv_map k r t)
    rw [h.1]
    by_cases hk : q.1 = k
    · rw [if_pos hk, if_pos hk]
      exact ⟨rfl, r⟩
    · rw [if_neg hk, if_neg hk]
      exact h
theorem kv_app : ∀ {vs ws : List (Key × V)} {kvs lvs : List (Key × PyData)}, KvR K Z vs kvs → KvR K Z ws lvs → KvR K Z (vs ++ ws) (kvs ++ lvs)
  | _, _, _, _, .nil, s => s
  | _, _, _, _, .cons h t, s => .cons h (kv_app t s)
theorem kv_put (k : Key) {v : V} {d : PyData} (r : Dq K Z v d) {vs : List (Key × V)} {kvs : List (Key × PyData)} (h : KvR K Z vs kvs) : KvR K Z (putK vs k v) (putP kvs k d) := by
  unfold putK putP
  rw [kv_any k h]
  by_cases hk : (kvs.any fun kv => decide (kv.1 = k)) = true
  · rw [if_pos hk, if_pos hk]
    exact kv_map k r h
  · rw [if_neg hk, if_neg hk]
    exact kv_app h (.cons ⟨rfl, r⟩ .nil)
theorem kv_merge : ∀ {ms : List (Key × V)} {more : List (Key × PyData)} {vs : List (Key × V)} {kvs : List (Key × PyData)}, KvR K Z ms more → KvR K Z vs kvs → KvR K Z (mergeK vs ms) (mergeP kvs more)
  | _, _, _, _, .nil, h => h
  | _, _, _, _, .cons (a := p) (b := q) h t, s => by
    have e := kv_put p.1 h.2 s
    have e2 := kv_merge t e
    rw [h.1] at e2
    rw [← h.1] at e2
    have e2 := e2
    unfold mergeK mergeP at e2 ⊢
    rw [List.foldl_cons, List.foldl_cons, ← h.1]
    exact e2
theorem kv_len : ∀ {vs : List (Key × V)} {kvs : List (Key × PyData)}, KvR K Z vs kvs → vs.length = kvs.length
  | _, _, .nil => rfl
  | _, _, .cons _ t => by rw [List.length_cons, List.length_cons, kv_len t]
theorem kv_zip : ∀ (ks : List Str) {vs : List V} {ds : List PyData}, DqAll K Z vs ds → KvR K Z ((ks.map Sum.inr).zip vs) ((ks.map Sum.inr).zip ds)
  | [], _, _, _ => .nil
  | _ :: _, _, _, .nil => .nil
  | k :: ks, _, _, .cons h t => .cons ⟨rfl, h⟩ (kv_zip ks t)
end

/-! ### displays -/
def gTup (g : Ev0 (List Vl)) : Ev0 Vl := fun ρ M => (g ρ M).bind fun xs M1 => match toDs M1 xs with
  | some (ds, M2) => if ds.length ≤ sizeLine then .ok (.d (.tuple ds)) M2 else .bad
  | none => .bad
def gLst (g : Ev0 (List Vl)) : Ev0 Vl := fun ρ M => (g ρ M).bind fun xs M1 => match toDs M1 xs with
  | some (ds, M2) => if ds.length ≤ sizeLine then .ok (.d (.list ds)) M2 else .bad
  | none => .bad
/-- a list that may change -/
def gLstM (g : Ev0 (List Vl)) : Ev0 Vl := fun ρ M => (g ρ M).bind fun xs M1 => match toDs M1 xs with
  | some (ds, M2) => if ds.length ≤ sizeLine then .ok (.ref M2.length) (M2 ++ [.lst ds]) else .bad
  | none => .bad
def gDisp (ks : List Str) (g : Ev0 (List Vl)) : Ev0 Vl := fun ρ M => (g ρ (M ++ [.dct []])).bind fun xs M1 => match toDs M1 xs with
  | some (ds, M2) => (match M2[M.length]? with
    | some (.dct []) => if ks.length ≤ 15 then .ok (.ref M.length) (M2.set M.length (.dct (mergeP [] ((ks.map Sum.inr).zip ds)))) else .bad
    | _ => .bad)
  | none => .bad
/-- {} -/
def gDisp0 : Ev0 Vl := fun _ M => .ok (.ref M.length) (M ++ [.dct []])
section
variable {X : Cx} {W0 : WX} {a b c : Expr} {ga gb gc : Ev0 Vl} {ca cb : Ev0 Bool} {pos : Pos} {es : List Expr} {g : Ev0 (List Vl)}
theorem keep_bind {γ δ : Type} {K : PySem.W.Frag} {W : Wd} {H : Hp} {M : Sto} {σ : L2.St} {R2 : Wd → δ → γ → Prop} {vs : List V} {xs : List Vl} {k : List PyData → Sto → Out γ} {Q2 : δ → Hp → Prop} (R : RelM K W H M) (r : VlsR K W vs xs)
    (P : Post R2 K W0 W σ (match toDs M xs with | some (ds, M2) => k ds M2 | none => .bad) Q2) : ∃ ds M2 W2, toDs M xs = some (ds, M2) ∧ W.le W2 ∧ RelM K W2 H M2 ∧ DqAll K W2.Z vs ds ∧ Post R2 K W0 W2 σ (k ds M2) Q2 := by
  cases e : toDs M xs with
  | none => rw [e] at P; exact P.elim
  | some q =>
    obtain ⟨ds, M2⟩ := q
    rw [e] at P
    obtain ⟨W2, l2, R2, r2⟩ := toDs_dp R r e
    exact ⟨ds, M2, W2, rfl, l2, R2, r2, Post.mono l2 P⟩
theorem if_post {γ δ : Type} {K : PySem.W.Frag} {W : Wd} {σ : L2.St} {R2 : Wd → δ → γ → Prop} {p : Prop} [Decidable p] {o : Out γ} {Q2 : δ → Hp → Prop} (P : Post R2 K W0 W σ (if p then o else .bad) Q2) : p ∧ Post R2 K W0 W σ o Q2 := by
  by_cases h : p
  · rw [if_pos h] at P
    exact ⟨h, P⟩
  · rw [if_neg h] at P
    exact P.elim
theorem se_tup {x1} (h : SA X W0 es g) : SE X W0 (.Tuple es x1 pos) (gTup g) := by
  refine PE.mono (pe_tup h) fun σ H Q hq => ?_
  obtain ⟨ρ, M, W, R, S, P⟩ := hq
  refine ⟨ρ, M, W, R, S, post_bind P fun vs H1 W1 M1 xs e l1 R1 r1 P1 => ?_⟩
  obtain ⟨ds, M2, W2, e2, l2, R2, r2, P2⟩ := keep_bind R1 r1 P1
  obtain ⟨hz, P3⟩ := if_post P2
  refine ⟨by rw [r2.length]; exact hz, fun p hp => ?_⟩
  obtain ⟨R3, l3, d⟩ := R2.mkT hp r2
  exact P3 _ _ _ l3 R3 d
theorem se_lst (h : SA X W0 es g) : SE X W0 (.List es pos) (gLst g) := by
  refine PE.mono (pe_lst h) fun σ H Q hq => ?_
  obtain ⟨ρ, M, W, R, S, P⟩ := hq
  refine ⟨ρ, M, W, R, S, post_bind P fun vs H1 W1 M1 xs e l1 R1 r1 P1 => ?_⟩
  obtain ⟨ds, M2, W2, e2, l2, R2, r2, P2⟩ := keep_bind R1 r1 P1
  obtain ⟨hz, P3⟩ := if_post P2
  refine ⟨by rw [r2.length]; exact hz, fun p hp => ?_⟩
  obtain ⟨R3, l3, d⟩ := R2.mkL hp r2
  exact P3 _ _ _ l3 R3 d
theorem new_lst {K : PySem.W.Frag} {W : Wd} {H : Hp} {M : Sto} (R : RelM K W H M) {p : Addr} (hp : H p = none) {vs : List V} {ds : List PyData} (d : DqAll K W.Z vs ds) : ∃ W', W.le W' ∧ RelM K W' (upd H p (.lst vs)) (M ++ [.lst ds]) ∧ VlR K W' (.ref p) (.ref M.length) := by
  obtain ⟨R3, l3, e3⟩ := R.newM hp (o := .lst vs) (c := .lst ds) ⟨R.Znone hp, vs, upd_same, d⟩
  exact ⟨_, l3, R3, p, rfl, e3⟩
theorem se_lstM (h : SA X W0 es g) : SE X W0 (.List es pos) (gLstM g) := by
  refine PE.mono (pe_lst h) fun σ H Q hq => ?_
  obtain ⟨ρ, M, W, R, S, P⟩ := hq
  refine ⟨ρ, M, W, R, S, post_bind P fun vs H1 W1 M1 xs e l1 R1 r1 P1 => ?_⟩
  obtain ⟨ds, M2, W2, e2, l2, R2, r2, P2⟩ := keep_bind R1 r1 P1
  obtain ⟨hz, P3⟩ := if_post P2
  refine ⟨by rw [r2.length]; exact hz, fun p hp => ?_⟩
  obtain ⟨W3, l3, R3, d⟩ := new_lst R2 hp r2
  exact P3 _ _ _ l3 R3 d

/-! #### arguments -/
def notStar : Expr → Bool
  | .Starred _ _ => false
  | _ => true
theorem star_one {e : Expr} (h : notStar e = true) (es : List Expr) (env : Env) : starEach (e :: es) env = (false, eval e env) :: starEach es env := by
  cases e <;> first | rfl | cases h
theorem star_none (pos : Pos) (env : Env) : ∀ (es : List Expr), es.all notStar = true → (backTo pos (starEach es env)).any (·.1) = false
  | [], _ => rfl
  | e :: es, h => by
    rw [List.all_cons, Bool.and_eq_true] at h
    rw [star_one h.1]
    have := star_none pos env es h.2
    unfold backTo at this ⊢
    rw [List.map_cons, List.any_cons, this]
    rfl
theorem sa_nil : SA X W0 [] gNil := by
  refine PA.mono pa_nil fun σ H Q h => ?_
  obtain ⟨ρ, M, W, R, S, P⟩ := h
  exact P [] H W (Wd.le.refl W) R .nil
theorem sa_cons (ha : SE X W0 a ga) (hr : SA X W0 es g) (hs : notStar a = true) : SA X W0 (a :: es) (gCons ga g) := by
  refine PA.mono (pa_cons ha hr (star_one hs _ _)) fun σ H Q h => ?_
  obtain ⟨ρ, M, W, R, S, P⟩ := h
  refine ⟨ρ, M, W, R, S, post_bind P fun v H1 W1 M1 x e l1 R1 r1 P1 => ?_⟩
  refine ⟨ρ, M1, W1, R1, S.mono l1, post_bind P1 fun vs H2 W2 M2 xs e2 l2 R2 r2 P2 => ?_⟩
  exact P2 _ _ W2 (Wd.le.refl _) R2 (.cons (r1.mono l2) r2)

/-! #### {k: v, ..}, the keys texts -/
def SP (X : Cx) (W0 : WX) (pos : Pos) (keys : List (Option Expr)) (values : List Expr) (ks : List Str) (g : Ev0 (List Vl)) : Prop :=
  ∃ trs, PPs X pos keys values trs ∧ ∀ σ H (Q : List V → Hp → Prop) (Q' : List (V × V) → Hp → Prop), (∀ vs H', vs.length = ks.length → Q vs H' → Q' ((ks.map fun k => V.str k).zip vs) H') → aA X.K W0 g σ H Q → tPairs trs σ H Q'
theorem sp_nil : SP X W0 pos [] [] [] gNil := by
  refine ⟨[], pps_nil, fun σ H Q Q' hq h => ?_⟩
  obtain ⟨ρ, M, W, R, S, P⟩ := h
  exact hq [] H rfl (P [] H W (Wd.le.refl W) R .nil)
theorem sp_cons {k : Str} {kn} {v : Expr} {ke : Expr} {ks : List (Option Expr)} {vs : List Expr} {gv : Ev0 Vl} (hk : PE X ke (tC (.str k))) (hv : SE X W0 v gv) (hr : SP X W0 pos ks vs kn g) : SP X W0 pos (some ke :: ks) (v :: vs) (k :: kn) (gCons gv g) := by
  obtain ⟨trs, h1, h2⟩ := hr
  refine ⟨_, pps_cons hk hv h1, fun σ H Q Q' hq h => ?_⟩
  obtain ⟨ρ, M, W, R, S, P⟩ := h
  refine ⟨ρ, M, W, R, S, post_bind P fun v H1 W1 M1 x e l1 R1 r1 P1 => ?_⟩
  refine h2 σ H1 (fun us H' => Q (v :: us) H') _ (fun us H' hl q => hq (v :: us) H' (by rw [List.length_cons, List.length_cons, hl]) q) ⟨ρ, M1, W1, R1, S.mono l1, post_bind P1 fun us H2 W2 M2 xs e2 l2 R2 r2 P2 => ?_⟩
  exact P2 _ _ W2 (Wd.le.refl _) R2 (.cons (r1.mono l2) r2)
theorem zip_keys : ∀ (ks : List Str) (vs : List V), ((ks.map Sum.inr).zip vs).map (fun kv : Key × V => (kV kv.1, kv.2)) = (ks.map fun k => V.str k).zip vs
  | [], _ => rfl
  | _ :: _, [] => rfl
  | k :: ks, v :: vs => by
    rw [List.map_cons, List.zip_cons_cons, List.map_cons, zip_keys ks vs]
    rfl
theorem cell_dct {K : PySem.W.Frag} {W : Wd} {H : Hp} {M : Sto} (R : RelM K W H M) {n : Nat} {a : Addr} {kvs : List (Key × PyData)} (h : W.μ[n]? = some a) (e : M[n]? = some (.dct kvs)) : W.Z a = none ∧ ∃ vs, H a = some (.dK vs) ∧ KvR K W.Z vs kvs := R.cell n a _ h e
theorem cell_lst {K : PySem.W.Frag} {W : Wd} {H : Hp} {M : Sto} (R : RelM K W H M) {n : Nat} {a : Addr} {xs : List PyData} (h : W.μ[n]? = some a) (e : M[n]? = some (.lst xs)) : W.Z a = none ∧ ∃ vs, H a = some (.lst vs) ∧ DqAll K W.Z vs xs := R.cell n a _ h e
theorem set_dct {K : PySem.W.Frag} {W : Wd} {H : Hp} {M : Sto} (R : RelM K W H M) {n : Nat} {a : Addr} {kvs : List (Key × PyData)} {vs : List (Key × V)} (h : W.μ[n]? = some a) (z : W.Z a = none) (d : KvR K W.Z vs kvs) : RelM K W (upd H a (.dK vs)) (M.set n (.dct kvs)) :=
  R.setM h z ⟨z, vs, upd_same, d⟩
theorem set_lst {K : PySem.W.Frag} {W : Wd} {H : Hp} {M : Sto} (R : RelM K W H M) {n : Nat} {a : Addr} {xs : List PyData} {vs : List V} (h : W.μ[n]? = some a) (z : W.Z a = none) (d : DqAll K W.Z vs xs) : RelM K W (upd H a (.lst vs)) (M.set n (.lst xs)) :=
  R.setM h z ⟨z, vs, upd_same, d⟩
theorem new_dct {K : PySem.W.Frag} {W : Wd} {H : Hp} {M : Sto} (R : RelM K W H M) {p : Addr} (hp : H p = none) : ∃ W', W.le W' ∧ RelM K W' (upd H p (.dK [])) (M ++ [.dct []]) ∧ W'.μ[M.length]? = some p := by
  obtain ⟨R3, l3, e3⟩ := R.newM hp (o := .dK []) (c := .dct []) ⟨R.Znone hp, [], upd_same, .nil⟩
  exact ⟨_, l3, R3, e3⟩
theorem se_disp {keys : List (Option Expr)} {values : List Expr} {ks : List Str} (h : SP X W0 pos keys values ks g) (hall : keys.all (·.isSome) = true) (hl : keys.length = values.length) (h0 : keys ≠ []) (h15 : keys.length ≤ 15) : SE X W0 (.Dict keys values pos) (gDisp ks g) := by
  obtain ⟨trs, h1, h2⟩ := h
  refine PE.mono (pe_disp h1 hall hl h0 h15) fun σ H Q hq p hp => ?_
  obtain ⟨ρ, M, W, R, S, P⟩ := hq
  obtain ⟨W', l', R', e'⟩ := new_dct R hp
  refine h2 σ _ (fun vs H2 => vs.length = ks.length → H2 p = some (.dK []) ∧ ks.length ≤ 15 ∧ Q (.ref p) (upd H2 p (.dK (mergeK [] ((ks.map Sum.inr).zip vs))))) _ (fun vs H2 hlen q => ?_) ⟨ρ, M ++ [.dct []], W', R', S.mono l', post_bind (Post.mono l' P) fun vs H1 W1 M1 xs e l1 R1 r1 P1 hlen => ?_⟩
  · obtain ⟨q1, q2, q3⟩ := q hlen
    exact ⟨q1, (ks.map Sum.inr).zip vs, (zip_keys ks vs).symm, by rw [List.length_zip, List.length_map, hlen, Nat.min_self]; exact q2, q3⟩
  · obtain ⟨ds, M2, W2, e2, l2, R2, r2, P2⟩ := keep_bind R1 r1 P1
    have e4 : W2.μ[M.length]? = some p := l2.at (l1.at e')
    cases e3 : M2[M.length]? with
    | none => simp only [e3] at P2; exact P2.elim
    | some cl =>
      simp only [e3] at P2
      cases cl with
      | lst _ => exact P2.elim
      | frz _ => exact P2.elim
      | dct kvs =>
        cases kvs with
        | cons _ _ => exact P2.elim
        | nil =>
          obtain ⟨hz, P3⟩ := if_post P2
          obtain ⟨z, us, hu, du⟩ := cell_dct R2 e4 e3
          cases du
          refine ⟨hu, hz, ?_⟩
          exact P3 _ _ W2 (Wd.le.refl _) (set_dct R2 e4 z (kv_merge (kv_zip ks r2) .nil)) ⟨p, rfl, e4⟩

/-! ### subscripts -/
def keyD : PyData → Option Key
  | .str k => some (.inr k)
  | .int i => some (.inl i)
  | _ => none
def ixD : PyData → PyData → Option PyData
  | .list xs, .int i => atI xs i
  | .tuple xs, .int i => atI xs i
  | .str z, .int i => if z.length ≤ sizeLine then (atI z.cps.toList i).map (fun c => .str ⟨#[c]⟩) else none
  | _, _ => none
def dctAt (M : Sto) : Vl → Option (List (Key × PyData))
  | .ref n => match M[n]? with
    | some (.dct kvs) => some kvs
    | _ => none
  | _ => none
def ixV (x y : Vl) (M : Sto) : Out Vl := match dctAt M x with
  | some kvs => (match peek M y with
    | some k => (match keyD k with
      | some k => give M (getP kvs k)
      | none => .bad)
    | none => .bad)
  | none => lift2 ixD x y M
theorem dctAt_ok {K : PySem.W.Frag} {W : Wd} {H : Hp} {M : Sto} (R : RelM K W H M) {v : V} {x : Vl} {kvs : List (Key × PyData)} (r : VlR K W v x) (e : dctAt M x = some kvs) : ∃ n a vs, x = .ref n ∧ v = .ref a ∧ W.μ[n]? = some a ∧ W.Z a = none ∧ H a = some (.dK vs) ∧ KvR K W.Z vs kvs := by
  cases x with
  | d y => cases e
  | ref n =>
    obtain ⟨a, rfl, hm⟩ := r
    simp only [dctAt] at e
    cases e2 : M[n]? with
    | none => rw [e2] at e; cases e
    | some cl =>
      rw [e2] at e
      cases cl with
      | dct l =>
        cases e
        obtain ⟨z, vs, h1, h2⟩ := cell_dct R hm e2
        exact ⟨n, a, vs, rfl, rfl, hm, z, h1, h2⟩
      | _ => cases e
theorem keyD_ok {K : PySem.W.Frag} {W : Wd} {H : Hp} {v : V} {k : PyData} {q : Key} (h : PkR K W H v k) (e : keyD k = some q) : v = kV q := by
  cases k with
  | str z => cases e; obtain rfl := h.str; rfl
  | int z => cases e; obtain rfl := h.int; rfl
  | _ => cases e
theorem atI_all {K : PySem.W.Frag} {H : Hp} {vs : List V} {ds : List PyData} {i : Int} {d : PyData} (h : DqAll K H vs ds) (e : atI ds i = some d) : ∃ v, atI vs i = some v ∧ Dq K H v d := by
  unfold atI at *
  rw [h.length]
  cases e1 : ixN ds.length i with
  | none => rw [e1] at e; cases e
  | some j =>
    rw [e1] at e
    exact h.get e
theorem ix_dct (hu : X.A.units + 1 < cLine) : IxR X (fun x y H Q => ∃ a v, x = .ref a ∧ DGet H a y (some v) ∧ Q v H) := by
  intro value slice pins s σ H x y v u Q I rx ry h hs
  obtain ⟨a, w, rfl, g, q⟩ := h
  obtain rfl : v = Value.ref a := rx
  exact tail_any (dict_typeIs I g) PySem.F.slot_dict_getitem.lookup (d_getItem hu I g ry fun w' s3 I3 rw' => ⟨w, H, I3, rw', q⟩) hs
theorem ix_V (hu : X.A.units + 1 < cLine) : IxR X (aO X.K W0 ixV) := by
  intro value slice pins s σ H x y v u Q I rx ry h hs
  obtain ⟨W, M, σ', v1, v2, R, r1, r2, P⟩ := h
  unfold ixV at P
  cases e : dctAt M v1 with
  | some kvs =>
    simp only [e] at P
    obtain ⟨n, a, vs, rfl, rfl, hm, z, h1, h2⟩ := dctAt_ok R r1 e
    cases e2 : peek M v2 with
    | none => rw [e2] at P; exact P.elim
    | some k =>
      rw [e2] at P
      cases e3 : keyD k with
      | none => simp only [e3] at P; exact P.elim
      | some q =>
        simp only [e3] at P
        obtain rfl := keyD_ok (peek_pk R r2 e2) e3
        cases e4 : getP kvs q with
        | none => rw [e4] at P; exact P.elim
        | some d =>
          rw [e4] at P
          obtain ⟨w, hw, dw⟩ := (kv_get q h2).1 d e4
          have g := DGet.k (k := q) h1
          rw [hw] at g
          exact ix_dct hu value slice pins s σ H _ _ v u Q I rx ry ⟨a, w, rfl, g, P w H W (Wd.le.refl _) R dw⟩ hs
  | none =>
    simp only [e] at P
    obtain ⟨a, b, c, pa, pb, e, q⟩ := lift2_post R r1 r2 P
    cases b with
    | int i =>
      obtain rfl := pb.int
      cases a with
      | list xs =>
        obtain ⟨p, vs, rfl, hp, hd⟩ := pa.list R
        obtain ⟨w, hw, dw⟩ := atI_all hd e
        exact ix_list value slice pins s σ H _ _ v u Q I rx ry ⟨p, vs, i, w, rfl, rfl, hp, hw, q w H W (Wd.le.refl _) R dw⟩ hs
      | tuple xs =>
        obtain ⟨p, vs, rfl, _, hp, hd⟩ := pa.tuple R
        obtain ⟨w, hw, dw⟩ := atI_all hd e
        exact ix_tup value slice pins s σ H _ _ v u Q I rx ry ⟨p, vs, i, w, rfl, rfl, hp, hw, q w H W (Wd.le.refl _) R dw⟩ hs
      | str z =>
        obtain rfl := pa.str
        simp only [ixD] at e
        split at e
        · rename_i hz
          cases e1 : atI z.cps.toList i with
          | none => rw [e1] at e; cases e
          | some ch =>
            rw [e1] at e
            cases e
            exact ix_str value slice pins s σ H _ _ v u Q I rx ry ⟨z, i, ch, rfl, rfl, hz, e1, q _ H W (Wd.le.refl _) R (.str _)⟩ hs
        · cases e
      | _ => cases e
    | _ => cases a <;> cases e
def plainIx : Expr → Bool
  | .Slice _ _ _ _ => false
  | _ => true
theorem plainIx_ok {b : Expr} (h : plainIx b = true) : PlainIx b := by
  cases b <;> first | (intro o i; rfl) | cases h
theorem se_ix (hu : X.A.units + 1 < cLine) (ha : SE X W0 a ga) (hb : SE X W0 b gb) (hs : plainIx b = true) : SE X W0 (.Subscript a b pos) (gBin ixV ga gb) := by
  refine PE.mono (pe_ix (ix_V (W0 := W0) hu) ha hb (plainIx_ok hs)) fun σ H Q h => ?_
  obtain ⟨ρ, M, W, R, S, P⟩ := h
  refine ⟨ρ, M, W, R, S, post_bind P fun v H1 W1 M1 x e l1 R1 r1 P1 => ?_⟩
  refine ⟨ρ, M1, W1, R1, S.mono l1, post_bind P1 fun u H2 W2 M2 y e2 l2 R2 r2 P2 => ?_⟩
  exact ⟨W2, M2, σ, x, y, R2, r1.mono l2, r2, P2⟩

/-! #### slices -/
abbrev Ev0I := Rho → Sto → Out (Option Int)
def gNoPart : Ev0I := fun _ M => .ok none M
def asInt : Vl → Sto → Out (Option Int)
  | .d (.int i), M => .ok (some i) M
  | _, _ => .bad
def gPart (g : Ev0 Vl) : Ev0I := fun ρ M => (g ρ M).bind fun x M1 => asInt x M1
def cutD (xs : List PyData) (lo hi : Option Int) : List PyData := (xs.drop (HT.sIx xs.length 0 lo)).take (HT.sIx xs.length xs.length hi - HT.sIx xs.length 0 lo)
def slD (lo hi : Option Int) : PyData → Option PyData
  | .list xs => some (.list (cutD xs lo hi))
  | .tuple xs => some (.tuple (cutD xs lo hi))
  | _ => none
def gSl (g : Ev0 Vl) (l h : Ev0I) : Ev0 Vl := fun ρ M => (g ρ M).bind fun x M1 => (l ρ M1).bind fun i M2 => (h ρ M2).bind fun j M3 => lift1 (slD i j) x M3
abbrev IR : Wd → Option Int → Option Int → Prop := fun _ a b => a = b
def aI (K : PySem.W.Frag) (W0 : WX) (g : Ev0I) : TO := fun σ H Q => ∃ ρ M W, RelM K W H M ∧ SltR K W σ ρ ∧ Post IR K W0 W σ (g ρ M) Q
theorem PO.mono {e : Option Expr} {t t' : TO} (h : PO X e t) (m : ∀ σ H Q, t' σ H Q → t σ H Q) : PO X e t' := ⟨fun pins s σ H Q I q => h.run pins s σ H Q I (m _ _ _ q)⟩
abbrev SI (X : Cx) (W0 : WX) (e : Option Expr) (g : Ev0I) : Prop := PO X e (aI X.K W0 g)
theorem si_none : SI X W0 none gNoPart := by
  refine PO.mono po_none fun σ H Q h => ?_
  obtain ⟨ρ, M, W, R, S, P⟩ := h
  exact P _ _ W (Wd.le.refl _) R rfl
theorem si_some (ha : SE X W0 a ga) : SI X W0 (some a) (gPart ga) := by
  refine PO.mono (po_some ha) fun σ H Q h => ?_
  obtain ⟨ρ, M, W, R, S, P⟩ := h
  refine ⟨ρ, M, W, R, S, post_bind P fun v H1 W1 M1 x e l1 R1 r1 P1 => ?_⟩
  cases x with
  | d y =>
    cases y with
    | int i => cases r1; exact ⟨i, rfl, P1 _ _ W1 (Wd.le.refl _) R1 rfl⟩
    | _ => exact P1.elim
  | ref n => exact P1.elim
theorem cut_all {K : PySem.W.Frag} {H : Hp} {vs : List V} {ds : List PyData} (lo hi : Option Int) (h : DqAll K H vs ds) : DqAll K H (cutV vs lo hi) (cutD ds lo hi) := by
  unfold cutV cutD
  rw [h.length]
  exact (h.drop _).take _
theorem cut_whole {xs : List PyData} {lo hi : Option Int} (h : HT.sIx xs.length 0 lo = 0 ∧ HT.sIx xs.length xs.length hi = xs.length) : cutD xs lo hi = xs := by
  unfold cutD
  rw [h.1, h.2]
  simp
def aSl (K : PySem.W.Frag) (W0 : WX) : V → Option Int → Option Int → Hp → VK → Prop := fun x lo hi H Q => ∃ (W : Wd) (M : Sto) (σ : L2.St) (v1 : Vl), RelM K W H M ∧ VlR K W x v1 ∧ Post (VlR K) K W0 W σ (lift1 (slD lo hi) v1 M) Q
theorem sl_V : SlR X (aSl X.K W0) := by
  intro pins s σ H x v vl vu lo hi sl Q I rx hs pl pu h
  obtain ⟨W, M, σ', v1, R, r1, P⟩ := h
  obtain ⟨a, c, pa, e, q⟩ := lift1_post R r1 P
  cases a with
  | list xs =>
    cases e
    obtain ⟨p, vs, rfl, hp, hd⟩ := pa.list R
    refine sl_list pins s σ H _ v vl vu lo hi sl Q I rx hs pl pu ⟨p, vs, rfl, hp, fun p hp => ?_⟩
    obtain ⟨R3, l3, d⟩ := R.mkL hp (cut_all lo hi hd)
    exact q _ _ _ l3 R3 d
  | tuple xs =>
    cases e
    obtain ⟨p, vs, rfl, hp0, hp, hd⟩ := pa.tuple R
    refine sl_tupA pins s σ H _ v vl vu lo hi sl Q I rx hs pl pu ⟨p, vs, rfl, hp, fun hw => ?_, fun hw p hp => ?_⟩
    · rw [hd.length] at hw
      rw [cut_whole hw] at q
      exact q _ _ W (Wd.le.refl _) R (.tup hp0 hd)
    · obtain ⟨R3, l3, d⟩ := R.mkT hp (cut_all lo hi hd)
      exact q _ _ _ l3 R3 d
  | _ => cases e
theorem se_slice {lo hi : Option Expr} {gl gh : Ev0I} {p2 : Pos} (ha : SE X W0 a ga) (hl : SI X W0 lo gl) (hh : SI X W0 hi gh) : SE X W0 (.Subscript a (.Slice lo hi none p2) pos) (gSl ga gl gh) := by
  refine PE.mono (pe_slice (sl_V (W0 := W0)) ha hl hh) fun σ H Q h => ?_
  obtain ⟨ρ, M, W, R, S, P⟩ := h
  refine ⟨ρ, M, W, R, S, post_bind P fun v H1 W1 M1 x e l1 R1 r1 P1 => ?_⟩
  refine ⟨ρ, M1, W1, R1, S.mono l1, post_bind P1 fun u H2 W2 M2 y e2 l2 R2 r2 P2 => ?_⟩
  have r2 : u = y := r2
  subst r2
  refine ⟨ρ, M2, W2, R2, (S.mono l1).mono l2, post_bind P2 fun w H3 W3 M3 z e3 l3 R3 r3 P3 => ?_⟩
  have r3 : w = z := r3
  subst r3
  exact ⟨W3, M3, σ, x, R3, (r1.mono l2).mono l3, P3⟩
end
end Ev

namespace Ev
open PySem PySem.Spec PyProof.Rows L2

/-! ### calls of built-in functions -/
abbrev Op1 := List Vl → Sto → Out Vl
def gCall (op : Op1) (g : Ev0 (List Vl)) : Ev0 Vl := fun ρ M => (g ρ M).bind fun xs M1 => op xs M1
def liftC1 (f : PyData → Option PyData) : Op1 := fun xs M => match xs with
  | [x] => lift1 f x M
  | _ => .bad
section
variable {X : Cx} {W0 : WX} {a b c : Expr} {ga gb gc : Ev0 Vl} {ca cb : Ev0 Bool} {pos p : Pos} {es : List Expr} {g : Ev0 (List Vl)} {x : Str} {op : Op1}
theorem vlsR_one {K : PySem.W.Frag} {W : Wd} {xs : List V} {v : Vl} (h : VlsR K W xs [v]) : ∃ x, xs = [x] ∧ VlR K W x v := by
  cases h with
  | cons h t => cases t; exact ⟨_, rfl, h⟩
theorem vlsR_nil {K : PySem.W.Frag} {W : Wd} {xs : List V} (h : VlsR K W xs []) : xs = [] := by cases h; rfl
theorem vlsR_two {K : PySem.W.Frag} {W : Wd} {xs : List V} {v w : Vl} (h : VlsR K W xs [v, w]) : ∃ x y, xs = [x, y] ∧ VlR K W x v ∧ VlR K W y w := by
  cases h with
  | cons h t =>
    obtain ⟨y, rfl, h2⟩ := vlsR_one t
    exact ⟨_, _, rfl, h, h2⟩
theorem c1_post {K : PySem.W.Frag} {W : Wd} {H : Hp} {M : Sto} {σ : L2.St} {f : PyData → Option PyData} {xs : List V} {vs : List Vl} {Q : VK} (R : RelM K W H M) (r : VlsR K W xs vs) (P : Post (VlR K) K W0 W σ (liftC1 f vs M) Q) :
    ∃ x a c, xs = [x] ∧ PkR K W H x a ∧ f a = some c ∧ ∀ v H' W', W.le W' → RelM K W' H' M → Dq K W'.Z v c → Q v H' := by
  match vs, r, P with
  | [], _, P => exact P.elim
  | [v], r, P =>
    obtain ⟨x, rfl, rx⟩ := vlsR_one r
    obtain ⟨a, c, h1, h2, h3⟩ := lift1_post R rx P
    exact ⟨x, a, c, rfl, h1, h2, h3⟩
  | _ :: _ :: _, _, P => exact P.elim
theorem call_mono {t : TA} {r : List V → Hp → VK → Prop} (m : ∀ σ H Q, aA X.K W0 g σ H Q → t σ H Q) (hr : r = aC X.K W0 op) : ∀ σ H Q, aE X.K W0 (gCall op g) σ H Q → tCB r t σ H Q := by
  subst hr
  intro σ H Q h
  obtain ⟨ρ, M, W, R, S, P⟩ := h
  refine m σ H _ ⟨ρ, M, W, R, S, post_bind P fun vs H1 W1 M1 xs e l1 R1 r1 P1 => ?_⟩
  exact ⟨W1, M1, σ, xs, R1, r1, P1⟩
theorem se_callB {id : String} (hc : CallR X (.builtin id) (aC X.K W0 op)) (hg : Gl X x) (hm : X.mg x = none) (hv : bootBuiltins x = some (.builtin id)) (ha : SA X W0 (a :: es) g) (hs : (a :: es).all notStar = true) (hn : x ≠ "__name__") (hdb : (x == ("__debug__" : Str)) = false) : SE X W0 (.Call (.Name x p) (a :: es) [] pos) (gCall op g) := by
  have h2 : notStar a = true ∧ es.all notStar = true := by simpa [List.all_cons] using hs
  exact PE.mono (pe_callB hc hg hm hv ha hn hdb (star_one h2.1 _ _) (star_none _ _ _ h2.2)) (call_mono (fun _ _ _ h => h) rfl)
theorem se_callTy {T : String} (hc : CallR X (.type T) (aC X.K W0 op)) (hg : Gl X x) (hm : X.mg x = none) (hv : bootBuiltins x = some (.type T)) (ha : SA X W0 (a :: es) g) (hs : (a :: es).all notStar = true) (hn : x ≠ "__name__") (hdb : (x == ("__debug__" : Str)) = false) : SE X W0 (.Call (.Name x p) (a :: es) [] pos) (gCall op g) := by
  have h2 : notStar a = true ∧ es.all notStar = true := by simpa [List.all_cons] using hs
  exact PE.mono (pe_callTy hc hg hm hv ha hn hdb (star_one h2.1 _ _) (star_none _ _ _ h2.2)) (call_mono (fun _ _ _ h => h) rfl)

/-! #### len, abs, int, list, tuple -/
def lenD : PyData → Option PyData
  | .list xs => some (.int xs.length)
  | .tuple xs => some (.int xs.length)
  | .str z => if z.length ≤ sizeLine then some (.int z.length) else none
  | _ => none
def lenV : Op1 := fun xs M => match xs with
  | [x] => (match dctAt M x with
    | some kvs => .ok (.d (.int kvs.length)) M
    | none => lift1 lenD x M)
  | _ => .bad
def absD : PyData → Option PyData
  | .int i => some (.int (if i < 0 then -i else i))
  | _ => none
def intD : PyData → Option PyData
  | .int i => some (.int i)
  | .bool b => some (.int (if b then 1 else 0))
  | _ => none
def listD : PyData → Option PyData
  | .list xs => some (.list xs)
  | .tuple xs => some (.list xs)
  | _ => none
def tupleD : PyData → Option PyData
  | .list xs => some (.tuple xs)
  | .tuple xs => some (.tuple xs)
  | _ => none
/-- list(x), to change -/
def listM : Op1 := fun xs M => match xs with
  | [x] => (match peek M x with
    | some d => (match itemsOf d with
      | some ys => .ok (.ref M.length) (M ++ [.lst ys])
      | none => .bad)
    | none => .bad)
  | _ => .bad
theorem call_lenV : CallR X (.builtin "len") (aC X.K W0 lenV) := by
  intro pins s σ H xs us Q I r h
  obtain ⟨W, M, σ', vs, R, rv, P⟩ := h
  match vs, rv, P with
  | [], _, P => exact P.elim
  | _ :: _ :: _, _, P => exact P.elim
  | [v], rv, P =>
    obtain ⟨x, rfl, rx⟩ := vlsR_one rv
    unfold lenV at P
    cases e : dctAt M v with
    | some kvs =>
      simp only [e] at P
      obtain ⟨n, a, vs, rfl, rfl, hm, z, h1, h2⟩ := dctAt_ok R rx e
      exact call_lenD pins s σ H _ us Q I r ⟨a, vs, rfl, h1, by rw [kv_len h2]; exact P _ _ W (Wd.le.refl _) R (.int _)⟩
    | none =>
      simp only [e] at P
      obtain ⟨a, c, pa, e, q⟩ := lift1_post R rx P
      cases a with
      | list xs =>
        cases e
        obtain ⟨p, vs, rfl, hp, hd⟩ := pa.list R
        exact call_len pins s σ H _ us Q I r ⟨_, xs.length, rfl, .inl ⟨vs, hp, hd.length.symm⟩, q _ _ W (Wd.le.refl _) R (.int _)⟩
      | tuple xs =>
        cases e
        obtain ⟨p, vs, rfl, _, hp, hd⟩ := pa.tuple R
        exact call_len pins s σ H _ us Q I r ⟨_, xs.length, rfl, .inr ⟨vs, hp, hd.length.symm⟩, q _ _ W (Wd.le.refl _) R (.int _)⟩
      | str z =>
        obtain rfl := pa.str
        simp only [lenD] at e
        split at e
        · rename_i hz
          cases e
          exact call_len pins s σ H _ us Q I r ⟨_, z.length, rfl, ⟨hz, rfl⟩, q _ _ W (Wd.le.refl _) R (.int _)⟩
        · cases e
      | _ => cases e
theorem call_absV : CallR X (.builtin "abs") (aC X.K W0 (liftC1 absD)) := by
  intro pins s σ H xs us Q I r h
  obtain ⟨W, M, σ', vs, R, rv, P⟩ := h
  obtain ⟨x, a, c, rfl, pa, e, q⟩ := c1_post R rv P
  cases a with
  | int i =>
    cases e
    obtain rfl := pa.int
    exact call_abs pins s σ H _ us Q I r ⟨i, rfl, q _ _ W (Wd.le.refl _) R (.int _)⟩
  | _ => cases e
theorem call_intV : CallR X (.type "int") (aC X.K W0 (liftC1 intD)) := by
  intro pins s σ H xs us Q I r h
  obtain ⟨W, M, σ', vs, R, rv, P⟩ := h
  obtain ⟨x, a, c, rfl, pa, e, q⟩ := c1_post R rv P
  cases a with
  | int i =>
    cases e
    obtain rfl := pa.int
    exact call_int1 pins s σ H _ us Q I r (.inl ⟨i, rfl, q _ _ W (Wd.le.refl _) R (.int _)⟩)
  | bool k =>
    cases e
    obtain rfl := pa.bool
    exact call_int1 pins s σ H _ us Q I r (.inr ⟨k, rfl, q _ _ W (Wd.le.refl _) R (.int _)⟩)
  | _ => cases e
theorem call_listV : CallR X (.type "list") (aC X.K W0 (liftC1 listD)) := by
  intro pins s σ H xs us Q I r h
  obtain ⟨W, M, σ', vs, R, rv, P⟩ := h
  obtain ⟨x, a, c, rfl, pa, e, q⟩ := c1_post R rv P
  cases a with
  | list xs =>
    cases e
    obtain ⟨p, vs, rfl, hp, hd⟩ := pa.list R
    refine call_list_of pins s σ H _ us Q I r ⟨p, vs, rfl, .inl hp, fun l hl => ?_⟩
    obtain ⟨R3, l3, d⟩ := R.mkL hl hd
    exact q _ _ _ l3 R3 d
  | tuple xs =>
    cases e
    obtain ⟨p, vs, rfl, _, hp, hd⟩ := pa.tuple R
    refine call_list_of pins s σ H _ us Q I r ⟨p, vs, rfl, .inr hp, fun l hl => ?_⟩
    obtain ⟨R3, l3, d⟩ := R.mkL hl hd
    exact q _ _ _ l3 R3 d
  | _ => cases e
theorem call_listMV : CallR X (.type "list") (aC X.K W0 listM) := by
  intro pins s σ H xs us Q I r h
  obtain ⟨W, M, σ', vs, R, rv, P⟩ := h
  match vs, rv, P with
  | [], _, P => exact P.elim
  | _ :: _ :: _, _, P => exact P.elim
  | [v], rv, P =>
    obtain ⟨x, rfl, rx⟩ := vlsR_one rv
    unfold listM at P
    cases e1 : peek M v with
    | none => simp only [e1] at P; exact P.elim
    | some d =>
      simp only [e1] at P
      have pa := peek_pk R rx e1
      cases d with
      | list xs =>
        obtain ⟨p, vs, rfl, hp, hd⟩ := pa.list R
        refine call_list_of pins s σ H _ us Q I r ⟨p, vs, rfl, .inl hp, fun l hl => ?_⟩
        obtain ⟨W3, l3, R3, d⟩ := new_lst R hl hd
        exact P _ _ _ l3 R3 d
      | tuple xs =>
        obtain ⟨p, vs, rfl, _, hp, hd⟩ := pa.tuple R
        refine call_list_of pins s σ H _ us Q I r ⟨p, vs, rfl, .inr hp, fun l hl => ?_⟩
        obtain ⟨W3, l3, R3, d⟩ := new_lst R hl hd
        exact P _ _ _ l3 R3 d
      | _ => exact P.elim
theorem call_tupleV : CallR X (.type "tuple") (aC X.K W0 (liftC1 tupleD)) := by
  intro pins s σ H xs us Q I r h
  obtain ⟨W, M, σ', vs, R, rv, P⟩ := h
  obtain ⟨x, a, c, rfl, pa, e, q⟩ := c1_post R rv P
  cases a with
  | list xs =>
    cases e
    obtain ⟨p, vs, rfl, hp, hd⟩ := pa.list R
    refine call_tuple_of pins s σ H _ us Q I r ⟨p, vs, rfl, .inl ⟨hp, fun l hl => ?_⟩⟩
    obtain ⟨R3, l3, d⟩ := R.mkT hl hd
    exact q _ _ _ l3 R3 d
  | tuple xs =>
    cases e
    obtain ⟨p, vs, rfl, hp0, hp, hd⟩ := pa.tuple R
    exact call_tuple_of pins s σ H _ us Q I r ⟨p, vs, rfl, .inr ⟨hp, q _ _ W (Wd.le.refl _) R (.tup hp0 hd)⟩⟩
  | _ => cases e

/-! #### sum, all, any -/
def numD : PyData → Option Int
  | .int i => some i
  | .bool b => some (if b = true then 1 else 0)
  | _ => none
def numsD : List PyData → Option (List Int)
  | [] => some []
  | x :: xs => match numD x, numsD xs with
    | some i, some is => some (i :: is)
    | _, _ => none
def sumD (d : PyData) : Option PyData := match itemsOf d with
  | some xs => (match numsD xs with
    | some ns => some (.int ns.sum)
    | none => none)
  | none => none
theorem preSum_take (ns : List Int) : ∀ k, preSum (fun i => ns.getD i 0) k = (ns.take k).sum
  | 0 => rfl
  | k + 1 => by
    show preSum (fun i => ns.getD i 0) k + ns.getD k 0 = _
    rw [preSum_take ns k, List.take_succ, List.sum_append, List.getD_eq_getElem?_getD]
    cases ns[k]? with
    | none => simp
    | some a => simp
theorem nums_len : ∀ {xs : List PyData} {ns : List Int}, numsD xs = some ns → ns.length = xs.length
  | [], _, e => by cases e; rfl
  | x :: xs, ns, e => by
    simp only [numsD] at e
    cases e1 : numD x with
    | none => rw [e1] at e; cases e
    | some i =>
      rw [e1] at e
      cases e2 : numsD xs with
      | none => rw [e2] at e; cases e
      | some is =>
        rw [e2] at e
        cases e
        rw [List.length_cons, List.length_cons, nums_len e2]
theorem nums_at {K : PySem.W.Frag} {Z : Hp} : ∀ {vs : List V} {its : List Value} {xs : List PyData} {ns : List Int}, Vals vs its → DqAll K Z vs xs → numsD xs = some ns → ∀ i u, its[i]? = some u → NumOf (ns.getD i 0) u
  | _, _, _, _, .nil, .nil, e, i, u, h => by simp at h
  | _, _, _, ns, .cons (l₁ := vs) (l₂ := its) r rs, .cons (d := d) (ds := xs) q qs, e, i, u, h => by
    simp only [numsD] at e
    cases e1 : numD d with
    | none => rw [e1] at e; cases e
    | some j =>
      rw [e1] at e
      cases e2 : numsD xs with
      | none => rw [e2] at e; cases e
      | some is =>
        rw [e2] at e
        cases e
        cases i with
        | zero =>
          simp at h
          subst h
          cases q with
          | int k =>
            cases e1
            obtain ⟨t, rfl⟩ := r
            exact .inl ⟨t, rfl⟩
          | bl k =>
            cases e1
            cases r
            exact .inr ⟨k, rfl, rfl⟩
          | _ => cases e1
        | succ i => exact nums_at rs qs e2 i u (by simpa using h)
theorem sum_of {A : Around} {prog : Program} {w : World} {E : Value → Shared → Prop} {s : Shared} {l : Addr} {its : List Value} {ns : List Int} {Q : Value → Shared → Prop} (hh : A.handled = none) (hl : s.heap.IsList l its.toArray ∨ s.heap.IsTuple l its.toArray) (hn : ns.length = its.length)
    (hv : ∀ i u, its[i]? = some u → NumOf (ns.getD i 0) u) (h : ∀ h' tk t, (∀ b o, s.heap.get? b = some o → h'.get? b = some o) → Q (.int ns.sum t) { s with heap := h', toks := tk }) : wpAny (model prog w) A (call (.builtin "sum") [.ref l]) Q E s := by
  refine call_sum_walkAnyB ?_
  have e0 : preSum (fun i => ns.getD i 0) its.toArray.size = ns.sum := by
    rw [preSum_take, List.size_toArray, ← hn, List.take_length]
  rcases hl with hl | hl
  · refine PySem.W.iter_listW (A := A.in1) hh hl fun s₂ e W st hfp hw hk => ?_
    refine ⟨_, _, _, _, _, _, _, fun i => ns.getD i 0, rfl, W, st, hfp, fun i u hu => hv i u (by simpa using hu), fun s' t' m => ?_⟩
    obtain ⟨h', tk, rfl, hk'⟩ := PySem.W.moved_old e rfl m
    rw [e0]
    exact h h' tk t' hk'
  · refine PySem.W.iter_tupleW (A := A.in1) hh hl fun s₂ e W st hfp hw hk => ?_
    refine ⟨_, _, _, _, _, _, _, fun i => ns.getD i 0, rfl, W, st, hfp, fun i u hu => hv i u (by simpa using hu), fun s' t' m => ?_⟩
    obtain ⟨h', tk, rfl, hk'⟩ := PySem.W.moved_old e rfl m
    rw [e0]
    exact h h' tk t' hk'
theorem call_sumV (hc : X.calm = true) : CallR X (.builtin "sum") (aC X.K W0 (liftC1 sumD)) := by
  intro pins s σ H xs us Q I r h
  obtain ⟨W, M, σ', vs, R, rv, P⟩ := h
  obtain ⟨x, a, c, rfl, pa, e, q⟩ := c1_post R rv P
  obtain ⟨u, rfl, rx⟩ := vals1 r
  have key : ∀ (p : Addr) (vs : List V) (its : List Value) (ds : List PyData), x = .ref p → DqAll X.K W.Z vs ds → Vals vs its → (s.heap.IsList p its.toArray ∨ s.heap.IsTuple p its.toArray) → itemsOf a = some ds → wpAny (model X.prog X.w) X.A (call (.builtin "sum") [u]) (EP X pins σ Q) X.xe s := by
    intro p vs its ds ex hd hv hl hi
    subst ex
    cases rx
    simp only [sumD, hi] at e
    cases e2 : numsD ds with
    | none => rw [e2] at e; cases e
    | some ns =>
      rw [e2] at e
      cases e
      refine sum_of (I.ok.hd hc) hl (by rw [nums_len e2, ← hd.length, hv.length]) (nums_at hv hd e2) fun h' tk t hk => ?_
      exact ⟨.int ns.sum, H, I.kept hk, ⟨t, rfl⟩, q _ _ W (Wd.le.refl _) R (.int _)⟩
  cases a with
  | list xs =>
    obtain ⟨p, vs, rfl, hp, hd⟩ := pa.list R
    obtain ⟨its, hv, hl, _⟩ := I.list hp
    exact key p vs its xs rfl hd hv (.inl hl.isList) rfl
  | tuple xs =>
    obtain ⟨p, vs, rfl, _, hp, hd⟩ := pa.tuple R
    obtain ⟨its, hv, hl, _⟩ := I.tuple hp
    exact key p vs its xs rfl hd hv (.inr hl) rfl
  | _ => cases e
def fitB : PyData → Bool
  | .str x => Nat.blt x.length 9223372036854775808
  | .list xs => Nat.blt xs.length 9223372036854775808
  | .tuple xs => Nat.blt xs.length 9223372036854775808
  | _ => true
theorem lt63 {n : Nat} (h : Nat.blt n 9223372036854775808 = true) : (n : Int) < 2 ^ 63 := by
  have h2 : n < 9223372036854775808 := Nat.le_of_ble_eq_true h
  omega
theorem fitB_ok : ∀ {d : PyData}, fitB d = true → d.fits63
  | .str _, h => lt63 h
  | .list _, h => lt63 h
  | .tuple _, h => lt63 h
  | .none, _ => trivial
  | .bool _, _ => trivial
  | .int _, _ => trivial
  | .dict _, _ => trivial
def allD (d : PyData) : Option PyData := match itemsOf d with
  | some xs => if xs.all fitB = true then some (.bool (xs.all fun x => x.truthy)) else none
  | none => none
def anyD (d : PyData) : Option PyData := match itemsOf d with
  | some xs => if xs.all fitB = true then some (.bool (xs.any fun x => x.truthy)) else none
  | none => none
theorem call_allV (hc : X.calm = true) : CallR X (.builtin "all") (aC X.K W0 (liftC1 allD)) := by
  intro pins s σ H xs us Q I r h
  obtain ⟨W, M, σ', vs, R, rv, P⟩ := h
  obtain ⟨x, a, c, rfl, pa, e, q⟩ := c1_post R rv P
  obtain ⟨u, rfl, rx⟩ := vals1 r
  obtain ⟨⟨as, ra⟩, ha⟩ := inv_dp I (pa.dp R) rx
  cases a with
  | list xs =>
    simp only [allD, itemsOf] at e
    split at e
    · rename_i hf
      cases e
      cases ra with
      | list h1 h2 h3 h4 =>
        exact PySem.W.all_list_data (I.ok.hd hc) ⟨_, h1, h2, _, h3⟩ h4 (by simpa [PyData.plain] using ha) (fun y hy => fitB_ok (List.all_eq_true.mp hf y hy)) fun h' tk hk => ⟨.bl _, H, I.kept hk, rfl, q _ _ W (Wd.le.refl _) R (.bl _)⟩
    · cases e
  | tuple xs =>
    simp only [allD, itemsOf] at e
    split at e
    · rename_i hf
      cases e
      cases ra with
      | tuple h1 h2 h3 h4 =>
        exact PySem.W.all_tuple_data (I.ok.hd hc) ⟨_, h1, h2, _, h3⟩ h4 (by simpa [PyData.plain] using ha) (fun y hy => fitB_ok (List.all_eq_true.mp hf y hy)) fun h' tk hk => ⟨.bl _, H, I.kept hk, rfl, q _ _ W (Wd.le.refl _) R (.bl _)⟩
    · cases e
  | _ => cases e
theorem call_anyV (hc : X.calm = true) : CallR X (.builtin "any") (aC X.K W0 (liftC1 anyD)) := by
  intro pins s σ H xs us Q I r h
  obtain ⟨W, M, σ', vs, R, rv, P⟩ := h
  obtain ⟨x, a, c, rfl, pa, e, q⟩ := c1_post R rv P
  obtain ⟨u, rfl, rx⟩ := vals1 r
  obtain ⟨⟨as, ra⟩, ha⟩ := inv_dp I (pa.dp R) rx
  cases a with
  | list xs =>
    simp only [anyD, itemsOf] at e
    split at e
    · rename_i hf
      cases e
      cases ra with
      | list h1 h2 h3 h4 =>
        exact PySem.W.any_list_data (I.ok.hd hc) ⟨_, h1, h2, _, h3⟩ h4 (by simpa [PyData.plain] using ha) (fun y hy => fitB_ok (List.all_eq_true.mp hf y hy)) fun h' tk hk => ⟨.bl _, H, I.kept hk, rfl, q _ _ W (Wd.le.refl _) R (.bl _)⟩
    · cases e
  | tuple xs =>
    simp only [anyD, itemsOf] at e
    split at e
    · rename_i hf
      cases e
      cases ra with
      | tuple h1 h2 h3 h4 =>
        exact PySem.W.any_tuple_data (I.ok.hd hc) ⟨_, h1, h2, _, h3⟩ h4 (by simpa [PyData.plain] using ha) (fun y hy => fitB_ok (List.all_eq_true.mp hf y hy)) fun h' tk hk => ⟨.bl _, H, I.kept hk, rfl, q _ _ W (Wd.le.refl _) R (.bl _)⟩
    · cases e
  | _ => cases e

/-! #### isinstance(e, T) -/
inductive Ty where
  | int | bool | str | list | tuple | dict
def Ty.nm : Ty → String
  | .int => "int"
  | .bool => "bool"
  | .str => "str"
  | .list => "list"
  | .tuple => "tuple"
  | .dict => "dict"
def isaD (T : Ty) (d : PyData) : Option PyData := some (.bool (match T with
  | .int => d.isInt
  | .bool => d.isBool
  | .str => d.isStr
  | .list => d.isList
  | .tuple => d.isTuple
  | .dict => d.isDict))
theorem call_isaV (T : Ty) : CallR X (.builtin "isinstance") (fun xs H Q => ∃ x, xs = [x, .ty T.nm] ∧ aC X.K W0 (liftC1 (isaD T)) [x] H Q) := by
  intro pins s σ H xs us Q I r h
  obtain ⟨x, rfl, W, M, σ', vs, R, rv, P⟩ := h
  obtain ⟨x', a, c, ex, pa, e, q⟩ := c1_post R rv P
  cases ex
  obtain ⟨u, u2, rfl, rx, r2⟩ := vals2 r
  obtain ⟨⟨as, ra⟩, ha⟩ := inv_dp I (pa.dp R) rx
  obtain rfl : u2 = Value.type T.nm := r2
  cases T <;> cases e
  · exact PySem.W.isinstance_int_data ra fun tk _ => ⟨.bl _, H, I.tok _, rfl, q _ _ W (Wd.le.refl _) R (.bl _)⟩
  · exact PySem.W.isinstance_bool_data ra fun tk _ => ⟨.bl _, H, I.tok _, rfl, q _ _ W (Wd.le.refl _) R (.bl _)⟩
  · exact PySem.W.isinstance_str_data ra fun tk _ => ⟨.bl _, H, I.tok _, rfl, q _ _ W (Wd.le.refl _) R (.bl _)⟩
  · exact PySem.W.isinstance_list_data ra fun tk _ => ⟨.bl _, H, I.tok _, rfl, q _ _ W (Wd.le.refl _) R (.bl _)⟩
  · exact PySem.W.isinstance_tuple_data ra fun tk _ => ⟨.bl _, H, I.tok _, rfl, q _ _ W (Wd.le.refl _) R (.bl _)⟩
  · exact PySem.W.isinstance_dict_data ra fun tk _ => ⟨.bl _, H, I.tok _, rfl, q _ _ W (Wd.le.refl _) R (.bl _)⟩
theorem se_isa {T : Ty} {nT : Str} {pT pf : Pos} (hg : Gl X "isinstance") (hm : X.mg "isinstance" = none) (hv : bootBuiltins nT = some (.type T.nm)) (hgT : Gl X nT) (hmT : X.mg nT = none) (hn : nT ≠ "__name__") (hdb : (nT == ("__debug__" : Str)) = false) (ha : SE X W0 a ga) (hs : notStar a = true) :
    SE X W0 (.Call (.Name "isinstance" pf) [a, .Name nT pT] [] pos) (gUn (lift1 (isaD T)) ga) := by
  have hT : PE X (.Name nT pT) (tC (.ty T.nm)) := pe_bltn hgT hmT hv rfl hn hdb
  refine PE.mono (pe_callB (call_isaV (W0 := W0) T) hg hm (by decide +kernel) (pa_cons ha (pa_cons hT pa_nil) (star_one hs _ _)) (by decide) (by decide) (star_one hs _ _)) fun σ H Q h => ?_
  obtain ⟨ρ, M, W, R, S, P⟩ := h
  refine ⟨ρ, M, W, R, S, post_bind P fun v H1 W1 M1 x e l1 R1 r1 P1 => ?_⟩
  exact ⟨v, rfl, W1, M1, σ, [x], R1, .cons r1 .nil, P1⟩

/-! ### methods -/
abbrev OpM := Vl → List Vl → Sto → Out Vl
def aM (K : PySem.W.Frag) (W0 : WX) (op : OpM) : V → List V → Hp → VK → Prop := fun x xs H Q => ∃ (W : Wd) (M : Sto) (σ : L2.St) (v : Vl) (vs : List Vl), RelM K W H M ∧ VlR K W x v ∧ VlsR K W xs vs ∧ Post (VlR K) K W0 W σ (op v vs M) Q
/-- the receiver's type -/
inductive MT where
  | list | dict | str
def MT.nm : MT → String
  | .list => "list"
  | .dict => "dict"
  | .str => "str"
def tyM (T : MT) (M : Sto) (x : Vl) : Bool := match T with
  | .list => (match peek M x with
    | some (.list _) => true
    | _ => false)
  | .dict => (dctAt M x).isSome
  | .str => (match x with
    | .d (.str _) => true
    | _ => false)
def gMeth (T : MT) (op : OpM) (g : Ev0 Vl) (h : Ev0 (List Vl)) : Ev0 Vl := fun ρ M => (g ρ M).bind fun x M1 => if tyM T M1 x = true then (h ρ M1).bind fun xs M2 => op x xs M2 else .bad
theorem tyM_ok {K : PySem.W.Frag} {W : Wd} {H : Hp} {M : Sto} {T : MT} {v : V} {x : Vl} (R : RelM K W H M) (r : VlR K W v x) (h : tyM T M x = true) : tyV K T.nm v H := by
  cases T with
  | list =>
    simp only [tyM] at h
    cases e : peek M x with
    | none => rw [e] at h; cases h
    | some d =>
      rw [e] at h
      cases d with
      | list xs =>
        obtain ⟨p, vs, rfl, hp, hd⟩ := (peek_pk R r e).list R
        exact .inl ⟨rfl, vs, hp⟩
      | _ => cases h
  | dict =>
    simp only [tyM] at h
    cases e : dctAt M x with
    | none => rw [e] at h; cases h
    | some kvs =>
      obtain ⟨n, a, vs, rfl, rfl, hm, z, h1, h2⟩ := dctAt_ok R r e
      exact .inr (.inr (.inl ⟨rfl, .inl ⟨vs, h1⟩⟩))
  | str =>
    simp only [tyM] at h
    cases x with
    | d y =>
      cases y with
      | str z => cases r; exact rfl
      | _ => cases h
    | ref n => cases h
theorem se_meth {T : MT} {op : OpM} {id : String} {name : Str} {apos cpos : Pos} (pa : PlainAttrs T.nm) (slot : Slot T.nm name id) (hty : typeOf (.builtin id) = pure (.type "method_descriptor")) (hm : MtR X id (aM X.K W0 op)) (ho : SE X W0 a ga) (ha : SA X W0 (b :: es) g)
    (hbase : ∀ env, attributeBase a name env (eval a env) = eval a env) (hfew : (b :: es).length < 29) (hs : (b :: es).all notStar = true) (hline : (apos.endLine == cpos.line) = true) : SE X W0 (.Call (.Attribute a name apos) (b :: es) [] cpos) (gMeth T op ga g) := by
  have h2 : notStar b = true ∧ es.all notStar = true := by simpa [List.all_cons] using hs
  have h3 : ∀ (l : List (Bool × Sem Value)), l.any (·.1) = false → l.all (fun x => !x.1) = true := fun l h => by
    rw [List.all_eq_not_any_not]
    simp only [Bool.not_not]
    rw [h]
    rfl
  refine PE.mono (pe_bm pa slot hty hm ho ha (hbase _) ?_ hline (star_one h2.1 _ _) (star_none _ _ _ h2.2)) fun σ H Q h => ?_
  · rw [h3 _ (star_none cpos X.env (b :: es) hs)]
    have e : (b :: es).length + ([] : List Keyword).length + (if ([] : List Keyword).isEmpty then 0 else 1) < 30 := by
      show (b :: es).length + 0 + 0 < 30
      omega
    rw [decide_eq_true e]
    rfl
  · obtain ⟨ρ, M, W, R, S, P⟩ := h
    refine ⟨ρ, M, W, R, S, post_bind P fun v H1 W1 M1 x e l1 R1 r1 P1 => ?_⟩
    obtain ⟨ht, P2⟩ := if_post P1
    refine ⟨tyM_ok R1 r1 ht, ρ, M1, W1, R1, S.mono l1, post_bind P2 fun vs H2 W2 M2 xs e2 l2 R2 r2 P3 => ?_⟩
    exact ⟨W2, M2, σ, x, xs, R2, r1.mono l2, r2, P3⟩

/-! #### list.append, list.extend, list.count -/
def lstAt (M : Sto) : Vl → Option (Nat × List PyData)
  | .ref n => match M[n]? with
    | some (.lst xs) => some (n, xs)
    | _ => none
  | _ => none
def appendV : OpM := fun x vs M => match vs with
  | [v] => (match toD M v with
    | some (d, M1) => (match lstAt M1 x with
      | some (n, xs) => if xs.length < sizeLine then .ok (.d .none) (M1.set n (.lst (xs ++ [d]))) else .bad
      | none => .bad)
    | none => .bad)
  | _ => .bad
def countV : OpM := fun x vs M => match vs with
  | [v] => (match peek M x, peek M v with
    | some (.list xs), some d => if min (PyData.depthAll xs) d.depth ≤ 64 then .ok (.d (.int ((xs.countP fun y => PyData.eqv y d : Nat) : Int))) M else .bad
    | _, _ => .bad)
  | _ => .bad
theorem lstAt_ok {K : PySem.W.Frag} {W : Wd} {H : Hp} {M : Sto} (R : RelM K W H M) {v : V} {x : Vl} {n : Nat} {xs : List PyData} (r : VlR K W v x) (e : lstAt M x = some (n, xs)) : ∃ a vs, x = .ref n ∧ v = .ref a ∧ W.μ[n]? = some a ∧ W.Z a = none ∧ H a = some (.lst vs) ∧ DqAll K W.Z vs xs := by
  cases x with
  | d y => cases e
  | ref m =>
    obtain ⟨a, rfl, hm⟩ := r
    simp only [lstAt] at e
    cases e2 : M[m]? with
    | none => rw [e2] at e; cases e
    | some cl =>
      rw [e2] at e
      cases cl with
      | lst l =>
        cases e
        obtain ⟨z, vs, h1, h2⟩ := cell_lst R hm e2
        exact ⟨a, vs, rfl, rfl, hm, z, h1, h2⟩
      | _ => cases e
theorem mt_appendV : MtR X "list.append" (aM X.K W0 appendV) := by
  intro pins s σ H x xs v us Q I rx rs h
  obtain ⟨W, M, σ', y, vs, R, r1, r2, P⟩ := h
  match vs, r2, P with
  | [], _, P => exact P.elim
  | _ :: _ :: _, _, P => exact P.elim
  | [w], r2, P1 =>
    obtain ⟨z, rfl, rz⟩ := vlsR_one r2
    simp only [appendV] at P1
    cases e : toD M w with
    | none => rw [e] at P1; exact P1.elim
    | some q =>
      obtain ⟨d, M1⟩ := q
      rw [e] at P1
      dsimp only at P1
      obtain ⟨W1, l1, R1, dz⟩ := toD_dp R rz e
      cases e2 : lstAt M1 y with
      | none => rw [e2] at P1; exact P1.elim
      | some q2 =>
        obtain ⟨n, ys⟩ := q2
        rw [e2] at P1
        obtain ⟨a, ws, rfl, rfl, hm, hz, hH, hd⟩ := lstAt_ok R1 (r1.mono l1) e2
        obtain ⟨hlt, P2⟩ := if_post P1
        exact mt_append pins s σ H _ _ v us Q I rx rs ⟨a, ws, z, rfl, rfl, hH, by rw [hd.length]; exact hlt, P2 _ _ W1 l1 (set_lst R1 hm hz (hd.append (.cons dz .nil))) .non⟩
theorem mt_countV (hu : X.A.units + 65 < cLine) : MtR X "list.count" (aM X.K W0 countV) := by
  intro pins s σ H x xs v us Q I rx rs h
  obtain ⟨W, M, σ', y, vs, R, r1, r2, P⟩ := h
  match vs, r2, P with
  | [], _, P => exact P.elim
  | _ :: _ :: _, _, P => exact P.elim
  | [w], r2, P =>
    obtain ⟨z, rfl, rz⟩ := vlsR_one r2
    obtain ⟨u, rfl, ru⟩ := rs.one
    simp only [countV] at P
    cases e : peek M y with
    | none => rw [e] at P; exact P.elim
    | some d =>
      cases e2 : peek M w with
      | none => rw [e, e2] at P; cases d <;> exact P.elim
      | some d2 =>
        rw [e, e2] at P
        cases d with
        | list ys =>
          simp only at P
          obtain ⟨hd, P2⟩ := if_post P
          obtain ⟨⟨as, ra⟩, ha⟩ := inv_dp I (peek_dp R r1 e) rx
          obtain ⟨⟨bs, rb⟩, hb⟩ := inv_dp I (peek_dp R rz e2) ru
          cases ra with
          | list h1 h2 h3 h4 =>
            exact SeqAt.count_list_data ⟨_, h1, h2, _, h3⟩ h4 rb (by simpa [PyData.plain] using ha) hb (by omega) ⟨.int _, H, I.tok _, ⟨_, rfl⟩, P2 _ _ W (Wd.le.refl _) R (.int _)⟩
        | _ => exact P.elim
end
end Ev

namespace Ev
open PySem PySem.Spec PyProof.Rows L2

/-! ### targets -/
abbrev TgV := Vl → Rho → Sto → Option Rho
abbrev TgVs := List PyData → Rho → Sto → Option Rho
def tgName (i : Nat) : TgV := fun x ρ _ => some (ρ.set i (some x))
def tgNil : TgVs := fun ds ρ _ => match ds with
  | [] => some ρ
  | _ => none
def tgCons (t : TgV) (ts : TgVs) : TgVs := fun ds ρ M => match ds with
  | d :: ds => (t (.d d) ρ M).bind fun ρ' => ts ds ρ' M
  | [] => none
def tgTup (n : Nat) (ts : TgVs) : TgV := fun x ρ M => match peek M x with
  | some d => (match itemsOf d with
    | some ds => if ds.length = n then ts ds ρ M else none
    | none => none)
  | none => none
/-- the same but for the slots sl -/
def Off (sl : List Nat) (σ σ' : L2.St) : Prop := σ'.length = σ.length ∧ ∀ j, j ∉ sl → σ'[j]? = σ[j]?
theorem Off.refl (sl : List Nat) (σ : L2.St) : Off sl σ σ := ⟨rfl, fun _ _ => rfl⟩
theorem Off.trans {sl sl' : List Nat} {σ σ1 σ2 : L2.St} (a : Off sl σ σ1) (b : Off sl' σ1 σ2) : Off (sl ++ sl') σ σ2 :=
  ⟨b.1.trans a.1, fun j hj => (b.2 j fun h => hj (List.mem_append_right _ h)).trans (a.2 j fun h => hj (List.mem_append_left _ h))⟩
theorem off_wipe {sl vs : List Nat} {σ σ' : L2.St} (h : Off sl σ σ') (hs : ∀ j ∈ sl, j ∈ vs) : wipe σ' vs = wipe σ vs := by
  refine List.ext_getElem? fun j => ?_
  have key : ∀ (τ : L2.St) (vs : List Nat), (wipe τ vs)[j]? = if j ∈ vs then (if j < τ.length then some none else none) else τ[j]? := by
    intro τ vs
    induction vs with
    | nil => rfl
    | cons v vs ih =>
      show ((wipe τ vs).set v none)[j]? = _
      by_cases hv : v = j
      · subst hv
        rw [if_pos List.mem_cons_self]
        by_cases hl : v < τ.length
        · rw [List.getElem?_set_self (by rw [wipe_length]; exact hl), if_pos hl]
        · rw [if_neg hl, List.getElem?_eq_none (by rw [List.length_set, wipe_length]; exact Nat.le_of_not_lt hl)]
      · rw [List.getElem?_set_ne hv, ih]
        by_cases hm : j ∈ vs
        · rw [if_pos hm, if_pos (List.mem_cons_of_mem _ hm)]
        · rw [if_neg hm, if_neg (fun h => (List.mem_cons.mp h).elim (fun e => hv e.symm) hm)]
  rw [key, key, h.1]
  by_cases hj : j ∈ vs
  · rw [if_pos hj, if_pos hj]
  · rw [if_neg hj, if_neg hj]
    exact h.2 j fun hm => hj (hs j hm)
def aG (K : PySem.W.Frag) (sl : List Nat) (t : TgV) : TG := fun v σ H Q => ∃ ρ M W x, RelM K W H M ∧ SltR K W σ ρ ∧ VlR K W v x ∧ ∃ ρ', t x ρ M = some ρ' ∧ ∀ σ', SltR K W σ' ρ' → Off sl σ σ' → Q σ' H
def aGs (K : PySem.W.Frag) (sl : List Nat) (t : TgVs) : TGs := fun vs σ H Q => ∃ ρ M W xs, RelM K W H M ∧ SltR K W σ ρ ∧ DqAll K W.Z vs xs ∧ ∃ ρ', t xs ρ M = some ρ' ∧ ∀ σ', SltR K W σ' ρ' → Off sl σ σ' → Q σ' H
theorem PG.mono {X : Cx} {e : Expr} {t t' : TG} (h : PG X e t) (m : ∀ v σ H Q, t' v σ H Q → t v σ H Q) : PG X e t' := ⟨fun pins s σ H v u Q I r q => h.run pins s σ H v u Q I r (m _ _ _ _ q)⟩
theorem PGs.mono {X : Cx} {e : List Expr} {t t' : TGs} (h : PGs X e t) (m : ∀ v σ H Q, t' v σ H Q → t v σ H Q) : PGs X e t' := ⟨fun pins s σ H v u Q I r q => h.run pins s σ H v u Q I r (m _ _ _ _ q)⟩
theorem PG.or {X : Cx} {e : Expr} {t t' : TG} (h : PG X e t) (h' : PG X e t') : PG X e (fun v σ H Q => t v σ H Q ∨ t' v σ H Q) := ⟨fun pins s σ H v u Q I r q => q.elim (fun q => h.run pins s σ H v u Q I r q) fun q => h'.run pins s σ H v u Q I r q⟩
section
variable {X : Cx} {pos : Pos} {es : List Expr} {e : Expr} {sl sl' : List Nat} {t : TgV} {ts : TgVs}
theorem sg_name {i : Nat} {x : Str} (hN : X.N.Nodup) (hi : X.N[i]? = some x) (hx : Loc X.env.scope x) (hf : X.fn x = true ∨ X.env.scope.names.lookup x = some .local) : PG X (.Name x pos) (aG X.K [i] (tgName i)) := by
  refine PG.mono (pg_name hN hi hx hf) fun v σ H Q h => ?_
  obtain ⟨ρ, M, W, x, R, S, r, ρ', e, q⟩ := h
  cases e
  refine q _ (S.set r i) ⟨by rw [List.length_set], fun j hj => ?_⟩
  rw [List.getElem?_set_ne (fun h => hj (by rw [h]; exact List.mem_cons_self))]
theorem assign_one (h : notStar e = true) (es : List Expr) (env : Env) : assignEach (e :: es) env = (false, assign e env) :: assignEach es env := by
  cases e <;> first | rfl | cases h
theorem sgs_nil : PGs X [] (aGs X.K [] tgNil) := by
  refine PGs.mono pgs_nil fun v σ H Q h => ?_
  obtain ⟨ρ, M, W, xs, R, S, r, ρ', e, q⟩ := h
  cases r with
  | nil => cases e; exact ⟨rfl, q σ S (Off.refl _ _)⟩
  | cons _ _ => cases e
theorem sgs_cons (h1 : PG X e (aG X.K sl t)) (h2 : PGs X es (aGs X.K sl' ts)) (hs : notStar e = true) : PGs X (e :: es) (aGs X.K (sl ++ sl') (tgCons t ts)) := by
  refine PGs.mono (pgs_cons h1 h2 (by rw [assign_one hs]; rfl)) fun v σ H Q h => ?_
  obtain ⟨ρ, M, W, xs, R, S, r, ρ', e, q⟩ := h
  cases r with
  | nil => cases e
  | cons h t2 =>
    rename_i v vs d ds
    simp only [tgCons] at e
    cases e1 : t (.d d) ρ M with
    | none => rw [e1] at e; cases e
    | some ρ1 =>
      rw [e1] at e
      exact ⟨v, vs, rfl, ρ, M, W, .d d, R, S, h, ρ1, e1, fun σ1 S1 o1 => ⟨ρ1, M, W, ds, R, S1, t2, ρ', e, fun σ2 S2 o2 => q σ2 S2 (o1.trans o2)⟩⟩
theorem assign_len : ∀ (es : List Expr) (env : Env), (assignEach es env).length = es.length
  | [], _ => rfl
  | e :: es, env => by
    cases e <;> (show (assignEach es env).length + 1 = es.length + 1; rw [assign_len es env])
theorem assign_nostar : ∀ (es : List Expr) (env : Env), es.all notStar = true → (assignEach es env).findIdx? (·.1) = none
  | [], _, _ => rfl
  | e :: es, env, h => by
    rw [List.all_cons, Bool.and_eq_true] at h
    rw [assign_one h.1, List.findIdx?_cons, assign_nostar es env h.2]
    rfl
theorem sg_tup {k : Nat} (hc : X.calm = true) (h : PGs X es (aGs X.K sl ts)) (hs : es.all notStar = true) : PG X (.Tuple es k pos) (aG X.K sl (tgTup es.length ts)) := by
  refine PG.mono (PG.or (pg_tup hc h (assign_len es _) (assign_nostar es _ hs)) (pg_lst hc h (assign_len es _) (assign_nostar es _ hs))) fun v σ H Q h => ?_
  obtain ⟨ρ, M, W, x, R, S, r, ρ', e, q⟩ := h
  simp only [tgTup] at e
  cases e1 : peek M x with
  | none => rw [e1] at e; cases e
  | some d =>
    simp only [e1] at e
    have pa := peek_pk R r e1
    cases d with
    | tuple ds =>
      simp only [itemsOf] at e
      split at e
      · rename_i hl
        obtain ⟨a, vs, rfl, _, hp, hd⟩ := pa.tuple R
        exact .inl ⟨a, vs, rfl, hp, by rw [hd.length]; exact hl, ρ, M, W, ds, R, S, hd, ρ', e, q⟩
      · cases e
    | list ds =>
      simp only [itemsOf] at e
      split at e
      · rename_i hl
        obtain ⟨a, vs, rfl, hp, hd⟩ := pa.list R
        exact .inr ⟨a, vs, rfl, hp, by rw [hd.length]; exact hl, ρ, M, W, ds, R, S, hd, ρ', e, q⟩
      · cases e
    | _ => simp only [itemsOf] at e; cases e
end

/-! ### what a loop walks -/
inductive ISrc where
  | lst (x : Vl)
  | tup (x : Vl)
  | rng (lo : Int) (n : Nat)
  | zipL (x y : Vl)
  | zipT (x y : Vl)
  | enu (x : Vl)
  | str (z : Str)
def lsD (M : Sto) (x : Vl) : Option (List PyData) := match peek M x with
  | some (.list xs) => some xs
  | _ => none
def tpD (M : Sto) (x : Vl) : Option (List PyData) := match peek M x with
  | some (.tuple xs) => some xs
  | _ => none
def pairAt (xs ys : List PyData) (i : Nat) : Option Vl := match xs[i]?, ys[i]? with
  | some x, some y => some (.d (.tuple [x, y]))
  | _, _ => none
/-- turn i: none is bad; some none is the end -/
def ISrc.step (i : Nat) (M : Sto) : ISrc → Option (Option Vl)
  | .lst x => (lsD M x).map fun xs => xs[i]?.map .d
  | .tup x => (tpD M x).map fun xs => xs[i]?.map .d
  | .rng lo n => some (if i < n then some (.d (.int (lo + i))) else none)
  | .zipL x y => match lsD M x, lsD M y with
    | some xs, some ys => some (pairAt xs ys i)
    | _, _ => none
  | .zipT x y => match tpD M x, tpD M y with
    | some xs, some ys => some (pairAt xs ys i)
    | _, _ => none
  | .enu x => (lsD M x).map fun xs => xs[i]?.map fun y => .d (.tuple [.int (i : Nat), y])
  | .str z => some (z.cps[i]?.map fun c => .d (.str ⟨#[c]⟩))
/-- the turns at most -/
def ISrc.size (M : Sto) : ISrc → Nat
  | .lst x => match lsD M x with
    | some xs => xs.length
    | none => 0
  | .tup x => match tpD M x with
    | some xs => xs.length
    | none => 0
  | .rng _ n => n
  | .zipL x _ => match lsD M x with
    | some xs => xs.length
    | none => 0
  | .zipT x _ => match tpD M x with
    | some xs => xs.length
    | none => 0
  | .enu x => match lsD M x with
    | some xs => xs.length
    | none => 0
  | .str z => z.cps.size
def ItR (K : PySem.W.Frag) (W : Wd) (J : It) (src : ISrc) : Prop := ∀ W' H M i, W.le W' → RelM K W' H M →
  (src.step i M = some none → J.stop i H) ∧ ∀ x, src.step i M = some (some x) → J.go i H ∧ ∀ v H', J.yld i H v H' → ∃ W2, W'.le W2 ∧ RelM K W2 H' M ∧ VlR K W2 v x
theorem ItR.mono {K : PySem.W.Frag} {W W1 : Wd} {J : It} {src : ISrc} (l : W.le W1) (h : ItR K W J src) : ItR K W1 J src := fun W' H M i l' => h W' H M i (l.trans l')
def aIt (K : PySem.W.Frag) (W0 : WX) (g : Rho → Sto → Out ISrc) : TI := fun σ H R => ∃ ρ M W, RelM K W H M ∧ SltR K W σ ρ ∧ Post (ItR K) K W0 W σ (g ρ M) R
theorem PI.mono {X : Cx} {tg e : Expr} {t t' : TI} (h : PI X tg e t) (m : ∀ σ H Q, t' σ H Q → t σ H Q) : PI X tg e t' := ⟨fun pins s σ H Q I q => h.run pins s σ H Q I (m _ _ _ q)⟩
theorem PI.or {X : Cx} {tg e : Expr} {t t' : TI} (h : PI X tg e t) (h' : PI X tg e t') : PI X tg e (fun σ H Q => t σ H Q ∨ t' σ H Q) := ⟨fun pins s σ H Q I q => q.elim (fun q => h.run pins s σ H Q I q) fun q => h'.run pins s σ H Q I q⟩
section
variable {K : PySem.W.Frag} {W : Wd} {H : Hp} {M : Sto}
theorem lsD_ok (R : RelM K W H M) {v : V} {x : Vl} {xs : List PyData} (r : VlR K W v x) (e : lsD M x = some xs) : ∃ a vs, v = .ref a ∧ SqL K H a vs ∧ DqAll K W.Z vs xs := by
  unfold lsD at e
  cases e1 : peek M x with
  | none => rw [e1] at e; cases e
  | some d =>
    rw [e1] at e
    cases d with
    | list ys => cases e; exact (peek_pk R r e1).list R
    | _ => cases e
theorem tpD_ok (R : RelM K W H M) {v : V} {x : Vl} {xs : List PyData} (r : VlR K W v x) (e : tpD M x = some xs) : ∃ a vs, v = .ref a ∧ SqT K H a vs ∧ DqAll K W.Z vs xs := by
  unfold tpD at e
  cases e1 : peek M x with
  | none => rw [e1] at e; cases e
  | some d =>
    rw [e1] at e
    cases d with
    | tuple ys =>
      cases e
      obtain ⟨a, vs, h1, h2, h3, h4⟩ := (peek_pk R r e1).tuple R
      exact ⟨a, vs, h1, h3, h4⟩
    | _ => cases e
theorem none_len {xs : List PyData} {vs : List V} {i : Nat} (d : DqAll K W.Z vs xs) (h : xs[i]? = none) : vs.length ≤ i := by
  rw [d.length]
  exact List.getElem?_eq_none_iff.mp h
theorem itr_lst {a : Addr} {x : Vl} (r : VlR K W (.ref a) x) : ItR K W (Itl K a) (.lst x) := by
  intro W' H M i l R
  simp only [ISrc.step]
  cases e : lsD M x with
  | none => exact ⟨fun h => (by cases h), fun x h => (by cases h)⟩
  | some xs =>
    obtain ⟨a', vs, ea, hp, hd⟩ := lsD_ok R (r.mono l) e
    cases ea
    cases e2 : xs[i]? with
    | none => exact ⟨fun _ => ⟨vs, hp, none_len hd e2⟩, fun x h => by simp [e2] at h⟩
    | some d =>
      obtain ⟨w, hw, dw⟩ := hd.get e2
      refine ⟨fun h => by simp [e2] at h, fun y h => ?_⟩
      have ey : y = .d d := by simp [e2] at h; exact h.symm
      subst ey
      refine ⟨⟨vs, w, hp, hw⟩, fun v H' q => ?_⟩
      obtain ⟨rfl, q⟩ := q
      have := q vs hp
      rw [hw] at this
      cases this
      exact ⟨W', Wd.le.refl _, R, dw⟩
theorem itr_tup {a : Addr} {x : Vl} (r : VlR K W (.ref a) x) : ItR K W (Itt K a) (.tup x) := by
  intro W' H M i l R
  simp only [ISrc.step]
  cases e : tpD M x with
  | none => exact ⟨fun h => (by cases h), fun x h => (by cases h)⟩
  | some xs =>
    obtain ⟨a', vs, ea, hp, hd⟩ := tpD_ok R (r.mono l) e
    cases ea
    cases e2 : xs[i]? with
    | none => exact ⟨fun _ => ⟨vs, hp, none_len hd e2⟩, fun x h => by simp [e2] at h⟩
    | some d =>
      obtain ⟨w, hw, dw⟩ := hd.get e2
      refine ⟨fun h => by simp [e2] at h, fun y h => ?_⟩
      have ey : y = .d d := by simp [e2] at h; exact h.symm
      subst ey
      refine ⟨⟨vs, w, hp, hw⟩, fun v H' q => ?_⟩
      obtain ⟨rfl, q⟩ := q
      have := q vs hp
      rw [hw] at this
      cases this
      exact ⟨W', Wd.le.refl _, R, dw⟩
theorem itr_rng (lo : Int) (n : Nat) : ItR K W (Itr lo n) (.rng lo n) := by
  intro W' H M i l R
  simp only [ISrc.step]
  by_cases h : i < n
  · rw [if_pos h]
    refine ⟨fun h => (by cases h), fun y e => ?_⟩
    cases e
    refine ⟨h, fun v H' q => ?_⟩
    obtain ⟨rfl, rfl⟩ := q
    exact ⟨W', Wd.le.refl _, R, .int _⟩
  · rw [if_neg h]
    exact ⟨fun _ => Nat.le_of_not_lt h, fun y e => by cases e⟩
theorem itr_str (z : Str) : ItR K W (Its z) (.str z) := by
  intro W' H M i l R
  simp only [ISrc.step]
  cases e : z.cps[i]? with
  | none => exact ⟨fun _ => Array.getElem?_eq_none_iff.mp e, fun y e => by cases e⟩
  | some c =>
    refine ⟨fun h => (by cases h), fun y h => ?_⟩
    cases h
    refine ⟨(Array.getElem?_eq_some_iff.mp e).1, fun v H' q => ?_⟩
    obtain ⟨rfl, c', ec, rfl⟩ := q
    rw [e] at ec
    cases ec
    exact ⟨W', Wd.le.refl _, R, .str _⟩
theorem itr_zipL {a b : Addr} {x y : Vl} (r : VlR K W (.ref a) x) (r' : VlR K W (.ref b) y) : ItR K W (Itz K a b) (.zipL x y) := by
  intro W' H M i l R
  simp only [ISrc.step]
  cases e : lsD M x with
  | none => exact ⟨fun h => (by cases h), fun x h => (by cases h)⟩
  | some xs =>
    cases e' : lsD M y with
    | none => exact ⟨fun h => (by cases h), fun x h => (by cases h)⟩
    | some ys =>
      obtain ⟨a', vs, ea, hp, hd⟩ := lsD_ok R (r.mono l) e
      cases ea
      obtain ⟨a', ws, ea, hq, he⟩ := lsD_ok R (r'.mono l) e'
      cases ea
      simp only [pairAt]
      cases e2 : xs[i]? with
      | none => exact ⟨fun _ => ⟨vs, ws, hp, hq, .inl (none_len hd e2)⟩, fun x h => by cases h⟩
      | some d =>
        cases e3 : ys[i]? with
        | none => exact ⟨fun _ => ⟨vs, ws, hp, hq, .inr (none_len he e3)⟩, fun x h => by cases h⟩
        | some d' =>
          obtain ⟨w, hw, dw⟩ := hd.get e2
          obtain ⟨u, hu, du⟩ := he.get e3
          refine ⟨fun h => (by cases h), fun y h => ?_⟩
          cases h
          refine ⟨⟨vs, ws, w, u, hp, hq, hw, hu⟩, fun v H' q => ?_⟩
          obtain ⟨T, w', u', rfl, hT, rfl, q1, q2⟩ := q
          have h1 := q1 vs (hp)
          have h2 := q2 ws (hq)
          rw [hw] at h1
          rw [hu] at h2
          cases h1
          cases h2
          obtain ⟨R3, l3, d3⟩ := R.mkT hT (.cons dw (.cons du .nil))
          exact ⟨_, l3, R3, d3⟩
theorem itr_zipT {a b : Addr} {x y : Vl} (r : VlR K W (.ref a) x) (r' : VlR K W (.ref b) y) : ItR K W (RZ.ItzT K a b) (.zipT x y) := by
  intro W' H M i l R
  simp only [ISrc.step]
  cases e : tpD M x with
  | none => exact ⟨fun h => (by cases h), fun x h => (by cases h)⟩
  | some xs =>
    cases e' : tpD M y with
    | none => exact ⟨fun h => (by cases h), fun x h => (by cases h)⟩
    | some ys =>
      obtain ⟨a', vs, ea, hp, hd⟩ := tpD_ok R (r.mono l) e
      cases ea
      obtain ⟨a', ws, ea, hq, he⟩ := tpD_ok R (r'.mono l) e'
      cases ea
      simp only [pairAt]
      cases e2 : xs[i]? with
      | none => exact ⟨fun _ => ⟨vs, ws, hp, hq, .inl (none_len hd e2)⟩, fun x h => by cases h⟩
      | some d =>
        cases e3 : ys[i]? with
        | none => exact ⟨fun _ => ⟨vs, ws, hp, hq, .inr (none_len he e3)⟩, fun x h => by cases h⟩
        | some d' =>
          obtain ⟨w, hw, dw⟩ := hd.get e2
          obtain ⟨u, hu, du⟩ := he.get e3
          refine ⟨fun h => (by cases h), fun y h => ?_⟩
          cases h
          refine ⟨⟨vs, ws, w, u, hp, hq, hw, hu⟩, fun v H' q => ?_⟩
          obtain ⟨T, w', u', rfl, hT, rfl, q1, q2⟩ := q
          have h1 := q1 vs hp
          have h2 := q2 ws hq
          rw [hw] at h1
          rw [hu] at h2
          cases h1
          cases h2
          obtain ⟨R3, l3, d3⟩ := R.mkT hT (.cons dw (.cons du .nil))
          exact ⟨_, l3, R3, d3⟩
theorem itr_enu {a : Addr} {x : Vl} (r : VlR K W (.ref a) x) : ItR K W (Ite K a) (.enu x) := by
  intro W' H M i l R
  simp only [ISrc.step]
  cases e : lsD M x with
  | none => exact ⟨fun h => (by cases h), fun x h => (by cases h)⟩
  | some xs =>
    obtain ⟨a', vs, ea, hp, hd⟩ := lsD_ok R (r.mono l) e
    cases ea
    cases e2 : xs[i]? with
    | none => exact ⟨fun _ => ⟨vs, hp, none_len hd e2⟩, fun x h => by simp [e2] at h⟩
    | some d =>
      obtain ⟨w, hw, dw⟩ := hd.get e2
      refine ⟨fun h => by simp [e2] at h, fun y h => ?_⟩
      have ey : y = .d (.tuple [.int (i : Nat), d]) := by simp [e2] at h; exact h.symm
      subst ey
      refine ⟨⟨vs, w, hp, hw⟩, fun v H' q => ?_⟩
      obtain ⟨T, w', rfl, hT, rfl, q1⟩ := q
      have h1 := q1 vs (hp)
      rw [hw] at h1
      cases h1
      obtain ⟨R3, l3, d3⟩ := R.mkT hT (.cons (.int (i : Nat)) (.cons dw .nil))
      exact ⟨_, l3, R3, d3⟩
end
abbrev Ev0S := Rho → Sto → Out ISrc
def srcOf (x : Vl) (M : Sto) : Out ISrc := match peek M x with
  | some (.list _) => .ok (.lst x) M
  | some (.tuple _) => .ok (.tup x) M
  | some (.str z) => .ok (.str z) M
  | _ => .bad
def giVal (g : Ev0 Vl) : Ev0S := fun ρ M => (g ρ M).bind fun x M1 => srcOf x M1
def giRng1 (g : Ev0 (List Vl)) : Ev0S := fun ρ M => (g ρ M).bind fun xs M1 => match xs with
  | [.d (.int j)] => if -(2 ^ 62) ≤ j ∧ j < 2 ^ 62 then .ok (.rng 0 j.toNat) M1 else .bad
  | _ => .bad
def giRng2 (g : Ev0 (List Vl)) : Ev0S := fun ρ M => (g ρ M).bind fun xs M1 => match xs with
  | [.d (.int i), .d (.int j)] => if -(2 ^ 62) ≤ i ∧ i < 2 ^ 62 ∧ -(2 ^ 62) ≤ j ∧ j < 2 ^ 62 then .ok (.rng i (j - i).toNat) M1 else .bad
  | _ => .bad
def giZip (g : Ev0 (List Vl)) : Ev0S := fun ρ M => (g ρ M).bind fun xs M1 => match xs with
  | [x, y] => (match peek M1 x, peek M1 y with
    | some (.list _), some (.list _) => .ok (.zipL x y) M1
    | some (.tuple _), some (.tuple _) => .ok (.zipT x y) M1
    | _, _ => .bad)
  | _ => .bad
def giEnu (g : Ev0 (List Vl)) : Ev0S := fun ρ M => (g ρ M).bind fun xs M1 => match xs with
  | [x] => (match peek M1 x with
    | some (.list _) => .ok (.enu x) M1
    | _ => .bad)
  | _ => .bad
abbrev SIt (X : Cx) (W0 : WX) (tg e : Expr) (g : Ev0S) : Prop := PI X tg e (aIt X.K W0 g)
section
variable {X : Cx} {W0 : WX} {a b tg : Expr} {ga : Ev0 Vl} {g : Ev0 (List Vl)} {p pos tpos : Pos}
theorem sit_val (ha : SE X W0 a ga) : SIt X W0 tg a (giVal ga) := by
  have hl : PE X a (aE X.K W0 ga) := ha
  have h2 : PI X tg a (fun σ H R => (iList X.K (aE X.K W0 ga) σ H R ∨ iTup X.K (aE X.K W0 ga) σ H R) ∨ iStr (aE X.K W0 ga) σ H R) := PI.or (PI.or (pi_list hl) (pi_tup hl)) (pi_str hl)
  have key : ∀ σ H R, aIt X.K W0 (giVal ga) σ H R → (iList X.K (aE X.K W0 ga) σ H R ∨ iTup X.K (aE X.K W0 ga) σ H R) ∨ iStr (aE X.K W0 ga) σ H R := by
    intro σ H Q h
    obtain ⟨ρ, M, W, R, S, P⟩ := h
    have P' := P
    simp only [giVal] at P'
    cases eo : ga ρ M with
    | bad => rw [eo] at P'; exact P'.elim
    | exc x M1 =>
      refine .inl (.inl ⟨ρ, M, W, R, S, ?_⟩)
      rw [eo] at P' ⊢
      exact P'
    | ok x M1 =>
      rw [eo] at P'
      have P' : Post (ItR X.K) X.K W0 W σ (srcOf x M1) Q := P'
      have fin : ∀ Q', (∀ v H1 W1, W.le W1 → RelM X.K W1 H1 M1 → VlR X.K W1 v x → Q' v H1) → aE X.K W0 ga σ H Q' := fun Q' h => ⟨ρ, M, W, R, S, by rw [eo]; exact h⟩
      unfold srcOf at P'
      cases ep : peek M1 x with
      | none => rw [ep] at P'; exact P'.elim
      | some d =>
        rw [ep] at P'
        cases d with
        | list xs =>
          refine .inl (.inl (fin _ fun v H1 W1 l1 R1 r1 => ?_))
          obtain ⟨p, vs, rfl, hp, hd⟩ := (peek_pk R1 r1 ep).list R1
          exact ⟨p, rfl, ⟨vs, hp⟩, P' _ _ W1 l1 R1 (itr_lst r1)⟩
        | tuple xs =>
          refine .inl (.inr (fin _ fun v H1 W1 l1 R1 r1 => ?_))
          obtain ⟨p, vs, rfl, _, hp, hd⟩ := (peek_pk R1 r1 ep).tuple R1
          exact ⟨p, rfl, ⟨vs, hp⟩, P' _ _ W1 l1 R1 (itr_tup r1)⟩
        | str z =>
          refine .inr (fin _ fun v H1 W1 l1 R1 r1 => ?_)
          obtain rfl := (peek_pk R1 r1 ep).str
          exact ⟨z, rfl, P' _ _ W1 l1 R1 (itr_str z)⟩
        | _ => exact P'.elim
  exact PI.mono h2 key
theorem sit_rng1 (hg : Gl X "range") (hm : X.mg "range" = none) (ha : SA X W0 [a] g) (hs : notStar a = true) : SIt X W0 tg (.Call (.Name "range" p) [a] [] pos) (giRng1 g) := by
  refine PI.mono (pi_range1 hg hm ha (by rw [star_one hs]; rfl)) fun σ H Q h => ?_
  obtain ⟨ρ, M, W, R, S, P⟩ := h
  refine ⟨ρ, M, W, R, S, post_bind P fun vs H1 W1 M1 xs e l1 R1 r1 P1 => ?_⟩
  split at P1
  · rename_i j
    obtain ⟨v, rfl, r⟩ := vlsR_one r1
    cases r
    obtain ⟨h, P2⟩ := if_post P1
    exact ⟨j, rfl, h.1, h.2, P2 _ _ W1 (Wd.le.refl _) R1 (itr_rng _ _)⟩
  · exact P1.elim
theorem sit_rng2 (hg : Gl X "range") (hm : X.mg "range" = none) (ha : SA X W0 [a, b] g) (hs : notStar a = true) (hs' : notStar b = true) : SIt X W0 tg (.Call (.Name "range" p) [a, b] [] pos) (giRng2 g) := by
  refine PI.mono (pi_range2 hg hm ha (by rw [star_one hs, star_one hs']; rfl) (by rw [star_one hs']; rfl)) fun σ H Q h => ?_
  obtain ⟨ρ, M, W, R, S, P⟩ := h
  refine ⟨ρ, M, W, R, S, post_bind P fun vs H1 W1 M1 xs e l1 R1 r1 P1 => ?_⟩
  split at P1
  · rename_i i j
    obtain ⟨v, w, rfl, r, r'⟩ := vlsR_two r1
    cases r
    cases r'
    obtain ⟨h, P2⟩ := if_post P1
    exact ⟨i, j, rfl, h, P2 _ _ W1 (Wd.le.refl _) R1 (itr_rng _ _)⟩
  · exact P1.elim
theorem sit_zip {elts : List Expr} {kk : Nat} (hg : Gl X "zip") (hm : X.mg "zip" = none) (ha : SA X W0 [a, b] g) (hs : notStar a = true) (hs' : notStar b = true) : SIt X W0 (.Tuple elts kk tpos) (.Call (.Name "zip" p) [a, b] [] pos) (giZip g) := by
  refine PI.mono (RZ.pi_zipA hg hm ha (star_one hs _ _) (star_none _ _ _ (by simp [hs']))) fun σ H Q h => ?_
  obtain ⟨ρ, M, W, R, S, P⟩ := h
  refine ⟨ρ, M, W, R, S, post_bind P fun vs H1 W1 M1 xs e l1 R1 r1 P1 => ?_⟩
  split at P1
  · rename_i x y
    obtain ⟨v, w, rfl, r, r'⟩ := vlsR_two r1
    split at P1
    · rename_i xs ys e1 e2
      obtain ⟨p, vs, rfl, hp, hd⟩ := (peek_pk R1 r e1).list R1
      obtain ⟨q, ws, rfl, hq, he⟩ := (peek_pk R1 r' e2).list R1
      exact ⟨p, q, vs, ws, rfl, .inl ⟨hp, hq, P1 _ _ W1 (Wd.le.refl _) R1 (itr_zipL r r')⟩⟩
    · rename_i xs ys e1 e2
      obtain ⟨p, vs, rfl, _, hp, hd⟩ := (peek_pk R1 r e1).tuple R1
      obtain ⟨q, ws, rfl, _, hq, he⟩ := (peek_pk R1 r' e2).tuple R1
      exact ⟨p, q, vs, ws, rfl, .inr ⟨hp, hq, P1 _ _ W1 (Wd.le.refl _) R1 (itr_zipT r r')⟩⟩
    · exact P1.elim
  · exact P1.elim
theorem sit_enu {elts : List Expr} {kk : Nat} (hg : Gl X "enumerate") (hm : X.mg "enumerate" = none) (ha : SA X W0 [a] g) (hs : notStar a = true) : SIt X W0 (.Tuple elts kk tpos) (.Call (.Name "enumerate" p) [a] [] pos) (giEnu g) := by
  refine PI.mono (pi_enum hg hm ha (by rw [star_one hs]; rfl)) fun σ H Q h => ?_
  obtain ⟨ρ, M, W, R, S, P⟩ := h
  refine ⟨ρ, M, W, R, S, post_bind P fun vs H1 W1 M1 xs e l1 R1 r1 P1 => ?_⟩
  split at P1
  · rename_i x
    obtain ⟨v, rfl, r⟩ := vlsR_one r1
    split at P1
    · rename_i xs e1
      obtain ⟨p, vs, rfl, hp, hd⟩ := (peek_pk R1 r e1).list R1
      exact ⟨p, vs, rfl, hp, P1 _ _ W1 (Wd.le.refl _) R1 (itr_enu r)⟩
    · exact P1.elim
  · exact P1.elim
end
end Ev

namespace Ev
open PySem PySem.Spec PyProof.Rows L2

/-! ### statements -/
abbrev EvS := Rho → Sto → OutS
def gsSet (i : Nat) (g : Ev0 Vl) : EvS := fun ρ M => bindS ρ (g ρ M) fun x M1 => .nx (ρ.set i (some x)) M1
def gsTgt (t : TgV) (g : Ev0 Vl) : EvS := fun ρ M => bindS ρ (g ρ M) fun x M1 => match t x ρ M1 with
  | some ρ' => .nx ρ' M1
  | none => .bad
def gsPar (i j : Nat) (g : Ev0 (List Vl)) : EvS := fun ρ M => bindS ρ (g ρ M) fun xs M1 => match xs with
  | [x, y] => .nx ((ρ.set i (some x)).set j (some y)) M1
  | _ => .bad
def gsExp (g : Ev0 Vl) : EvS := fun ρ M => bindS ρ (g ρ M) fun _ M1 => .nx ρ M1
def gsRet (g : Ev0 Vl) : EvS := fun ρ M => bindS ρ (g ρ M) fun x M1 => .rt x M1
def gsRetN : EvS := fun _ M => .rt (.d .none) M
def gsIf (c : Ev0 Bool) (a b : EvS) : EvS := fun ρ M => bindS ρ (c ρ M) fun k M1 => if k then a ρ M1 else b ρ M1
def gsNil : EvS := fun ρ M => .nx ρ M
def gsSeq (a b : EvS) : EvS := fun ρ M => (a ρ M).then b
def gsBrk : EvS := fun ρ M => .bk ρ M
def gsCont : EvS := fun ρ M => .ct ρ M
def gsBad : EvS := fun _ _ => .bad
/-- o[i] = e -/
def putV (x y z : Vl) (M : Sto) : Option Sto := match toD M z with
  | some (d, M1) => (match x with
    | .ref n => (match M1[n]? with
      | some (.lst xs) => (match y with
        | .d (.int i) => (match ixN xs.length i with
          | some j => some (M1.set n (.lst (xs.set j d)))
          | none => none)
        | _ => none)
      | some (.dct kvs) => (match peek M1 y with
        | some k => (match keyD k with
          | some q => if kvs.length < sizeLine then some (M1.set n (.dct (putP kvs q d))) else none
          | none => none)
        | none => none)
      | _ => none)
    | _ => none)
  | none => none
def gsPut (o i e : Ev0 Vl) : EvS := fun ρ M => bindS ρ (e ρ M) fun z M1 => bindS ρ (o ρ M1) fun x M2 => bindS ρ (i ρ M2) fun y M3 => match putV x y z M3 with
  | some M4 => .nx ρ M4
  | none => .bad
def whFuel : Nat := 2 ^ 4000
def whE (c : Ev0 Bool) (b : EvS) : Nat → Rho → Sto → OutS
  | 0, _, _ => .bad
  | k + 1, ρ, M => bindS ρ (c ρ M) fun t M1 => if t then (match b ρ M1 with
    | .nx ρ2 M2 => whE c b k ρ2 M2
    | .ct ρ2 M2 => whE c b k ρ2 M2
    | .bk ρ2 M2 => .nx ρ2 M2
    | o => o) else .nx ρ M1
def gsWh (c : Ev0 Bool) (b : EvS) : EvS := fun ρ M => whE c b whFuel ρ M
def forE (t : TgV) (b : EvS) (src : ISrc) : Nat → Nat → Rho → Sto → OutS
  | 0, _, _, _ => .bad
  | k + 1, i, ρ, M => match src.step i M with
    | none => .bad
    | some none => .nx ρ M
    | some (some x) => (match t x ρ M with
      | none => .bad
      | some ρ1 => (match b ρ1 M with
        | .nx ρ2 M2 => forE t b src k (i + 1) ρ2 M2
        | .ct ρ2 M2 => forE t b src k (i + 1) ρ2 M2
        | .bk ρ2 M2 => .nx ρ2 M2
        | o => o))
def gsFor (gi : Ev0S) (t : TgV) (b : EvS) : EvS := fun ρ M => bindS ρ (gi ρ M) fun src M1 => forE t b src (src.size M1 + 1) 0 ρ M1
section
variable {X : Cx} {W0 : WX} {a b e : Expr} {ga gb : Ev0 Vl} {ca : Ev0 Bool} {pos : Pos} {es : List Expr} {g : Ev0 (List Vl)} {s1 s2 : EvS} {st : Stmt} {sts sts' : List Stmt}
theorem ss_set {i : Nat} {x : Str} {p' : Pos} (hN : X.N.Nodup) (hi : X.N[i]? = some x) (hx : Loc X.env.scope x) (ha : SE X W0 a ga) (hs : swapsWith a (some (.Name x p')) pos.line X.env = pure false) (hf : X.fn x = true ∨ X.env.scope.names.lookup x = some .local) : SS X W0 (.Assign [.Name x p'] a pos) (gsSet i ga) := by
  refine PS.mono (ps_set hN hi hx ha hs hf) fun D σ H h => ?_
  obtain ⟨ρ, M, W, R, S, P⟩ := h
  refine ⟨ρ, M, W, R, S, postS_bind S P fun v H1 W1 M1 x e l1 R1 r1 P1 => ?_⟩
  exact P1 _ _ W1 (Wd.le.refl _) R1 ((S.mono l1).set r1 i)
theorem ss_tgt {tg : Expr} {sl : List Nat} {t : TgV} (ha : SE X W0 a ga) (hg : PG X tg (aG X.K sl t)) (hs : swapsWithSole [tg] a pos.line X.env = pure false) (hw : swappedStores [tg] a X.env = pure none) (h1 : notStar tg = true) : SS X W0 (.Assign [tg] a pos) (gsTgt t ga) := by
  refine PS.mono (ps_asg ha hg hs hw (by rw [assign_one h1]; rfl)) fun D σ H h => ?_
  obtain ⟨ρ, M, W, R, S, P⟩ := h
  refine ⟨ρ, M, W, R, S, postS_bind S P fun v H1 W1 M1 x e l1 R1 r1 P1 => ?_⟩
  cases e2 : t x ρ M1 with
  | none => simp only [e2] at P1; exact P1.elim
  | some ρ' =>
    simp only [e2] at P1
    exact ⟨ρ, M1, W1, x, R1, S.mono l1, r1, ρ', e2, fun σ' S' _ => P1 σ' H1 W1 (Wd.le.refl _) R1 S'⟩
theorem sw_par {x y : Str} {px py : Pos} {kt k2 : Nat} {pt pt2 : Pos} {env : Env} (hk : env.scope.kind = .function) (hx : env.scope.names.lookup x = some .local) (hy : env.scope.names.lookup y = some .local) (hl : (py.line == px.line) = true) (hxy : (x == y) = false)
    (hs : [a, b].all notStar = true) (hf : [a, b].all (foldedForSure 8) = false) (hc : [a, b].all (constantsAlone 8) = false) : swappedStores [.Tuple [.Name x px, .Name y py] kt pt] (.Tuple [a, b] k2 pt2) env = pure (some [x, y]) := by
  have kx : env.kindOf x = some .local := hx
  have ky : env.kindOf y = some .local := hy
  have hb : env.blockKind = .function := by unfold Env.blockKind; rw [hk]; rfl
  have hl' : py.line = px.line := by simpa using hl
  rw [List.all_cons, List.all_cons, List.all_nil, Bool.and_true, Bool.and_eq_true] at hs
  have z : ∀ c : Expr, notStar c = true → (match c with | .Starred .. => true | _ => false) = false := fun c h => by cases c <;> first | rfl | cases h
  have za := z a hs.1
  have zb := z b hs.2
  have hf' : ¬ ∀ x ∈ [a, b], foldedForSure 8 x = true := fun h => by rw [List.all_eq_true.mpr h] at hf; cases hf
  have hc' : ¬ ∀ x ∈ [a, b], constantsAlone 8 x = true := fun h => by rw [List.all_eq_true.mpr h] at hc; cases hc
  have ed : ([x, y] : List Str).eraseDups = [x, y] := by
    have hyx : (y == x) = false := by
      cases h : y == x with
      | false => rfl
      | true =>
        have e : y = x := by simpa using h
        subst e
        simp at hxy
    simp [List.eraseDups, List.eraseDupsBy, List.eraseDupsBy.loop, hyx]
  unfold swappedStores
  have hfm : ([Expr.Name x px, Expr.Name y py].filterMap fun
    | .Name id pos => if env.kindOf id == some .local && pos.line == px.line then some id else none
    | _ => none) = [x, y] := by
    simp [List.filterMap_cons, kx, ky, hl']
  simp only [List.length_cons, List.length_nil, hb, List.head?_cons, Option.map_some, Option.getD_some, Expr.pos, List.any_cons, List.any_nil, hf, hc]
  generalize hF : List.filterMap _ [Expr.Name x px, Expr.Name y py] = L
  have hL : L = [x, y] := hF.symm.trans hfm
  subst hL
  rw [ed]
  refine (if_neg (by decide)).trans ((if_neg fun h => ?_).trans ((if_neg (by simp)).trans ((if_neg (by decide)).trans ((if_neg (by decide)).trans rfl))))
  rw [Bool.or_false] at h
  rcases Bool.or_eq_true_iff.mp h with h | h
  · exact Bool.noConfusion (za.symm.trans h)
  · exact Bool.noConfusion (zb.symm.trans h)
theorem ss_par {i j : Nat} {x y : Str} {px py pt : Pos} {kt k2 pt2} (hc : X.calm = true) (hN : X.N.Nodup) (hi : X.N[i]? = some x) (hj : X.N[j]? = some y) (hij : i ≠ j) (hx : X.env.scope.names.lookup x = some .local) (hy : X.env.scope.names.lookup y = some .local) (ha : SA X W0 [a, b] g)
    (hw : swappedStores [.Tuple [.Name x px, .Name y py] kt pt] (.Tuple [a, b] k2 pt2) X.env = pure (some [x, y])) : SS X W0 (.Assign [.Tuple [.Name x px, .Name y py] kt pt] (.Tuple [a, b] k2 pt2) pos) (gsPar i j g) := by
  refine PS.mono (ps_par hc hN hi hj hij hx hy ha hw rfl) fun D σ H h => ?_
  obtain ⟨ρ, M, W, R, S, P⟩ := h
  refine ⟨ρ, M, W, R, S, postS_bind S P fun vs H1 W1 M1 xs e l1 R1 r1 P1 => ?_⟩
  split at P1
  · rename_i x y
    obtain ⟨v, w, rfl, r, r'⟩ := vlsR_two r1
    exact ⟨v, w, rfl, P1 _ _ W1 (Wd.le.refl _) R1 (((S.mono l1).set r i).set r' j)⟩
  · exact P1.elim
theorem ss_expr (ha : SE X W0 a ga) (hs : swapsWith a none pos.line X.env = pure false) : SS X W0 (.Expr a pos) (gsExp ga) := by
  refine PS.mono (ps_expr ha hs) fun D σ H h => ?_
  obtain ⟨ρ, M, W, R, S, P⟩ := h
  refine ⟨ρ, M, W, R, S, postS_bind S P fun v H1 W1 M1 x e l1 R1 r1 P1 => ?_⟩
  exact P1 _ _ W1 (Wd.le.refl _) R1 (S.mono l1)
theorem ss_ret (ha : SE X W0 a ga) : SS X W0 (.Return (some a) pos) (gsRet ga) := by
  refine PS.mono (ps_ret ha) fun D σ H h => ?_
  obtain ⟨ρ, M, W, R, S, P⟩ := h
  refine ⟨ρ, M, W, R, S, postS_bind S P fun v H1 W1 M1 x e l1 R1 r1 P1 => ?_⟩
  exact P1 _ _ W1 (Wd.le.refl _) R1 r1
theorem ss_retN : SS X W0 (.Return none pos) gsRetN := by
  refine PS.mono ps_retN fun D σ H h => ?_
  obtain ⟨ρ, M, W, R, S, P⟩ := h
  exact P _ _ W (Wd.le.refl _) R .non
theorem ss_if (hc : ST X W0 a ca) (h1 : SSs X W0 sts s1) (h2 : SSs X W0 sts' s2) : SS X W0 (.If a sts sts' pos) (gsIf ca s1 s2) := by
  refine PS.mono (ps_if hc h1 h2) fun D σ H h => ?_
  obtain ⟨ρ, M, W, R, S, P⟩ := h
  refine ⟨ρ, M, W, R, S, postS_bind S P fun v H1 W1 M1 x e l1 R1 r1 P1 => ?_⟩
  have r1 : v = x := r1
  subst r1
  cases v with
  | true => exact ⟨ρ, M1, W1, R1, S.mono l1, P1⟩
  | false => exact ⟨ρ, M1, W1, R1, S.mono l1, P1⟩
theorem ss_pass : SS X W0 (.Pass pos) gsNil := by
  refine PS.mono ps_pass fun D σ H h => ?_
  obtain ⟨ρ, M, W, R, S, P⟩ := h
  exact P σ H W (Wd.le.refl _) R S
theorem ss_brk : SS X W0 (.Break pos) gsBrk := by
  refine PS.mono ps_break fun D σ H h => ?_
  obtain ⟨ρ, M, W, R, S, P⟩ := h
  exact P σ H W (Wd.le.refl _) R S
theorem ss_cont : SS X W0 (.Continue pos) gsCont := by
  refine PS.mono ps_continue fun D σ H h => ?_
  obtain ⟨ρ, M, W, R, S, P⟩ := h
  exact P σ H W (Wd.le.refl _) R S
theorem ss_bad : SS X W0 st gsBad := ⟨fun _ _ _ _ _ _ ⟨_, _, _, _, _, P⟩ => P.elim⟩
theorem sss_nil : SSs X W0 [] gsNil := by
  refine PSs.mono pss_nil fun D σ H h => ?_
  obtain ⟨ρ, M, W, R, S, P⟩ := h
  exact P σ H W (Wd.le.refl _) R S
theorem postS_then {K : PySem.W.Frag} {W : Wd} {o : OutS} {k : Rho → Sto → OutS} {D : Ends} {N : L2.St → Hp → Prop} (P : PostS K W0 W (o.then k) D)
    (hN : ∀ ρ M σ H W1, o = .nx ρ M → W.le W1 → RelM K W1 H M → SltR K W1 σ ρ → PostS K W0 W1 (k ρ M) D → N σ H) : PostS K W0 W o { D with nx := N } := by
  cases o with
  | nx ρ M => exact fun σ H W1 l1 R1 S1 => hN ρ M σ H W1 rfl l1 R1 S1 (PostS.mono l1 P)
  | _ => exact P
theorem sss_cons (h1 : SS X W0 st s1) (h2 : SSs X W0 sts s2) : SSs X W0 (st :: sts) (gsSeq s1 s2) := by
  refine PSs.mono (pss_cons h1 h2) fun D σ H h => ?_
  obtain ⟨ρ, M, W, R, S, P⟩ := h
  exact ⟨ρ, M, W, R, S, postS_then P fun ρ1 M1 σ1 H1 W1 _ l1 R1 S1 P1 => ⟨ρ1, M1, W1, R1, S1, P1⟩⟩
/-- a loop's body -/
theorem postS_body {K : PySem.W.Frag} {W : Wd} {o : OutS} {k : Rho → Sto → OutS} {D : Ends} {N : L2.St → Hp → Prop}
    (P : PostS K W0 W (match o with | .nx ρ2 M2 => k ρ2 M2 | .ct ρ2 M2 => k ρ2 M2 | .bk ρ2 M2 => .nx ρ2 M2 | o => o) D)
    (hN : ∀ ρ M σ H W1, W.le W1 → RelM K W1 H M → SltR K W1 σ ρ → PostS K W0 W1 (k ρ M) D → N σ H) : PostS K W0 W o { D with nx := N, ct := N, bk := D.nx } := by
  cases o with
  | nx ρ M => exact fun σ H W1 l1 R1 S1 => hN ρ M σ H W1 l1 R1 S1 (PostS.mono l1 P)
  | ct ρ M => exact fun σ H W1 l1 R1 S1 => hN ρ M σ H W1 l1 R1 S1 (PostS.mono l1 P)
  | _ => exact P
theorem ss_while (hp : PassesOwn (model X.prog X.w) X.A X.env X.xe) (hc : ST X W0 a ca) (hb : SSs X W0 sts s1) : SS X W0 (.While a sts [] pos) (gsWh ca s1) := by
  refine PS.mono (ps_while hp hc hb) fun D σ H h => ?_
  obtain ⟨ρ, M, W, R, S, P⟩ := h
  refine ⟨fun m σ H => ∃ ρ M W, RelM X.K W H M ∧ SltR X.K W σ ρ ∧ PostS X.K W0 W (whE ca s1 m ρ M) D, ⟨whFuel, ρ, M, W, R, S, P⟩, ?_⟩
  rintro m σ H ⟨ρ, M, W, R, S, P⟩
  cases m with
  | zero => exact P.elim
  | succ m =>
    refine ⟨ρ, M, W, R, S, postS_bind S P fun v H1 W1 M1 x e l1 R1 r1 P1 => ?_⟩
    have r1 : v = x := r1
    subst r1
    cases v with
    | false => exact P1 σ H1 W1 (Wd.le.refl _) R1 (S.mono l1)
    | true =>
      refine ⟨fun σ H => ∃ ρ M W, RelM X.K W H M ∧ SltR X.K W σ ρ ∧ PostS X.K W0 W (whE ca s1 m ρ M) D, fun σ' H' h => ⟨m, Nat.lt_succ_self _, h⟩, ρ, M1, W1, R1, S.mono l1, ?_⟩
      exact postS_body (k := whE ca s1 m) P1 fun ρ2 M2 σ2 H2 W2 l2 R2 S2 P2 => ⟨ρ2, M2, W2, R2, S2, P2⟩
theorem ss_for {tg iter : Expr} {gi : Ev0S} {sl : List Nat} {t : TgV} (hp : PassesOwn (model X.prog X.w) X.A X.env X.xe) (hc : X.calm = true) (hi : SIt X W0 tg iter gi) (hg : PG X tg (aG X.K sl t)) (hb : SSs X W0 sts s1) (hs : ∀ x, foldedSetIterable iter X.env x = pure x) :
    SS X W0 (.For tg iter sts [] pos) (gsFor gi t s1) := by
  refine PS.mono (ps_for hp hc hi hg hb hs) fun D σ H h => ?_
  obtain ⟨ρ, M, W, R, S, P⟩ := h
  refine ⟨ρ, M, W, R, S, postS_bind S P fun J H1 W1 M1 src e l1 R1 r1 P1 => ?_⟩
  refine ⟨fun i m σ H => ∃ ρ M W, W1.le W ∧ RelM X.K W H M ∧ SltR X.K W σ ρ ∧ PostS X.K W0 W (forE t s1 src m i ρ M) D, ⟨src.size M1 + 1, ρ, M1, W1, Wd.le.refl _, R1, S.mono l1, P1⟩, ?_⟩
  rintro i m σ H ⟨ρ, M, W, l, R, S, P⟩
  cases m with
  | zero => exact P.elim
  | succ m =>
    have hj := r1 W H M i l R
    simp only [forE] at P
    cases e1 : src.step i M with
    | none => simp only [e1] at P; exact P.elim
    | some o =>
      cases o with
      | none =>
        simp only [e1] at P
        exact .inl ⟨hj.1 e1, P σ H W (Wd.le.refl _) R S⟩
      | some x =>
        simp only [e1] at P
        obtain ⟨hgo, hy⟩ := hj.2 x e1
        refine .inr ⟨hgo, fun σ H => ∃ ρ M W, W1.le W ∧ RelM X.K W H M ∧ SltR X.K W σ ρ ∧ PostS X.K W0 W (forE t s1 src m (i + 1) ρ M) D, fun σ' H' h => ⟨m, Nat.lt_succ_self _, h⟩, fun v H' y => ?_⟩
        obtain ⟨W2, l2, R2, r2⟩ := hy v H' y
        cases e2 : t x ρ M with
        | none => simp only [e2] at P; exact P.elim
        | some ρ1 =>
          simp only [e2] at P
          refine ⟨ρ, M, W2, x, R2, S.mono l2, r2, ρ1, e2, fun σ' S' _ => ⟨ρ1, M, W2, R2, S', ?_⟩⟩
          exact postS_body (k := forE t s1 src m (i + 1)) (PostS.mono l2 P) fun ρ2 M2 σ2 H2 W3 l3 R3 S3 P3 => ⟨ρ2, M2, W3, (l.trans l2).trans l3, R3, S3, P3⟩
/-! #### o[i] = e -/
def aPut (K : PySem.W.Frag) : TSet := fun o i v H Q => ∃ (W : Wd) (M : Sto) (x y z : Vl), RelM K W H M ∧ VlR K W o x ∧ VlR K W i y ∧ VlR K W v z ∧ ∃ M', putV x y z M = some M' ∧ ∀ H' W', W.le W' → RelM K W' H' M' → Q H'
theorem set_V (hu : X.A.units + 1 < cLine) : PSet X (aPut X.K) := by
  intro pins s σ H o i v ov iv u Q I ro ri rv h
  obtain ⟨W, M, x, y, z, R, r1, r2, r3, M', e, q⟩ := h
  simp only [putV] at e
  cases e1 : toD M z with
  | none => rw [e1] at e; cases e
  | some p =>
    obtain ⟨d, M1⟩ := p
    simp only [e1] at e
    obtain ⟨W1, l1, R1, dz⟩ := toD_dp R r3 e1
    cases x with
    | d _ => cases e
    | ref n =>
      simp only at e
      obtain ⟨a, rfl, hm⟩ := r1
      have hm1 := l1.at hm
      cases e2 : M1[n]? with
      | none => rw [e2] at e; cases e
      | some cl =>
        cases cl with
        | frz _ => rw [e2] at e; cases e
        | lst xs =>
          rw [e2] at e
          simp only at e
          obtain ⟨hz, vs, hH, hd⟩ := cell_lst R1 hm1 e2
          cases y with
          | ref _ => cases e
          | d w =>
            cases w with
            | int k =>
              simp only at e
              cases r2
              cases e3 : ixN xs.length k with
              | none => rw [e3] at e; cases e
              | some j =>
                rw [e3] at e
                cases e
                exact set_list pins s σ H _ _ v ov iv u Q I ro ri rv ⟨a, vs, k, j, rfl, rfl, hH, by rw [hd.length]; exact e3, q _ W1 l1 (set_lst R1 hm1 hz (DqAll.set dz j hd))⟩
            | _ => cases e
        | dct kvs =>
          rw [e2] at e
          simp only at e
          obtain ⟨hz, vs, hH, hd⟩ := cell_dct R1 hm1 e2
          cases e3 : peek M1 y with
          | none => rw [e3] at e; cases e
          | some k =>
            simp only [e3] at e
            cases e4 : keyD k with
            | none => rw [e4] at e; cases e
            | some kq =>
              simp only [e4] at e
              split at e
              · rename_i hlt
                cases e
                obtain rfl := keyD_ok (peek_pk R1 (r2.mono l1) e3) e4
                obtain rfl : ov = Value.ref a := ro
                refine d_setItem hu I (DPut.k hH (by rw [kv_len hd]; exact hlt)) ri rv fun s' I' => ⟨_, I', q _ W1 l1 (set_dct R1 hm1 hz (kv_put kq dz hd))⟩
              · cases e
theorem ss_put {o i : Expr} {go gi : Ev0 Vl} {p' : Pos} (hu : X.A.units + 1 < cLine) (ho : SE X W0 o go) (hi : SE X W0 i gi) (ha : SE X W0 a ga) (hs : swapsWithSole [.Subscript o i p'] a pos.line X.env = pure false) (hsub : ∀ v, assign (.Subscript o i p') X.env v = (do
      let ov ← holding [v] (eval o X.env)
      let iv ← holding [v, ov] (eval i X.env)
      standAt p'
      holding [v, ov, iv] (setItem ov iv v)
      release [v, ov, iv] [])) : SS X W0 (.Assign [.Subscript o i p'] a pos) (gsPut go gi ga) := by
  refine PS.mono (ps_asg ha (pg_sub ho hi (set_V hu) hsub) hs rfl rfl) fun D σ H h => ?_
  obtain ⟨ρ, M, W, R, S, P⟩ := h
  refine ⟨ρ, M, W, R, S, postS_bind S P fun v H1 W1 M1 z e l1 R1 r1 P1 => ?_⟩
  refine ⟨ρ, M1, W1, R1, S.mono l1, postS_bind (S.mono l1) P1 fun ov H2 W2 M2 x e2 l2 R2 r2 P2 => ?_⟩
  refine ⟨ρ, M2, W2, R2, (S.mono l1).mono l2, postS_bind ((S.mono l1).mono l2) P2 fun iv H3 W3 M3 y e3 l3 R3 r3 P3 => ?_⟩
  cases e4 : putV x y z M3 with
  | none => simp only [e4] at P3; exact P3.elim
  | some M4 =>
    simp only [e4] at P3
    exact ⟨W3, M3, x, y, z, R3, r2.mono l3, r3, (r1.mono l2).mono l3, M4, e4, fun H' W' l' R' => P3 σ H' W' l' R' ((((S.mono l1).mono l2).mono l3).mono l')⟩
end
end Ev

namespace Ev
open PySem PySem.Spec PyProof.Rows L2

/-! ### list comprehensions -/
abbrev W0n : WX := fun _ _ _ _ => False
def noX {α : Type} : Out α → Out α
  | .ok a M => .ok a M
  | _ => .bad
def wipeR (ρ : Rho) : List Nat → Rho
  | [] => ρ
  | v :: vs => (wipeR ρ vs).set v none
def addTo (n : Nat) (d : PyData) (M : Sto) : Option Sto := match M[n]? with
  | some (.lst acc) => if acc.length < sizeLine then some (M.set n (.lst (acc ++ [d]))) else none
  | _ => none
def lcE (t : TgV) (c : Ev0 Bool) (e : Ev0 Vl) (ρ0 : Rho) (n : Nat) (src : ISrc) : Nat → Nat → Sto → Out Unit
  | 0, _, _ => .bad
  | k + 1, i, M => match src.step i M with
    | none => .bad
    | some none => .ok () M
    | some (some x) => (match t x ρ0 M with
      | none => .bad
      | some ρ1 => (noX (c ρ1 M)).bind fun b M1 => if b then (noX (e ρ1 M1)).bind fun y M2 => (match toD M2 y with
          | some (d, M3) => (match addTo n d M3 with
            | some M4 => lcE t c e ρ0 n src k (i + 1) M4
            | none => .bad)
          | none => .bad)
        else lcE t c e ρ0 n src k (i + 1) M1)
/-- the new list: to change, or fixed -/
def lcFin (mu : Bool) (n : Nat) (M : Sto) : Out Vl := match M[n]? with
  | some (.lst xs) => if mu then .ok (.ref n) (M.take (n + 1)) else .ok (.d (.list xs)) (M.take n)
  | _ => .bad
def gLc (mu : Bool) (own : List Nat) (gi : Ev0S) (t : TgV) (c : Ev0 Bool) (e : Ev0 Vl) : Ev0 Vl := fun ρ M => (gi ρ M).bind fun src M1 =>
  (lcE t c e (wipeR ρ own) M1.length src (src.size M1 + 1) 0 (M1 ++ [.lst []])).bind fun _ M2 => lcFin mu M1.length M2
theorem wipe_rel {K : PySem.W.Frag} {W : Wd} {σ : L2.St} {ρ : Rho} (S : SltR K W σ ρ) : ∀ vs, SltR K W (wipe σ vs) (wipeR ρ vs)
  | [] => S
  | v :: vs => (wipe_rel S vs).unset v
def gYes : Ev0 Bool := fun _ M => .ok true M
abbrev SW1 (X : Cx) (W0 : WX) (ifs : List Expr) (c : Ev0 Bool) : Prop := PTs X ifs (aT X.K W0 c)
section
variable {X : Cx} {W0 : WX}
theorem st1_nil : SW1 X W0 [] gYes := ⟨fun pins s σ H Q I h => pts_nil.run pins s σ H Q I (by
  obtain ⟨ρ, M, W, R, S, P⟩ := h
  exact P true H W (Wd.le.refl _) R rfl)⟩
theorem st1_one {a : Expr} {c : Ev0 Bool} (h : ST X W0 a c) : SW1 X W0 [a] c := pts_one h
theorem le_take {W1 W2 Wd' : Wd} {D : Addr} (e2 : W2.μ = W1.μ ++ [D]) (l12 : Same W1.Z W2.Z) (l : W2.le Wd') {Z : Hp} (s : Same Wd'.Z Z) : W1.le ⟨Z, Wd'.μ.take W1.μ.length⟩ := by
  obtain ⟨s2, ν, e⟩ := l
  refine ⟨(l12.trans s2).trans s, [], ?_⟩
  show Wd'.μ.take W1.μ.length = W1.μ ++ []
  rw [e, e2, List.append_assoc, List.append_nil, List.take_left]
theorem le_take1 {W1 W2 Wd' : Wd} {D : Addr} (e2 : W2.μ = W1.μ ++ [D]) (l12 : Same W1.Z W2.Z) (l : W2.le Wd') : W1.le ⟨Wd'.Z, Wd'.μ.take (W1.μ.length + 1)⟩ := by
  obtain ⟨s2, ν, e⟩ := l
  refine ⟨l12.trans s2, [D], ?_⟩
  show Wd'.μ.take (W1.μ.length + 1) = W1.μ ++ [D]
  rw [e, e2, show W1.μ.length + 1 = (W1.μ ++ [D]).length by simp, List.take_left]
theorem lc_mono {own : List Nat} {gi : Ev0S} {sl : List Nat} {t : TgV} {c : Ev0 Bool} {e : Ev0 Vl} {mu : Bool} (hsl : ∀ j ∈ sl, j ∈ own) : ∀ σ H Q, aE X.K W0 (gLc mu own gi t c e) σ H Q → tLc (aIt X.K W0 gi) (aG X.K sl t) (aT X.K W0n c) (aE X.K W0n e) own σ H Q := by
  intro σ H Q h
  obtain ⟨ρ, M, W, R, S, P⟩ := h
  refine ⟨ρ, M, W, R, S, post_bind P fun J H1 W1 M1 src e0 l1 R1 r1 P1 D hD => ?_⟩
  obtain ⟨R2, l2, e2⟩ := R1.newM hD (o := .lst []) (c := .lst []) ⟨R1.Znone hD, [], upd_same, .nil⟩
  have S1 := S.mono l1
  have hlen : M1.length = W1.μ.length := R1.len.symm
  refine ⟨fun i m H => ∃ M W, Wd.le ⟨W1.Z, W1.μ ++ [D]⟩ W ∧ RelM X.K W H M ∧ Post (VlR X.K) X.K W0 W1 σ ((lcE t c e (wipeR ρ own) M1.length src m i M).bind fun _ M2 => lcFin mu M1.length M2) Q, ⟨src.size M1 + 1, M1 ++ [.lst []], _, Wd.le.refl _, R2, P1⟩, ?_⟩
  rintro i m H ⟨M, W, l, R, P⟩
  cases m with
  | zero => exact P.elim
  | succ m =>
    have hj := r1 W H M i (l2.trans l) R
    have hDat : W.μ[M1.length]? = some D := l.at e2
    simp only [lcE] at P
    cases e1 : src.step i M with
    | none => simp only [e1] at P; exact P.elim
    | some o =>
      cases o with
      | none =>
        simp only [e1] at P
        refine .inl ⟨hj.1 e1, ?_⟩
        have P : Post (VlR X.K) X.K W0 W1 σ (lcFin mu M1.length M) Q := P
        simp only [lcFin] at P
        cases e3 : M[M1.length]? with
        | none => simp only [e3] at P; exact P.elim
        | some cl =>
          cases cl with
          | dct _ => simp only [e3] at P; exact P.elim
          | frz _ => simp only [e3] at P; exact P.elim
          | lst xs =>
            simp only [e3] at P
            cases mu with
            | true =>
              have P : Post (VlR X.K) X.K W0 W1 σ (.ok (.ref M1.length) (M.take (M1.length + 1))) Q := P
              refine P _ H ⟨W.Z, W.μ.take (M1.length + 1)⟩ ?_ (R.trunc _) ⟨D, rfl, ?_⟩
              · rw [hlen]; exact le_take1 (W1 := W1) (W2 := ⟨W1.Z, W1.μ ++ [D]⟩) (D := D) rfl (Same.refl _) l
              · show (W.μ.take (M1.length + 1))[M1.length]? = some D
                rw [List.getElem?_take_of_lt (Nat.lt_succ_self _)]
                exact hDat
            | false =>
              have P : Post (VlR X.K) X.K W0 W1 σ (.ok (.d (.list xs)) (M.take M1.length)) Q := P
              obtain ⟨W', l', R', d'⟩ := R.freeze hDat e3
              have R2' := R'.trunc M1.length
              have em : (M.set M1.length (.frz (.list xs))).take M1.length = M.take M1.length := by
                rw [List.take_set_of_le (Nat.le_refl _)]
              rw [em] at R2'
              refine P _ H ⟨W'.Z, W'.μ.take M1.length⟩ ?_ R2' d'
              rw [hlen]
              exact le_take (W1 := W1) (W2 := ⟨W1.Z, W1.μ ++ [D]⟩) (D := D) rfl (Same.refl _) (l.trans l') (Same.refl _)
      | some x =>
        simp only [e1] at P
        obtain ⟨hgo, hy⟩ := hj.2 x e1
        refine .inr ⟨hgo, fun H => ∃ M W, Wd.le ⟨W1.Z, W1.μ ++ [D]⟩ W ∧ RelM X.K W H M ∧ Post (VlR X.K) X.K W0 W1 σ ((lcE t c e (wipeR ρ own) M1.length src m (i + 1) M).bind fun _ M2 => lcFin mu M1.length M2) Q, fun H' h => ⟨m, Nat.lt_succ_self _, h⟩, fun v H' y => ?_⟩
        obtain ⟨W2, l3, R3, r3⟩ := hy v H' y
        have Sw : SltR X.K W2 (wipe σ own) (wipeR ρ own) := wipe_rel (((S1.mono l2).mono l).mono l3) own
        cases e3 : t x (wipeR ρ own) M with
        | none => simp only [e3] at P; exact P.elim
        | some ρ1 =>
          simp only [e3] at P
          refine ⟨wipeR ρ own, M, W2, x, R3, Sw, r3, ρ1, e3, fun σ2 S2 o2 => ?_⟩
          refine ⟨(off_wipe o2 hsl).trans (off_wipe (sl := own) ?_ (fun _ h => h)), ρ1, M, W2, R3, S2, ?_⟩
          · refine ⟨wipe_length σ own, fun j hj => ?_⟩
            have key : ∀ (τ : L2.St) (vs : List Nat), j ∉ vs → (wipe τ vs)[j]? = τ[j]? := by
              intro τ vs
              induction vs with
              | nil => exact fun _ => rfl
              | cons v vs ih =>
                intro hn
                show ((wipe τ vs).set v none)[j]? = _
                rw [List.getElem?_set_ne (fun h => hn (by rw [h]; exact List.mem_cons_self))]
                exact ih fun h => hn (List.mem_cons_of_mem _ h)
            exact key σ own hj
          · cases e4 : c ρ1 M with
            | bad => rw [e4] at P; exact P.elim
            | exc _ _ => rw [e4] at P; exact P.elim
            | ok b M2 =>
              rw [e4] at P
              intro b' H3 W3 l4 R4 r4
              have r4 : b' = b := r4
              subst r4
              cases b' with
              | false => exact ⟨M2, W3, (l.trans l3).trans l4, R4, P⟩
              | true =>
                have P : Post (VlR X.K) X.K W0 W1 σ (((noX (e ρ1 M2)).bind fun y M2 => (match toD M2 y with
          | some (d, M3) => (match addTo M1.length d M3 with
            | some M4 => lcE t c e (wipeR ρ own) M1.length src m (i + 1) M4
            | none => .bad)
          | none => .bad)).bind fun _ M2 => lcFin mu M1.length M2) Q := P
                refine ⟨ρ1, M2, W3, R4, S2.mono l4, ?_⟩
                cases e5 : e ρ1 M2 with
                | bad => rw [e5] at P; exact P.elim
                | exc _ _ => rw [e5] at P; exact P.elim
                | ok y M3 =>
                  rw [e5] at P
                  intro z H4 W4 l5 R5 r5
                  have P : Post (VlR X.K) X.K W0 W1 σ ((match toD M3 y with
          | some (d, M3) => (match addTo M1.length d M3 with
            | some M4 => lcE t c e (wipeR ρ own) M1.length src m (i + 1) M4
            | none => .bad)
          | none => .bad).bind fun _ M2 => lcFin mu M1.length M2) Q := P
                  cases e6 : toD M3 y with
                  | none => rw [e6] at P; exact P.elim
                  | some q =>
                    obtain ⟨d, M4⟩ := q
                    simp only [e6] at P
                    obtain ⟨W5, l6, R6, dz⟩ := toD_dp R5 r5 e6
                    have hD5 : W5.μ[M1.length]? = some D := l6.at (l5.at (l4.at (l3.at hDat)))
                    cases e7 : addTo M1.length d M4 with
                    | none => simp only [e7] at P; exact P.elim
                    | some M5 =>
                      simp only [e7] at P
                      simp only [addTo] at e7
                      cases e8 : M4[M1.length]? with
                      | none => rw [e8] at e7; cases e7
                      | some cl =>
                        rw [e8] at e7
                        cases cl with
                        | dct _ => cases e7
                        | frz _ => cases e7
                        | lst acc =>
                          simp only at e7
                          split at e7
                          · rename_i hlt
                            cases e7
                            obtain ⟨hz, vs, hH, hd⟩ := cell_lst R6 hD5 e8
                            exact ⟨vs, hH, by rw [hd.length]; exact hlt, _, W5, ((((l.trans l3).trans l4).trans l5).trans l6), set_lst R6 hD5 hz (hd.append (.cons dz .nil)), P⟩
                          · cases e7
section
variable {elt tg iter : Expr} {ifs : List Expr} {scope : Scope} {own : List (Str × Nat)} {pos : Pos} {gi : Ev0S} {sl : List Nat} {t : TgV} {c : Ev0 Bool} {e : Ev0 Vl} (mu : Bool)
theorem se_lc (hc : X.calm = true) (hN : X.N.Nodup) (hi : SIt X W0 tg iter gi) (ok : BlkOk X.N X.env.scope scope own) (hsl : ∀ j ∈ sl, j ∈ own.map (·.2))
    (hg : ∀ (s : Shared) (H : Hp) (C : Addr) (cl : List (Str × Addr)) (fp : List Addr), PG (X.blk s H scope (compEnvC scope cl C X.env) fp) tg (aG X.K sl t)) (ht : ∀ (s : Shared) (H : Hp) (C : Addr) (cl : List (Str × Addr)) (fp : List Addr), SW1 (X.blk s H scope (compEnvC scope cl C X.env) fp) W0n ifs c)
    (he : ∀ (s : Shared) (H : Hp) (C : Addr) (cl : List (Str × Addr)) (fp : List Addr), SE (X.blk s H scope (compEnvC scope cl C X.env) fp) W0n elt e) (hs : ∀ x, foldedSetIterable iter X.env x = pure x) :
    SE X W0 (.ListComp elt [⟨tg, iter, ifs, 0⟩] scope pos) (gLc mu (own.map (·.2)) gi t c e) :=
  PE.mono (pe_lc hc hN hi ok hg ht he hs) (lc_mono hsl)
theorem ss_setLc {i : Nat} {y : Str} {py spos : Pos} (hc : X.calm = true) (hN : X.N.Nodup) (hy : X.N[i]? = some y) (hyl : X.env.scope.names.lookup y = some .local)
    (hsw : swapsWith (.ListComp elt [⟨tg, iter, ifs, 0⟩] scope pos) (some (.Name y py)) spos.line X.env = pure true) (hi : SIt X W0 tg iter gi) (ok : BlkOk X.N X.env.scope scope own) (hsl : ∀ j ∈ sl, j ∈ own.map (·.2))
    (hg : ∀ (s : Shared) (H : Hp) (C : Addr) (cl : List (Str × Addr)) (fp : List Addr), PG (X.blk s H scope (compEnvC scope cl C X.env) fp) tg (aG X.K sl t)) (ht : ∀ (s : Shared) (H : Hp) (C : Addr) (cl : List (Str × Addr)) (fp : List Addr), SW1 (X.blk s H scope (compEnvC scope cl C X.env) fp) W0n ifs c)
    (he : ∀ (s : Shared) (H : Hp) (C : Addr) (cl : List (Str × Addr)) (fp : List Addr), SE (X.blk s H scope (compEnvC scope cl C X.env) fp) W0n elt e) (hs : ∀ x, foldedSetIterable iter X.env x = pure x) :
    SS X W0 (.Assign [.Name y py] (.ListComp elt [⟨tg, iter, ifs, 0⟩] scope pos) spos) (gsSet i (gLc mu (own.map (·.2)) gi t c e)) := by
  refine PS.mono (ps_setLc (te := aE X.K W0n e) (tt := aT X.K W0n c) hc hN hy hyl hsw hi ok hg ht he hs) fun D σ H h => ?_
  obtain ⟨ρ, M, W, R, S, P⟩ := h
  refine lc_mono (W0 := W0) (mu := mu) hsl σ H _ ⟨ρ, M, W, R, S, postS_bind S P fun v H1 W1 M1 x e l1 R1 r1 P1 => ?_⟩
  exact P1 _ _ W1 (Wd.le.refl _) R1 ((S.mono l1).set r1 i)
end
end
end Ev

namespace Ev
open PySem PySem.Spec PyProof.Rows L2

/-! ### the syntax -/
inductive BOp where
  | add | sub | mul | div | mod | pow
def BOp.op : BOp → Operator
  | .add => .Add
  | .sub => .Sub
  | .mul => .Mult
  | .div => .FloorDiv
  | .mod => .Mod
  | .pow => .Pow
def BOp.ev : BOp → PyData → PyData → Option PyData
  | .add => addD
  | .sub => subD
  | .mul => mulD
  | .div => divD
  | .mod => modD
  | .pow => powD
inductive COp where
  | eq | ne | lt | le | gt | ge | isin | notin
def COp.op : COp → CmpOp
  | .eq => .Eq
  | .ne => .NotEq
  | .lt => .Lt
  | .le => .LtE
  | .gt => .Gt
  | .ge => .GtE
  | .isin => .In
  | .notin => .NotIn
/-- x in d too -/
def inV (neg : Bool) (x y : Vl) (M : Sto) : Out Vl := match dctAt M y with
  | some kvs => (match peek M x with
    | some k => (match keyD k with
      | some q => .ok (.d (.bool (neg ^^ (getP kvs q).isSome))) M
      | none => .bad)
    | none => .bad)
  | none => lift2 (inD neg) x y M
def COp.ev : COp → Vl → Vl → Sto → Out Vl
  | .eq => lift2 eqD
  | .ne => lift2 neD
  | .lt => lift2 (cmpI fun i j => decide (i < j))
  | .le => lift2 (cmpI fun i j => decide (i ≤ j))
  | .gt => lift2 (cmpI fun i j => decide (j < i))
  | .ge => lift2 (cmpI fun i j => decide (j ≤ i))
  | .isin => inV false
  | .notin => inV true
inductive Blt where
  | len | abs | int | list | listM | tuple | sum | all | any
def Blt.nm : Blt → Str
  | .len => "len"
  | .abs => "abs"
  | .int => "int"
  | .list => "list"
  | .listM => "list"
  | .tuple => "tuple"
  | .sum => "sum"
  | .all => "all"
  | .any => "any"
def Blt.ev : Blt → Op1
  | .len => lenV
  | .abs => liftC1 absD
  | .int => liftC1 intD
  | .list => liftC1 listD
  | .listM => Ev.listM
  | .tuple => liftC1 tupleD
  | .sum => liftC1 sumD
  | .all => liftC1 allD
  | .any => liftC1 anyD
inductive Mth where
  | append | count
def Mth.nm : Mth → Str
  | .append => "append"
  | .count => "count"
def Mth.ty : Mth → MT
  | .append => .list
  | .count => .list
def Mth.ev : Mth → OpM
  | .append => appendV
  | .count => countV
inductive CT where
  | nm (i : Nat) (x : Str) (p : Pos)
  | tup (ts : List (Nat × Str × Pos)) (k : Nat) (p : Pos)
mutual
inductive CE where
  | var (i : Nat) (x : Str) (p : Pos)
  | int (n : Int) (j : Nat) (p : Pos)
  | bl (b : Bool) (j : Nat) (p : Pos)
  | non (j : Nat) (p : Pos)
  | str (s : Str) (j : Nat) (p : Pos)
  | bin (op : BOp) (a b : CE) (p : Pos)
  | neg (a : CE) (p : Pos)
  | not (a : CE) (p : Pos)
  | and (a : CE) (es : CEs) (p : Pos)
  | or (a : CE) (es : CEs) (p : Pos)
  | cmp (op : COp) (a b : CE) (p : Pos)
  | chain (op op' : COp) (a b c : CE) (p : Pos)
  | isN (neg : Bool) (a : CE) (j : Nat) (pn p : Pos)
  | ife (c a b : CE) (p : Pos)
  | tup (es : CEs) (k : Nat) (p : Pos)
  | lst (mu : Bool) (es : CEs) (p : Pos)
  | disp (ks : List (Str × Nat × Pos)) (es : CEs) (p : Pos)
  | ix (a b : CE) (p : Pos)
  | sl (a : CE) (lo hi : CO) (p2 p : Pos)
  | blt (f : Blt) (a : CE) (es : CEs) (pf p : Pos)
  | isa (T : Ty) (a : CE) (pT pf p : Pos)
  | meth (m : Mth) (a b : CE) (es : CEs) (apos cpos : Pos)
  | call (j : Nat) (x : Str) (a : CE) (es : CEs) (pf p : Pos)
  | lc (mu : Bool) (elt : CE) (tg : CT) (it : CI) (c : CO) (sc : Scope) (own : List (Str × Nat)) (p : Pos)
  | bad (e : Expr)
inductive CEs where
  | nil
  | cons (a : CE) (es : CEs)
inductive CO where
  | none
  | some (a : CE)
inductive CI where
  | val (a : CE)
  | rng1 (a : CE) (pf p : Pos)
  | rng2 (a b : CE) (pf p : Pos)
  | zip (a b : CE) (pf p : Pos)
  | enu (a : CE) (pf p : Pos)
end
inductive CS where
  | set (i : Nat) (x : Str) (px : Pos) (e : CE) (p : Pos)
  | tgt (t : CT) (e : CE) (p : Pos)
  | par (i j : Nat) (x y : Str) (px py : Pos) (kt : Nat) (pt : Pos) (a b : CE) (k2 : Nat) (p2 p : Pos)
  | put (o i e : CE) (ps p : Pos)
  | exp (e : CE) (p : Pos)
  | ret (e : CE) (p : Pos)
  | retN (p : Pos)
  | ife (c : CE) (a b : List CS) (p : Pos)
  | wh (c : CE) (b : List CS) (p : Pos)
  | forr (t : CT) (it : CI) (b : List CS) (p : Pos)
  | pass (p : Pos)
  | brk (p : Pos)
  | cont (p : Pos)
  | bad (st : Stmt)

/-! ### as the program's own -/
def CT.toE : CT → Expr
  | .nm _ x p => .Name x p
  | .tup ts k p => .Tuple (ts.map fun t => .Name t.2.1 t.2.2) k p
mutual
def CE.toE : CE → Expr
  | .var _ x p => .Name x p
  | .int n j p => .Constant (.int n) j p
  | .bl b j p => .Constant (.bool b) j p
  | .non j p => .Constant .none j p
  | .str s j p => .Constant (.str s) j p
  | .bin op a b p => .BinOp a.toE op.op b.toE p
  | .neg a p => .UnaryOp .USub a.toE p
  | .not a p => .UnaryOp .Not a.toE p
  | .and a es p => .BoolOp .And (a.toE :: es.toEs) p
  | .or a es p => .BoolOp .Or (a.toE :: es.toEs) p
  | .cmp op a b p => .Compare a.toE [op.op] [b.toE] p
  | .chain op op' a b c p => .Compare a.toE [op.op, op'.op] [b.toE, c.toE] p
  | .isN neg a j pn p => .Compare a.toE [if neg then .IsNot else .Is] [.Constant .none j pn] p
  | .ife c a b p => .IfExp c.toE a.toE b.toE p
  | .tup es k p => .Tuple es.toEs k p
  | .lst _ es p => .List es.toEs p
  | .disp ks es p => .Dict (ks.map fun k => some (.Constant (.str k.1) k.2.1 k.2.2)) es.toEs p
  | .ix a b p => .Subscript a.toE b.toE p
  | .sl a lo hi p2 p => .Subscript a.toE (.Slice lo.toO hi.toO none p2) p
  | .blt f a es pf p => .Call (.Name f.nm pf) (a.toE :: es.toEs) [] p
  | .isa T a pT pf p => .Call (.Name "isinstance" pf) [a.toE, .Name (Str.ofString T.nm) pT] [] p
  | .meth m a b es apos cpos => .Call (.Attribute a.toE m.nm apos) (b.toE :: es.toEs) [] cpos
  | .call _ x a es pf p => .Call (.Name x pf) (a.toE :: es.toEs) [] p
  | .lc _ elt tg it c sc _ p => .ListComp elt.toE [⟨tg.toE, it.toE, c.toL, 0⟩] sc p
  | .bad e => e
def CEs.toEs : CEs → List Expr
  | .nil => []
  | .cons a es => a.toE :: es.toEs
def CO.toO : CO → Option Expr
  | .none => none
  | .some a => some a.toE
def CO.toL : CO → List Expr
  | .none => []
  | .some a => [a.toE]
def CI.toE : CI → Expr
  | .val a => a.toE
  | .rng1 a pf p => .Call (.Name "range" pf) [a.toE] [] p
  | .rng2 a b pf p => .Call (.Name "range" pf) [a.toE, b.toE] [] p
  | .zip a b pf p => .Call (.Name "zip" pf) [a.toE, b.toE] [] p
  | .enu a pf p => .Call (.Name "enumerate" pf) [a.toE] [] p
end
mutual
def CS.toS : CS → Stmt
  | .set _ x px e p => .Assign [.Name x px] e.toE p
  | .tgt t e p => .Assign [t.toE] e.toE p
  | .par _ _ x y px py kt pt a b k2 p2 p => .Assign [.Tuple [.Name x px, .Name y py] kt pt] (.Tuple [a.toE, b.toE] k2 p2) p
  | .put o i e ps p => .Assign [.Subscript o.toE i.toE ps] e.toE p
  | .exp e p => .Expr e.toE p
  | .ret e p => .Return (some e.toE) p
  | .retN p => .Return none p
  | .ife c a b p => .If c.toE (toSs a) (toSs b) p
  | .wh c b p => .While c.toE (toSs b) [] p
  | .forr t it b p => .For t.toE it.toE (toSs b) [] p
  | .pass p => .Pass p
  | .brk p => .Break p
  | .cont p => .Continue p
  | .bad st => st
def toSs : List CS → List Stmt
  | [] => []
  | s :: r => s.toS :: toSs r
end

/-! ### what it computes; fn: the calls of the module's own defs -/
abbrev Fn := Option (Nat → Op1)
def callE (fn : Fn) (j : Nat) (g : Ev0 (List Vl)) : Ev0 Vl := match fn with
  | some r => gCall (r j) g
  | none => fun _ _ => .bad
def CT.slots : CT → List Nat
  | .nm i _ _ => [i]
  | .tup ts _ _ => ts.map (·.1)
def tgNames : List (Nat × Str × Pos) → TgVs
  | [] => tgNil
  | t :: ts => tgCons (tgName t.1) (tgNames ts)
def CT.ev : CT → TgV
  | .nm i _ _ => tgName i
  | .tup ts _ _ => tgTup ts.length (tgNames ts)
mutual
def CE.ev (fn : Fn) : CE → Ev0 Vl
  | .var i _ _ => gVar i
  | .int n _ _ => gCon (.int n)
  | .bl b _ _ => gCon (.bool b)
  | .non _ _ => gCon .none
  | .str s _ _ => gCon (.str s)
  | .bin op a b _ => gBin (lift2 op.ev) (a.ev fn) (b.ev fn)
  | .neg a _ => gUn (lift1 negD) (a.ev fn)
  | .not a _ => gNot (a.ev fn)
  | .and a es _ => evAnd fn (a.ev fn) es
  | .or a es _ => evOr fn (a.ev fn) es
  | .cmp op a b _ => gBin op.ev (a.ev fn) (b.ev fn)
  | .chain op op' a b c _ => gChain op.ev op'.ev (a.ev fn) (b.ev fn) (c.ev fn)
  | .isN neg a _ _ _ => gUn (isNoneV neg) (a.ev fn)
  | .ife c a b _ => gIf (c.evT fn) (a.ev fn) (b.ev fn)
  | .tup es _ _ => gTup (es.ev fn)
  | .lst mu es _ => if mu then gLstM (es.ev fn) else gLst (es.ev fn)
  | .disp ks es _ => gDisp (ks.map (·.1)) (es.ev fn)
  | .ix a b _ => gBin ixV (a.ev fn) (b.ev fn)
  | .sl a lo hi _ _ => gSl (a.ev fn) (lo.evI fn) (hi.evI fn)
  | .blt f a es _ _ => gCall f.ev (gCons (a.ev fn) (es.ev fn))
  | .isa T a _ _ _ => gUn (lift1 (isaD T)) (a.ev fn)
  | .meth m a b es _ _ => gMeth m.ty m.ev (a.ev fn) (gCons (b.ev fn) (es.ev fn))
  | .call j _ a es _ _ => callE fn j (gCons (a.ev fn) (es.ev fn))
  | .lc mu elt tg it c _ own _ => gLc mu (own.map (·.2)) (it.ev fn) tg.ev (c.evC fn) (elt.ev fn)
  | .bad _ => fun _ _ => .bad
def CE.evT (fn : Fn) : CE → Ev0 Bool
  | .not a _ => gNotT (a.evT fn)
  | .and a es _ => evAndT fn (a.evT fn) es
  | .or a es _ => evOrT fn (a.evT fn) es
  | .cmp op a b _ => gB (gBin op.ev (a.ev fn) (b.ev fn))
  | .chain op op' a b c _ => gB (gChain op.ev op'.ev (a.ev fn) (b.ev fn) (c.ev fn))
  | .isN neg a _ _ _ => gB (gUn (isNoneV neg) (a.ev fn))
  | .ife c a b _ => gIf (c.evT fn) (a.evT fn) (b.evT fn)
  | .var i _ _ => gTru (gVar i)
  | .int n _ _ => gTru (gCon (.int n))
  | .bl b _ _ => gTru (gCon (.bool b))
  | .non _ _ => gTru (gCon .none)
  | .str s _ _ => gTru (gCon (.str s))
  | .bin op a b _ => gTru (gBin (lift2 op.ev) (a.ev fn) (b.ev fn))
  | .neg a _ => gTru (gUn (lift1 negD) (a.ev fn))
  | .tup es _ _ => gTru (gTup (es.ev fn))
  | .lst mu es _ => gTru (if mu then gLstM (es.ev fn) else gLst (es.ev fn))
  | .disp ks es _ => gTru (gDisp (ks.map (·.1)) (es.ev fn))
  | .ix a b _ => gTru (gBin ixV (a.ev fn) (b.ev fn))
  | .sl a lo hi _ _ => gTru (gSl (a.ev fn) (lo.evI fn) (hi.evI fn))
  | .blt f a es _ _ => gTru (gCall f.ev (gCons (a.ev fn) (es.ev fn)))
  | .isa T a _ _ _ => gTru (gUn (lift1 (isaD T)) (a.ev fn))
  | .meth m a b es _ _ => gTru (gMeth m.ty m.ev (a.ev fn) (gCons (b.ev fn) (es.ev fn)))
  | .call j _ a es _ _ => gTru (callE fn j (gCons (a.ev fn) (es.ev fn)))
  | .lc mu elt tg it c _ own _ => gTru (gLc mu (own.map (·.2)) (it.ev fn) tg.ev (c.evC fn) (elt.ev fn))
  | .bad _ => fun _ _ => .bad
def CEs.ev (fn : Fn) : CEs → Ev0 (List Vl)
  | .nil => gNil
  | .cons a es => gCons (a.ev fn) (es.ev fn)
def evAnd (fn : Fn) (g : Ev0 Vl) : CEs → Ev0 Vl
  | .nil => g
  | .cons a es => gAnd g (evAnd fn (a.ev fn) es)
def evOr (fn : Fn) (g : Ev0 Vl) : CEs → Ev0 Vl
  | .nil => g
  | .cons a es => gOr g (evOr fn (a.ev fn) es)
def evAndT (fn : Fn) (g : Ev0 Bool) : CEs → Ev0 Bool
  | .nil => g
  | .cons a es => gAndT g (evAndT fn (a.evT fn) es)
def evOrT (fn : Fn) (g : Ev0 Bool) : CEs → Ev0 Bool
  | .nil => g
  | .cons a es => gOrT g (evOrT fn (a.evT fn) es)
def CO.evI (fn : Fn) : CO → Ev0I
  | .none => gNoPart
  | .some a => gPart (a.ev fn)
def CO.evC (fn : Fn) : CO → Ev0 Bool
  | .none => gYes
  | .some a => a.evT fn
def CI.ev (fn : Fn) : CI → Ev0S
  | .val a => giVal (a.ev fn)
  | .rng1 a _ _ => giRng1 (gCons (a.ev fn) gNil)
  | .rng2 a b _ _ => giRng2 (gCons (a.ev fn) (gCons (b.ev fn) gNil))
  | .zip a b _ _ => giZip (gCons (a.ev fn) (gCons (b.ev fn) gNil))
  | .enu a _ _ => giEnu (gCons (a.ev fn) gNil)
end
mutual
def CS.ev (fn : Fn) : CS → EvS
  | .set i _ _ e _ => gsSet i (e.ev fn)
  | .tgt t e _ => gsTgt t.ev (e.ev fn)
  | .par i j _ _ _ _ _ _ a b _ _ _ => gsPar i j (gCons (a.ev fn) (gCons (b.ev fn) gNil))
  | .put o i e _ _ => gsPut (o.ev fn) (i.ev fn) (e.ev fn)
  | .exp e _ => gsExp (e.ev fn)
  | .ret e _ => gsRet (e.ev fn)
  | .retN _ => gsRetN
  | .ife c a b _ => gsIf (c.evT fn) (evSs fn a) (evSs fn b)
  | .wh c b _ => gsWh (c.evT fn) (evSs fn b)
  | .forr t it b _ => gsFor (it.ev fn) t.ev (evSs fn b)
  | .pass _ => gsNil
  | .brk _ => gsBrk
  | .cont _ => gsCont
  | .bad _ => gsBad
def evSs (fn : Fn) : List CS → EvS
  | [] => gsNil
  | s :: r => gsSeq (s.ev fn) (evSs fn r)
end
end Ev

namespace Ev
open PySem PySem.Spec PyProof.Rows L2

/-! ### in, of a dict too -/
section
variable {X : Cx} {W0 : WX}
theorem op_inG (hu : X.A.units + 65 < cLine) : OpR X (compareOp .In) (aO X.K W0 (inV false)) := by
  intro pins s σ H x y v u Q I rx ry h
  obtain ⟨W, M, σ', v1, v2, R, r1, r2, P⟩ := h
  unfold inV at P
  cases e : dctAt M v2 with
  | none =>
    simp only [e] at P
    exact op_inV (W0 := W0) hu pins s σ H x y v u Q I rx ry ⟨W, M, σ', v1, v2, R, r1, r2, P⟩
  | some kvs =>
    simp only [e] at P
    obtain ⟨n, a, vs, rfl, rfl, hm, z, h1, h2⟩ := dctAt_ok R r2 e
    cases e2 : peek M v1 with
    | none => rw [e2] at P; exact P.elim
    | some k =>
      rw [e2] at P
      cases e3 : keyD k with
      | none => simp only [e3] at P; exact P.elim
      | some q =>
        simp only [e3] at P
        obtain rfl := keyD_ok (peek_pk R r1 e2) e3
        obtain rfl : u = Value.ref a := ry
        refine d_in (by omega) I (DGet.k (k := q) h1) rx fun s' I' => ⟨.bl _, H, I', rfl, ?_⟩
        have : (valV vs q).isSome = (getP kvs q).isSome := by
          cases e4 : getP kvs q with
          | none => rw [(kv_get q h2).2 e4]; rfl
          | some d => obtain ⟨w, hw, _⟩ := (kv_get q h2).1 d e4; rw [hw]; rfl
        rw [this]
        simpa using P (.bl (false ^^ (getP kvs q).isSome)) H W (Wd.le.refl _) R (.bl _)
theorem op_notInG (hu : X.A.units + 65 < cLine) : OpR X (compareOp .NotIn) (aO X.K W0 (inV true)) := by
  intro pins s σ H x y v u Q I rx ry h
  obtain ⟨W, M, σ', v1, v2, R, r1, r2, P⟩ := h
  unfold inV at P
  cases e : dctAt M v2 with
  | none =>
    simp only [e] at P
    exact op_notInV (W0 := W0) hu pins s σ H x y v u Q I rx ry ⟨W, M, σ', v1, v2, R, r1, r2, P⟩
  | some kvs =>
    simp only [e] at P
    obtain ⟨n, a, vs, rfl, rfl, hm, z, h1, h2⟩ := dctAt_ok R r2 e
    cases e2 : peek M v1 with
    | none => rw [e2] at P; exact P.elim
    | some k =>
      rw [e2] at P
      cases e3 : keyD k with
      | none => simp only [e3] at P; exact P.elim
      | some q =>
        simp only [e3] at P
        obtain rfl := keyD_ok (peek_pk R r1 e2) e3
        obtain rfl : u = Value.ref a := ry
        refine d_notIn (by omega) I (DGet.k (k := q) h1) rx fun s' I' => ⟨.bl _, H, I', rfl, ?_⟩
        have : (valV vs q).isSome = (getP kvs q).isSome := by
          cases e4 : getP kvs q with
          | none => rw [(kv_get q h2).2 e4]; rfl
          | some d => obtain ⟨w, hw, _⟩ := (kv_get q h2).1 d e4; rw [hw]; rfl
        rw [this]
        simpa using P (.bl (true ^^ (getP kvs q).isSome)) H W (Wd.le.refl _) R (.bl _)
end

/-! ### the checker -/
structure Gam where
  N : List Str
  sc : Scope
  fb : Bool
  fns : Nat → Option (Str × Nat)
def visB (sc : Scope) (x : Str) : Bool := match sc.names.lookup x with
  | some .local => true
  | some .cell => true
  | some .free => true
  | _ => false
def locB (Γ : Gam) (x : Str) : Bool := match Γ.sc.names.lookup x with
  | some .local => true
  | some .cell => Γ.fb
  | _ => false
def isLocal (sc : Scope) (x : Str) : Bool := decide (sc.names.lookup x = some .local)
def glB (sc : Scope) (x : Str) : Bool := decide (sc.names.lookup x = some .globalImplicit)
def bltNames : List Str := ["len", "abs", "int", "list", "tuple", "sum", "all", "any", "isinstance", "range", "zip", "enumerate", "bool", "str", "dict", "set", "sorted", "min", "max", "repr", "reversed", "frozenset", "type", "ValueError", "super"]
def plainE : Expr → Bool
  | .Starred _ _ => false
  | .Slice _ _ _ _ => false
  | .Set _ _ _ => false
  | _ => true
def isLc : Expr → Bool
  | .ListComp _ _ _ _ => true
  | .SetComp _ _ _ _ => true
  | .DictComp _ _ _ _ _ => true
  | _ => false
def noCall0 : Expr → Bool
  | .Call _ [] _ _ => false
  | _ => true
def isTup : Expr → Bool
  | .Tuple _ _ _ => true
  | _ => false
def CEs.len : CEs → Nat
  | .nil => 0
  | .cons _ es => es.len + 1
def CT.ok (Γ : Gam) : CT → Bool
  | .nm i x _ => decide (Γ.N[i]? = some x) && locB Γ x
  | .tup ts _ _ => ts.all fun t => decide (Γ.N[t.1]? = some t.2.1) && locB Γ t.2.1
def inner (Γ : Gam) (sc : Scope) : Gam := { Γ with sc := relS sc Γ.sc, fb := false }
mutual
def CE.ok (Γ : Gam) : CE → Bool
  | .var i x _ => decide (Γ.N[i]? = some x) && visB Γ.sc x && !(x == ("__debug__" : Str)) && !(x == ("__classdict__" : Str))
  | .int _ _ _ => true
  | .bl _ _ _ => true
  | .non _ _ => true
  | .str _ _ _ => true
  | .bin _ a b _ => a.ok Γ && b.ok Γ
  | .neg a _ => a.ok Γ
  | .not a _ => a.ok Γ
  | .and a es _ => a.ok Γ && es.ok Γ
  | .or a es _ => a.ok Γ && es.ok Γ
  | .cmp _ a b _ => a.ok Γ && b.ok Γ
  | .chain _ _ a b c _ => a.ok Γ && (b.ok Γ && c.ok Γ)
  | .isN _ a _ _ _ => a.ok Γ
  | .ife c a b _ => c.ok Γ && (a.ok Γ && b.ok Γ)
  | .tup es _ _ => es.ok Γ
  | .lst _ es _ => es.ok Γ
  | .disp ks es _ => es.ok Γ && (decide (ks.length = es.len) && (decide (ks ≠ []) && decide (ks.length ≤ 15)))
  | .ix a b _ => a.ok Γ && b.ok Γ
  | .sl a lo hi _ _ => a.ok Γ && (lo.ok Γ && hi.ok Γ)
  | .blt f a es _ _ => glB Γ.sc f.nm && (a.ok Γ && es.ok Γ)
  | .isa T a _ _ _ => glB Γ.sc "isinstance" && (glB Γ.sc (Str.ofString T.nm) && a.ok Γ)
  | .meth _ a b es apos cpos => (apos.endLine == cpos.line) && (decide (es.len < 20) && (noCall0 a.toE && (a.ok Γ && (b.ok Γ && es.ok Γ))))
  | .call j x a es _ _ => glB Γ.sc x && (!(x == ("__debug__" : Str)) && (decide (Γ.fns j = some (x, es.len + 1)) && (a.ok Γ && es.ok Γ)))
  | .lc _ elt tg it c sc own _ => blkC Γ.N Γ.sc sc own && (tg.slots.all (fun j => (own.map (·.2)).contains j) && (tg.ok (inner Γ sc) && (it.ok Γ tg && (c.ok (inner Γ sc) && elt.ok (inner Γ sc)))))
  | .bad e => plainE e
def CEs.ok (Γ : Gam) : CEs → Bool
  | .nil => true
  | .cons a es => a.ok Γ && es.ok Γ
def CO.ok (Γ : Gam) : CO → Bool
  | .none => true
  | .some a => a.ok Γ
def CI.ok (Γ : Gam) (tg : CT) : CI → Bool
  | .val a => a.ok Γ
  | .rng1 a _ _ => glB Γ.sc "range" && a.ok Γ
  | .rng2 a b _ _ => glB Γ.sc "range" && (a.ok Γ && b.ok Γ)
  | .zip a b _ _ => isTup tg.toE && (glB Γ.sc "zip" && (a.ok Γ && b.ok Γ))
  | .enu a _ _ => isTup tg.toE && (glB Γ.sc "enumerate" && a.ok Γ)
end
/-! ### what is promised -/
def spOf (K : PySem.W.Frag) (ps : List Str) (op : Op1) : Sp := fun vs H Q E => vs.length = ps.length ∧ ∃ W M σ xs, RelM K W H M ∧ VlsR K W vs xs ∧ Post (VlR K) K (fun c d _ H => E c d H) W σ (op xs M) Q
def FnAtP (P : Program) (w : World) (K : PySem.W.Frag) (mg : Str → Option Value) (base : Heap) (n : Nat) (x : Str) (ps : List Str) (op : Op1) (f : Addr) (fd : FuncData) : Prop :=
  mg x = some (.ref f) ∧ PySem.W.keepIn K (.ref f) = true ∧ Binds K fd ps [] ∧ FnOk P w K mg base (L2.CX P w) n f fd ps (spOf K ps op)
def FnAt (P : Program) (w : World) (K : PySem.W.Frag) (mg : Str → Option Value) (base : Heap) (n : Nat) (x : Str) (k : Nat) (op : Op1) : Prop :=
  ∃ f fd ps, List.length ps = k ∧ FnAtP P w K mg base n x ps op f fd
structure Good (Γ : Gam) (fn : Fn) (X : Cx) (W0 : WX) : Prop where
  N : X.N = Γ.N
  nd : X.N.Nodup
  sc : X.env.scope = Γ.sc
  fb : Γ.fb = true → ∀ x, X.fn x = true
  calm : X.calm = true
  un : X.A.units + 65 < cLine
  blt : ∀ x ∈ bltNames, X.mg x = none
  tk : Takes X W0
  calls : ∀ r, fn = some r → ∃ n, Room n X.A ∧ ∀ j x k, Γ.fns j = some (x, k) → FnAt X.prog X.w X.K X.mg X.base n x k (r j)
section
variable {Γ : Gam} {fn : Fn} {X : Cx} {W0 : WX}
theorem Good.blk (G : Good Γ fn X W0) (sc : Scope) (s : Shared) (H : Hp) (C : Addr) (cl : List (Str × Addr)) (fp : List Addr) : Good (inner Γ sc) fn (X.blk s H sc (compEnvC sc cl C X.env) fp) W0n where
  N := G.N
  nd := G.nd
  sc := by show relS sc X.env.scope = relS sc Γ.sc; rw [G.sc]
  fb := fun h => by cases h
  calm := G.calm
  un := G.un
  blt := G.blt
  tk := fun u s' h => by obtain ⟨_, _, _, _, _, _, _, _, _, _, _, _, _, _, _, _, h⟩ := h; exact h
  calls := G.calls
theorem Good.vis (G : Good Γ fn X W0) {x : Str} (h : visB Γ.sc x = true) : Vis X.env.scope x := by
  unfold Vis
  rw [G.sc]
  unfold visB at h
  split at h <;> simp_all
theorem Good.loc (G : Good Γ fn X W0) {x : Str} (h : locB Γ x = true) : Loc X.env.scope x ∧ (X.fn x = true ∨ X.env.scope.names.lookup x = some .local) := by
  unfold L2.Loc
  rw [G.sc]
  unfold locB at h
  split at h
  · rename_i e; exact ⟨.inl e, .inr e⟩
  · rename_i e; exact ⟨.inr e, .inl (G.fb h x)⟩
  · cases h
theorem Good.gl (G : Good Γ fn X W0) {x : Str} (h : glB Γ.sc x = true) : Gl X x := by
  unfold Gl Env.kindOf
  rw [G.sc]
  exact of_decide_eq_true h
theorem Good.at (G : Good Γ fn X W0) {i : Nat} {x : Str} (h : decide (Γ.N[i]? = some x) = true) : X.N[i]? = some x := by
  rw [G.N]
  exact of_decide_eq_true h
theorem not_true {b : Bool} (h : (!b) = true) : b = false := by cases b <;> simp_all
theorem CE.plain (Γ : Gam) : ∀ c : CE, c.ok Γ = true → plainE c.toE = true
  | .bad e, h => h
  | .var .., _ | .int .., _ | .bl .., _ | .non .., _ | .str .., _ | .bin .., _ | .neg .., _ | .not .., _ | .and .., _ | .or .., _ | .cmp .., _ | .chain .., _ | .isN .., _ | .ife .., _ | .tup .., _ | .lst .., _ | .disp .., _ | .ix .., _ | .sl .., _ | .blt .., _ | .isa .., _ | .meth .., _ | .call .., _ | .lc .., _ => rfl
theorem plain_star {e : Expr} (h : plainE e = true) : notStar e = true := by cases e <;> first | rfl | cases h
theorem plain_ix {e : Expr} (h : plainE e = true) : plainIx e = true := by cases e <;> first | rfl | cases h
theorem plain_set {e : Expr} (h : plainE e = true) : ∀ es k p, e ≠ .Set es k p := by intro es k p he; subst he; cases h
theorem plain_fold {e : Expr} (h : plainE e = true) (env : Env) : ∀ x, foldedSetIterable e env x = pure x := by cases e <;> first | (intro x; rfl) | cases h
theorem base_ok {e : Expr} (h : noCall0 e = true) (nm : Str) (env : Env) : attributeBase e nm env (eval e env) = eval e env := by
  cases e with
  | Call f as ks p =>
    cases as with
    | nil => cases h
    | cons a as => cases f <;> rfl
  | _ => rfl
theorem bin_ok (op : BOp) : OpR X (binaryOp op.op) (aO X.K W0 (lift2 op.ev)) := by
  cases op
  · exact op_addV
  · exact op_subV
  · exact op_mulV
  · exact op_divV
  · exact op_modV
  · exact op_powV
theorem cmp_ok (hu : X.A.units + 65 < cLine) (op : COp) : OpR X (compareOp op.op) (aO X.K W0 op.ev) := by
  cases op
  · exact op_eqV (by omega)
  · exact op_neV (by omega)
  · exact op_cmpI op_lt
  · exact op_cmpI op_le
  · exact op_cmpI op_gt
  · exact op_cmpI op_ge
  · exact op_inG hu
  · exact op_notInG hu
theorem blt_ok (G : Good Γ fn X W0) (f : Blt) {a : Expr} {es : List Expr} {g : Ev0 (List Vl)} {pf p : Pos} (hg : glB Γ.sc f.nm = true) (ha : SA X W0 (a :: es) g) (hs : (a :: es).all notStar = true) : SE X W0 (.Call (.Name f.nm pf) (a :: es) [] p) (gCall f.ev g) := by
  have hg := G.gl hg
  cases f
  · exact se_callB call_lenV hg (G.blt _ (by decide +kernel)) (by decide +kernel) ha hs (by decide +kernel) (by decide +kernel)
  · exact se_callB call_absV hg (G.blt _ (by decide +kernel)) (by decide +kernel) ha hs (by decide +kernel) (by decide +kernel)
  · exact se_callTy call_intV hg (G.blt _ (by decide +kernel)) (by decide +kernel) ha hs (by decide +kernel) (by decide +kernel)
  · exact se_callTy call_listV hg (G.blt _ (by decide +kernel)) (by decide +kernel) ha hs (by decide +kernel) (by decide +kernel)
  · exact se_callTy call_listMV hg (G.blt _ (by decide +kernel)) (by decide +kernel) ha hs (by decide +kernel) (by decide +kernel)
  · exact se_callTy call_tupleV hg (G.blt _ (by decide +kernel)) (by decide +kernel) ha hs (by decide +kernel) (by decide +kernel)
  · exact se_callB (call_sumV G.calm) hg (G.blt _ (by decide +kernel)) (by decide +kernel) ha hs (by decide +kernel) (by decide +kernel)
  · exact se_callB (call_allV G.calm) hg (G.blt _ (by decide +kernel)) (by decide +kernel) ha hs (by decide +kernel) (by decide +kernel)
  · exact se_callB (call_anyV G.calm) hg (G.blt _ (by decide +kernel)) (by decide +kernel) ha hs (by decide +kernel) (by decide +kernel)
theorem isa_ok (G : Good Γ fn X W0) (T : Ty) {a : Expr} {g : Ev0 Vl} {pT pf p : Pos} (hg : glB Γ.sc "isinstance" = true) (hT : glB Γ.sc (Str.ofString T.nm) = true) (ha : SE X W0 a g) (hs : notStar a = true) : SE X W0 (.Call (.Name "isinstance" pf) [a, .Name (Str.ofString T.nm) pT] [] p) (gUn (lift1 (isaD T)) g) := by
  have hT := G.gl hT
  cases T
  · exact se_isa (T := .int) (G.gl hg) (G.blt _ (by decide +kernel)) (by decide +kernel) hT (G.blt _ (by decide +kernel)) (by decide +kernel) (by decide +kernel) ha hs
  · exact se_isa (T := .bool) (G.gl hg) (G.blt _ (by decide +kernel)) (by decide +kernel) hT (G.blt _ (by decide +kernel)) (by decide +kernel) (by decide +kernel) ha hs
  · exact se_isa (T := .str) (G.gl hg) (G.blt _ (by decide +kernel)) (by decide +kernel) hT (G.blt _ (by decide +kernel)) (by decide +kernel) (by decide +kernel) ha hs
  · exact se_isa (T := .list) (G.gl hg) (G.blt _ (by decide +kernel)) (by decide +kernel) hT (G.blt _ (by decide +kernel)) (by decide +kernel) (by decide +kernel) ha hs
  · exact se_isa (T := .tuple) (G.gl hg) (G.blt _ (by decide +kernel)) (by decide +kernel) hT (G.blt _ (by decide +kernel)) (by decide +kernel) (by decide +kernel) ha hs
  · exact se_isa (T := .dict) (G.gl hg) (G.blt _ (by decide +kernel)) (by decide +kernel) hT (G.blt _ (by decide +kernel)) (by decide +kernel) (by decide +kernel) ha hs
theorem meth_ok (G : Good Γ fn X W0) (m : Mth) {a b : Expr} {es : List Expr} {ga : Ev0 Vl} {g : Ev0 (List Vl)} {apos cpos : Pos} (ho : SE X W0 a ga) (ha : SA X W0 (b :: es) g) (hb : noCall0 a = true) (hfew : es.length < 20) (hs : (b :: es).all notStar = true) (hline : (apos.endLine == cpos.line) = true) :
    SE X W0 (.Call (.Attribute a m.nm apos) (b :: es) [] cpos) (gMeth m.ty m.ev ga g) := by
  have hf : (b :: es).length < 29 := by rw [List.length_cons]; omega
  have hu := G.un
  cases m
  · exact se_meth (T := .list) PySem.F.plainAttrs_list PySem.F.slot_list_append PySem.F.type_list_append mt_appendV ho ha (base_ok hb _) hf hs hline
  · exact se_meth (T := .list) PySem.F.plainAttrs_list PySem.F.slot_list_count PySem.F.type_list_count (mt_countV hu) ho ha (base_ok hb _) hf hs hline
theorem call_ok (G : Good Γ fn X W0) {j k : Nat} {x : Str} {a : Expr} {es : List Expr} {g : Ev0 (List Vl)} {pf p : Pos} (hg : glB Γ.sc x = true) (hdb : (x == ("__debug__" : Str)) = false) (hf : Γ.fns j = some (x, k)) (hk : (a :: es).length = k) (hl : ∀ ρ M xs M', g ρ M = .ok xs M' → xs.length = k) (ha : SA X W0 (a :: es) g) (hs : (a :: es).all notStar = true) :
    SE X W0 (.Call (.Name x pf) (a :: es) [] p) (callE fn j g) := by
  have h2 : notStar a = true ∧ es.all notStar = true := by simpa [List.all_cons] using hs
  cases hfn : fn with
  | none => exact ⟨fun _ _ _ _ _ _ ⟨_, _, _, _, _, P⟩ => P.elim⟩
  | some r =>
    obtain ⟨n, room, hc⟩ := G.calls r hfn
    obtain ⟨f, fd, ps, hps, hm, hk2, hb, F⟩ := hc j x k hf
    refine PE.mono (pe_callSD (E := fun σ c d H => W0 c d σ H) F room (G.gl hg) hm hk2 hb .nil (fun σ pins H s e s' I h => G.tk e s' (XE.of_call I (fun cls d H' h => h) h)) ha hdb (star_one h2.1 _ _) (star_none _ _ _ h2.2)) fun σ H Q h => ?_
    obtain ⟨ρ, M, W, R, S, P⟩ := h
    have P : Post (VlR X.K) X.K W0 W σ (gCall (r j) g ρ M) Q := P
    refine ⟨ρ, M, W, R, S, post_bind P fun vs H1 W1 M1 xs e l1 R1 r1 P1 => ?_⟩
    rw [List.append_nil]
    refine ⟨by rw [r1.length, hps]; exact hl _ _ _ _ e, W1, M1, σ, xs, R1, r1, ?_⟩
    cases eo : r j xs M1 with
    | ok v M2 => rw [eo] at P1; exact P1
    | exc x M2 => rw [eo] at P1; exact P1
    | bad => rw [eo] at P1; exact P1.elim
theorem CEs.toEs_len : ∀ es : CEs, es.toEs.length = es.len
  | .nil => rfl
  | .cons _ es => congrArg Nat.succ (CEs.toEs_len es)
theorem CEs.ev_len (fn : Fn) : ∀ (es : CEs) (ρ : Rho) (M : Sto) (xs : List Vl) (M' : Sto), es.ev fn ρ M = .ok xs M' → xs.length = es.len
  | .nil, ρ, M, xs, M', h => by cases h; rfl
  | .cons a es, ρ, M, xs, M', h => by
    have h : ((a.ev fn ρ M).bind fun x M1 => (es.ev fn ρ M1).bind fun xs M2 => .ok (x :: xs) M2) = .ok xs M' := h
    cases e1 : a.ev fn ρ M with
    | bad => rw [e1] at h; cases h
    | exc _ _ => rw [e1] at h; cases h
    | ok x M1 =>
      rw [e1] at h
      have h : ((es.ev fn ρ M1).bind fun xs M2 => .ok (x :: xs) M2) = Out.ok xs M' := h
      cases e2 : es.ev fn ρ M1 with
      | bad => rw [e2] at h; cases h
      | exc _ _ => rw [e2] at h; cases h
      | ok ys M2 =>
        rw [e2] at h
        cases h
        exact congrArg Nat.succ (CEs.ev_len fn es ρ M1 ys _ e2)
theorem names_ok (G : Good Γ fn X W0) : ∀ (ts : List (Nat × Str × Pos)), (ts.all fun t => decide (Γ.N[t.1]? = some t.2.1) && locB Γ t.2.1) = true → PGs X (ts.map fun t => .Name t.2.1 t.2.2) (aGs X.K (ts.map (·.1)) (tgNames ts))
  | [], _ => sgs_nil
  | t :: ts, h => by
    rw [List.all_cons, Bool.and_eq_true, Bool.and_eq_true] at h
    obtain ⟨⟨h1, h2⟩, h3⟩ := h
    exact sgs_cons (sl := [t.1]) (sg_name G.nd (G.at h1) (G.loc h2).1 (G.loc h2).2) (names_ok G ts h3) rfl
theorem CT.snd (G : Good Γ fn X W0) : ∀ (t : CT), t.ok Γ = true → PG X t.toE (aG X.K t.slots t.ev)
  | .nm i x p, h => by
    simp only [CT.ok, Bool.and_eq_true] at h
    exact sg_name G.nd (G.at h.1) (G.loc h.2).1 (G.loc h.2).2
  | .tup ts k p, h => by
    have := sg_tup (k := k) (pos := p) G.calm (names_ok G ts h) (by simp [notStar])
    rw [List.length_map] at this
    exact this
end
end Ev

namespace Ev
open PySem PySem.Spec PyProof.Rows L2

/-! ### the checker is right -/
structure SndE (X : Cx) (W0 : WX) (e : Expr) (g : Ev0 Vl) (c : Ev0 Bool) : Prop where
  v : SE X W0 e g
  t : ST X W0 e c
structure SndEs (X : Cx) (W0 : WX) (fn : Fn) (es : CEs) : Prop where
  a : SA X W0 es.toEs (es.ev fn)
  s : es.toEs.all notStar = true
  an : ∀ a g p, SE X W0 a g → SE X W0 (.BoolOp .And (a :: es.toEs) p) (evAnd fn g es)
  orr : ∀ a g p, SE X W0 a g → SE X W0 (.BoolOp .Or (a :: es.toEs) p) (evOr fn g es)
  anT : ∀ a g p, ST X W0 a g → SW X W0 (.BoolOp .And (a :: es.toEs) p) (evAndT fn g es)
  orT : ∀ a g p, ST X W0 a g → SW X W0 (.BoolOp .Or (a :: es.toEs) p) (evOrT fn g es)
  disp : ∀ (ks : List (Str × Nat × Pos)) p, ks.length = es.len → SP X W0 p (ks.map fun k => some (.Constant (.str k.1) k.2.1 k.2.2)) es.toEs (ks.map (·.1)) (es.ev fn)
theorem and_tt {a b : Bool} (h : (a && b) = true) : a = true ∧ b = true := by
  rw [Bool.and_eq_true] at h
  exact h
theorem slots_ok {l : List Nat} {own : List Nat} (h : (l.all fun j => own.contains j) = true) : ∀ j ∈ l, j ∈ own := fun j hj => by
  have := List.all_eq_true.mp h j hj
  simpa using this
mutual
theorem CE.snd (fn : Fn) : ∀ (c : CE) (Γ : Gam) (X : Cx) (W0 : WX), c.ok Γ = true → Good Γ fn X W0 → SndE X W0 c.toE (c.ev fn) (c.evT fn)
  | .var i x p, Γ, X, W0, h, G => by
    obtain ⟨h123, h4⟩ := and_tt h
    obtain ⟨h12, h3⟩ := and_tt h123
    obtain ⟨h1, h2⟩ := and_tt h12
    have z := se_var (W0 := W0) (pos := p) (G.at h1) (G.vis h2) (not_true h3) (not_true h4)
    exact ⟨z, st_truth z rfl⟩
  | .int n j p, Γ, X, W0, h, G => ⟨se_int, st_truth se_int rfl⟩
  | .bl b j p, Γ, X, W0, h, G => ⟨se_bl, st_truth se_bl rfl⟩
  | .non j p, Γ, X, W0, h, G => ⟨se_non, st_truth se_non rfl⟩
  | .str s j p, Γ, X, W0, h, G => ⟨se_str, st_truth se_str rfl⟩
  | .bin op a b p, Γ, X, W0, h, G => by
    obtain ⟨h1, h2⟩ := and_tt h
    have z := se_op (pos := p) (bin_ok op) (CE.snd fn a Γ X W0 h1 G).v (CE.snd fn b Γ X W0 h2 G).v
    exact ⟨z, st_truth z rfl⟩
  | .neg a p, Γ, X, W0, h, G => by
    have z := se_un (pos := p) (un_negV (W0 := W0)) (CE.snd fn a Γ X W0 h G).v
    exact ⟨z, st_truth z rfl⟩
  | .not a p, Γ, X, W0, h, G => ⟨se_not (CE.snd fn a Γ X W0 h G).v, st_not (CE.snd fn a Γ X W0 h G).t⟩
  | .and a es p, Γ, X, W0, h, G => by
    obtain ⟨h1, h2⟩ := and_tt h
    have za := CE.snd fn a Γ X W0 h1 G
    have zs := CEs.snd fn es Γ X W0 h2 G
    exact ⟨zs.an _ _ p za.v, PW.pt (zs.anT _ _ p za.t)⟩
  | .or a es p, Γ, X, W0, h, G => by
    obtain ⟨h1, h2⟩ := and_tt h
    have za := CE.snd fn a Γ X W0 h1 G
    have zs := CEs.snd fn es Γ X W0 h2 G
    exact ⟨zs.orr _ _ p za.v, PW.pt (zs.orT _ _ p za.t)⟩
  | .cmp op a b p, Γ, X, W0, h, G => by
    obtain ⟨h1, h2⟩ := and_tt h
    have za := (CE.snd fn a Γ X W0 h1 G).v
    have zb := (CE.snd fn b Γ X W0 h2 G).v
    have hs := plain_set (CE.plain Γ b h2)
    exact ⟨se_cmp (cmp_ok G.un op) za zb hs, st_cmp (cmp_ok G.un op) za zb hs⟩
  | .chain op op' a b c p, Γ, X, W0, h, G => by
    obtain ⟨h1, h23⟩ := and_tt h
    obtain ⟨h2, h3⟩ := and_tt h23
    have za := (CE.snd fn a Γ X W0 h1 G).v
    have zb := (CE.snd fn b Γ X W0 h2 G).v
    have zc := (CE.snd fn c Γ X W0 h3 G).v
    have hs := plain_set (CE.plain Γ c h3)
    exact ⟨se_chain (cmp_ok G.un op) (cmp_ok G.un op') za zb zc hs, st_chain (cmp_ok G.un op) (cmp_ok G.un op') za zb zc hs⟩
  | .isN false a j pn p, Γ, X, W0, h, G => ⟨se_isN (CE.snd fn a Γ X W0 h G).v, st_isN (CE.snd fn a Γ X W0 h G).v⟩
  | .isN true a j pn p, Γ, X, W0, h, G => ⟨se_notN (CE.snd fn a Γ X W0 h G).v, st_notN (CE.snd fn a Γ X W0 h G).v⟩
  | .ife c a b p, Γ, X, W0, h, G => by
    obtain ⟨h1, h23⟩ := and_tt h
    obtain ⟨h2, h3⟩ := and_tt h23
    have zc := CE.snd fn c Γ X W0 h1 G
    have za := CE.snd fn a Γ X W0 h2 G
    have zb := CE.snd fn b Γ X W0 h3 G
    exact ⟨se_if zc.t za.v zb.v, st_if zc.t za.t zb.t⟩
  | .tup es k p, Γ, X, W0, h, G => by
    have z := se_tup (pos := p) (x1 := k) (CEs.snd fn es Γ X W0 h G).a
    exact ⟨z, st_truth z rfl⟩
  | .lst true es p, Γ, X, W0, h, G => by
    have z := se_lstM (pos := p) (CEs.snd fn es Γ X W0 h G).a
    exact ⟨z, st_truth z rfl⟩
  | .lst false es p, Γ, X, W0, h, G => by
    have z := se_lst (pos := p) (CEs.snd fn es Γ X W0 h G).a
    exact ⟨z, st_truth z rfl⟩
  | .disp ks es p, Γ, X, W0, h, G => by
    obtain ⟨h1, h234⟩ := and_tt h
    obtain ⟨h2, h34⟩ := and_tt h234
    obtain ⟨h3, h4⟩ := and_tt h34
    have h2 := of_decide_eq_true h2
    have h3 := of_decide_eq_true h3
    have h4 := of_decide_eq_true h4
    have zs := CEs.snd fn es Γ X W0 h1 G
    have z := se_disp (zs.disp ks p h2) (by simp) (by rw [List.length_map, CEs.toEs_len]; exact h2) (fun e => h3 (List.map_eq_nil_iff.mp e)) (by rw [List.length_map]; exact h4)
    exact ⟨z, st_truth z rfl⟩
  | .ix a b p, Γ, X, W0, h, G => by
    obtain ⟨h1, h2⟩ := and_tt h
    have hu := G.un
    have z := se_ix (pos := p) (by omega) (CE.snd fn a Γ X W0 h1 G).v (CE.snd fn b Γ X W0 h2 G).v (plain_ix (CE.plain Γ b h2))
    exact ⟨z, st_truth z rfl⟩
  | .sl a lo hi p2 p, Γ, X, W0, h, G => by
    obtain ⟨h1, h23⟩ := and_tt h
    obtain ⟨h2, h3⟩ := and_tt h23
    have z := se_slice (pos := p) (p2 := p2) (CE.snd fn a Γ X W0 h1 G).v (CO.snd fn lo Γ X W0 h2 G).1 (CO.snd fn hi Γ X W0 h3 G).1
    exact ⟨z, st_truth z rfl⟩
  | .blt f a es pf p, Γ, X, W0, h, G => by
    obtain ⟨h1, h23⟩ := and_tt h
    obtain ⟨h2, h3⟩ := and_tt h23
    have hp := plain_star (CE.plain Γ a h2)
    have zs := CEs.snd fn es Γ X W0 h3 G
    have z := blt_ok (pf := pf) (p := p) G f h1 (sa_cons (CE.snd fn a Γ X W0 h2 G).v zs.a hp) (by rw [List.all_cons, hp, zs.s]; rfl)
    exact ⟨z, st_truth z rfl⟩
  | .isa T a pT pf p, Γ, X, W0, h, G => by
    obtain ⟨h1, h23⟩ := and_tt h
    obtain ⟨h2, h3⟩ := and_tt h23
    have z := isa_ok (pf := pf) (p := p) (pT := pT) G T h1 h2 (CE.snd fn a Γ X W0 h3 G).v (plain_star (CE.plain Γ a h3))
    exact ⟨z, st_truth z rfl⟩
  | .meth m a b es apos cpos, Γ, X, W0, h, G => by
    obtain ⟨h1, h⟩ := and_tt h
    obtain ⟨h2, h⟩ := and_tt h
    obtain ⟨h3, h⟩ := and_tt h
    obtain ⟨h4, h⟩ := and_tt h
    obtain ⟨h5, h6⟩ := and_tt h
    have hp := plain_star (CE.plain Γ b h5)
    have zs := CEs.snd fn es Γ X W0 h6 G
    have z := meth_ok (apos := apos) (cpos := cpos) G m (CE.snd fn a Γ X W0 h4 G).v (sa_cons (CE.snd fn b Γ X W0 h5 G).v zs.a hp) h3 (by rw [CEs.toEs_len]; exact of_decide_eq_true h2) (by rw [List.all_cons, hp, zs.s]; rfl) h1
    exact ⟨z, st_truth z rfl⟩
  | .call j x a es pf p, Γ, X, W0, h, G => by
    obtain ⟨h1, h⟩ := and_tt h
    obtain ⟨h2, h⟩ := and_tt h
    obtain ⟨h3, h⟩ := and_tt h
    obtain ⟨h4, h5⟩ := and_tt h
    have hp := plain_star (CE.plain Γ a h4)
    have zs := CEs.snd fn es Γ X W0 h5 G
    have z := call_ok (pf := pf) (p := p) G h1 (not_true h2) (of_decide_eq_true h3) (by rw [List.length_cons, CEs.toEs_len]) (fun ρ M xs M' e => CEs.ev_len fn (.cons a es) ρ M xs M' e) (sa_cons (CE.snd fn a Γ X W0 h4 G).v zs.a hp) (by rw [List.all_cons, hp, zs.s]; rfl)
    exact ⟨z, st_truth z rfl⟩
  | .lc mu elt tg it c sc own p, Γ, X, W0, h, G => by
    obtain ⟨h1, h⟩ := and_tt h
    obtain ⟨h2, h⟩ := and_tt h
    obtain ⟨h3, h⟩ := and_tt h
    obtain ⟨h4, h⟩ := and_tt h
    obtain ⟨h5, h6⟩ := and_tt h
    have bo : BlkOk X.N X.env.scope sc own := by rw [G.N, G.sc]; exact blkOk_by h1
    have z := se_lc (W0 := W0) (pos := p) mu G.calm G.nd (CI.snd fn it Γ tg X W0 h4 G).1 bo (slots_ok h2) (fun s H C cl fp => CT.snd (G.blk sc s H C cl fp) tg h3) (fun s H C cl fp => (CO.snd fn c _ _ _ h5 (G.blk sc s H C cl fp)).2) (fun s H C cl fp => (CE.snd fn elt _ _ _ h6 (G.blk sc s H C cl fp)).v) (CI.snd fn it Γ tg X W0 h4 G).2
    exact ⟨z, st_truth z rfl⟩
  | .bad e, Γ, X, W0, h, G => ⟨⟨fun _ _ _ _ _ _ ⟨_, _, _, _, _, P⟩ => P.elim⟩, ⟨fun _ _ _ _ _ _ ⟨_, _, _, _, _, P⟩ => P.elim⟩⟩
theorem CEs.snd (fn : Fn) : ∀ (es : CEs) (Γ : Gam) (X : Cx) (W0 : WX), es.ok Γ = true → Good Γ fn X W0 → SndEs X W0 fn es
  | .nil, Γ, X, W0, h, G => ⟨sa_nil, rfl, fun a g p z => se_one z, fun a g p z => se_one z, fun a g p z => sw_and1 z, fun a g p z => sw_or1 z, fun ks p e => by
    cases ks with
    | nil => exact sp_nil
    | cons _ _ => cases e⟩
  | .cons b es, Γ, X, W0, h, G => by
    obtain ⟨h1, h2⟩ := and_tt h
    have zb := CE.snd fn b Γ X W0 h1 G
    have zs := CEs.snd fn es Γ X W0 h2 G
    have hp := plain_star (CE.plain Γ b h1)
    refine ⟨sa_cons zb.v zs.a hp, ?_, fun a g p z => se_and z (zs.an _ _ p zb.v), fun a g p z => se_or z (zs.orr _ _ p zb.v), fun a g p z => sw_and z (zs.anT _ _ p zb.t), fun a g p z => sw_or z (zs.orT _ _ p zb.t), fun ks p e => ?_⟩
    · show (b.toE :: es.toEs).all notStar = true
      rw [List.all_cons, hp, zs.s]
      rfl
    · cases ks with
      | nil => cases e
      | cons k ks => exact sp_cons pe_str zb.v (zs.disp ks p (Nat.succ.inj e))
theorem CO.snd (fn : Fn) : ∀ (o : CO) (Γ : Gam) (X : Cx) (W0 : WX), o.ok Γ = true → Good Γ fn X W0 → SI X W0 o.toO (o.evI fn) ∧ SW1 X W0 o.toL (o.evC fn)
  | .none, Γ, X, W0, h, G => ⟨si_none, st1_nil⟩
  | .some a, Γ, X, W0, h, G => ⟨si_some (CE.snd fn a Γ X W0 h G).v, st1_one (CE.snd fn a Γ X W0 h G).t⟩
theorem CI.snd (fn : Fn) : ∀ (it : CI) (Γ : Gam) (tg : CT) (X : Cx) (W0 : WX), it.ok Γ tg = true → Good Γ fn X W0 → SIt X W0 tg.toE it.toE (it.ev fn) ∧ ∀ x, foldedSetIterable it.toE X.env x = pure x
  | .val a, Γ, tg, X, W0, h, G => ⟨sit_val (CE.snd fn a Γ X W0 h G).v, plain_fold (CE.plain Γ a h) _⟩
  | .rng1 a pf p, Γ, tg, X, W0, h, G => by
    obtain ⟨h1, h2⟩ := and_tt h
    have hp := plain_star (CE.plain Γ a h2)
    exact ⟨sit_rng1 (G.gl h1) (G.blt _ (by decide +kernel)) (sa_cons (CE.snd fn a Γ X W0 h2 G).v sa_nil hp) hp, fun _ => rfl⟩
  | .rng2 a b pf p, Γ, tg, X, W0, h, G => by
    obtain ⟨h1, h⟩ := and_tt h
    obtain ⟨h2, h3⟩ := and_tt h
    have hp := plain_star (CE.plain Γ a h2)
    have hq := plain_star (CE.plain Γ b h3)
    exact ⟨sit_rng2 (G.gl h1) (G.blt _ (by decide +kernel)) (sa_cons (CE.snd fn a Γ X W0 h2 G).v (sa_cons (CE.snd fn b Γ X W0 h3 G).v sa_nil hq) hp) hp hq, fun _ => rfl⟩
  | .zip a b pf p, Γ, .tup ts k tp, X, W0, h, G => by
    simp only [CI.ok, CT.toE, isTup, Bool.true_and] at h
    obtain ⟨h1, h⟩ := and_tt h
    obtain ⟨h2, h3⟩ := and_tt h
    have hp := plain_star (CE.plain Γ a h2)
    have hq := plain_star (CE.plain Γ b h3)
    exact ⟨sit_zip (G.gl h1) (G.blt _ (by decide +kernel)) (sa_cons (CE.snd fn a Γ X W0 h2 G).v (sa_cons (CE.snd fn b Γ X W0 h3 G).v sa_nil hq) hp) hp hq, fun _ => rfl⟩
  | .zip a b pf p, Γ, .nm i x tp, X, W0, h, G => by
    simp [CI.ok, CT.toE, isTup] at h
  | .enu a pf p, Γ, .tup ts k tp, X, W0, h, G => by
    simp only [CI.ok, CT.toE, isTup, Bool.true_and] at h
    obtain ⟨h1, h2⟩ := and_tt h
    have hp := plain_star (CE.plain Γ a h2)
    exact ⟨sit_enu (G.gl h1) (G.blt _ (by decide +kernel)) (sa_cons (CE.snd fn a Γ X W0 h2 G).v sa_nil hp) hp, fun _ => rfl⟩
  | .enu a pf p, Γ, .nm i x tp, X, W0, h, G => by
    simp [CI.ok, CT.toE, isTup] at h
end
end Ev

namespace Ev
open PySem PySem.Spec PyProof.Rows L2

/-! ### statements: the checker -/
/-- a comprehension stored on its own line: whether the store goes first -/
def lcSwap (Γ : Gam) (x : Str) (px : Pos) (sc : Scope) (p : Pos) : Bool :=
  isLocal Γ.sc x && (px.line == p.line) && !(sc.names.any fun (n, k) => n == x && (k == .local || k == .cell))
mutual
def CS.ok (Γ : Gam) : CS → Bool
  | .set i x _ e _ => decide (Γ.N[i]? = some x) && (locB Γ x && (e.ok Γ && decide (Γ.sc.kind = .function) && (match e with
    | .bad e => !isLc e
    | _ => true)))
  | .tgt t e _ => isTup t.toE && (t.ok Γ && (e.ok Γ && !isTup e.toE))
  | .par i j x y px py _ _ a b _ _ _ => decide (Γ.N[i]? = some x) && (decide (Γ.N[j]? = some y) && (decide (i ≠ j) && (isLocal Γ.sc x && (isLocal Γ.sc y && (a.ok Γ && (b.ok Γ && (decide (Γ.sc.kind = .function) && ((py.line == px.line) && (!(x == y)
    && (!([a.toE, b.toE].all (foldedForSure 8)) && !([a.toE, b.toE].all (constantsAlone 8))))))))))))
  | .put o i e _ _ => o.ok Γ && (i.ok Γ && e.ok Γ)
  | .exp e _ => e.ok Γ && !isLc e.toE
  | .ret e _ => e.ok Γ
  | .retN _ => true
  | .ife c a b _ => c.ok Γ && (okSs Γ a && okSs Γ b)
  | .wh c b _ => c.ok Γ && okSs Γ b
  | .forr t it b _ => t.ok Γ && (it.ok Γ t && okSs Γ b)
  | .pass _ => true
  | .brk _ => true
  | .cont _ => true
  | .bad _ => true
def okSs (Γ : Gam) : List CS → Bool
  | [] => true
  | s :: r => s.ok Γ && okSs Γ r
end
section
theorem swap_no {e : Expr} (h : isLc e = false) (t : Option Expr) (l : Nat) (env : Env) : swapsWith e t l env = pure false := by
  cases e <;> first | rfl | cases h
theorem swap_lc {elt : Expr} {gs : List Comprehension} {sc : Scope} {p px : Pos} {x : Str} {l : Nat} {env : Env} (Γ : Gam) (hk : env.scope.kind = .function) (hs : env.scope = Γ.sc) : swapsWith (.ListComp elt gs sc p) (some (.Name x px)) l env = pure (lcSwap Γ x px sc p) := by
  have hb : env.blockKind = .function := by unfold Env.blockKind; rw [hk]; rfl
  have hx : (env.kindOf x == some .local) = isLocal Γ.sc x := by
    unfold isLocal Env.kindOf
    rw [hs]
    cases h : List.lookup x Γ.sc.names with
    | none => rfl
    | some k => cases k <;> rfl
  show pure (env.blockKind == .function && env.kindOf x == some .local && px.line == p.line && !(sc.names.any fun (n, k) => n == x && (k == .local || k == .cell))) = _
  rw [hb, hx]
  rfl
theorem store_no {ts : List Expr} {k : Nat} {pt : Pos} {e : Expr} (h : isTup e = false) (env : Env) : swappedStores [.Tuple ts k pt] e env = pure none := by
  cases e <;> first | rfl | cases h
theorem swapT_no {ts : List Expr} {k : Nat} {pt : Pos} (e : Expr) (l : Nat) (env : Env) : swapsWithSole [.Tuple ts k pt] e l env = pure false := by
  cases e <;> rfl
theorem swapI_no {o i : Expr} {pt : Pos} (e : Expr) (l : Nat) (env : Env) : swapsWithSole [.Subscript o i pt] e l env = pure false := by
  cases e <;> rfl
theorem sub_ok {o i : Expr} {p' : Pos} (h : plainE i = true) (env : Env) : ∀ v, assign (.Subscript o i p') env v = (do
      let ov ← holding [v] (eval o env)
      let iv ← holding [v, ov] (eval i env)
      standAt p'
      holding [v, ov, iv] (setItem ov iv v)
      release [v, ov, iv] []) := by
  cases i <;> first | (intro v; rfl) | cases h
end
mutual
theorem CS.snd (fn : Fn) : ∀ (s : CS) (Γ : Gam) (X : Cx) (W0 : WX), s.ok Γ = true → Good Γ fn X W0 → PassesOwn (model X.prog X.w) X.A X.env X.xe → SS X W0 s.toS (s.ev fn)
  | .set i x px e p, Γ, X, W0, h, G, hp => by
    obtain ⟨h1, h⟩ := and_tt h
    obtain ⟨h2, h⟩ := and_tt h
    obtain ⟨h3, h5⟩ := and_tt h
    obtain ⟨h3, h4⟩ := and_tt h3
    have h4 : X.env.scope.kind = .function := by rw [G.sc]; exact of_decide_eq_true h4
    have ze := (CE.snd fn e Γ X W0 h3 G).v
    have hl := G.loc h2
    cases e with
    | bad e0 => exact ss_set G.nd (G.at h1) hl.1 ze (swap_no (not_true h5) _ _ _) hl.2
    | lc mu elt tg it c sc own lp =>
      cases hsw : lcSwap Γ x px sc lp with
      | false => exact ss_set G.nd (G.at h1) hl.1 ze (by rw [← hsw]; exact swap_lc Γ h4 G.sc) hl.2
      | true =>
        have hx : isLocal Γ.sc x = true := by
          unfold lcSwap at hsw
          exact (and_tt (and_tt hsw).1).1
        obtain ⟨g1, h⟩ := and_tt h3
        obtain ⟨g2, h⟩ := and_tt h
        obtain ⟨g3, h⟩ := and_tt h
        obtain ⟨g4, h⟩ := and_tt h
        obtain ⟨g5, g6⟩ := and_tt h
        have bo : BlkOk X.N X.env.scope sc own := by rw [G.N, G.sc]; exact blkOk_by g1
        exact ss_setLc mu G.calm G.nd (G.at h1) (by rw [G.sc]; exact of_decide_eq_true hx) (by rw [← hsw]; exact swap_lc Γ h4 G.sc) (CI.snd fn it Γ tg X W0 g4 G).1 bo (slots_ok g2) (fun s H C cl fp => CT.snd (G.blk sc s H C cl fp) tg g3) (fun s H C cl fp => (CO.snd fn c _ _ _ g5 (G.blk sc s H C cl fp)).2) (fun s H C cl fp => (CE.snd fn elt _ _ _ g6 (G.blk sc s H C cl fp)).v) (CI.snd fn it Γ tg X W0 g4 G).2
    | isN neg a j pn p => exact ss_set G.nd (G.at h1) hl.1 ze (swap_no rfl _ _ _) hl.2
    | _ => exact ss_set G.nd (G.at h1) hl.1 ze (swap_no rfl _ _ _) hl.2
  | .tgt (.nm i x px) e p, Γ, X, W0, h, G, hp => by simp [CS.ok, CT.toE, isTup] at h
  | .tgt (.tup ts k pt) e p, Γ, X, W0, h, G, hp => by
    simp only [CS.ok] at h
    obtain ⟨_, h⟩ := and_tt h
    obtain ⟨h1, h⟩ := and_tt (a := (CT.tup ts k pt).ok Γ) (b := e.ok Γ && !isTup e.toE) h
    obtain ⟨h2, h3⟩ := and_tt h
    exact ss_tgt (CE.snd fn e Γ X W0 h2 G).v (CT.snd G (.tup ts k pt) h1) (swapT_no _ _ _) (store_no (not_true h3) _) rfl
  | .par i j x y px py kt pt a b k2 p2 p, Γ, X, W0, h, G, hp => by
    obtain ⟨h1, h⟩ := and_tt h
    obtain ⟨h2, h⟩ := and_tt h
    obtain ⟨h3, h⟩ := and_tt h
    obtain ⟨h4, h⟩ := and_tt h
    obtain ⟨h5, h⟩ := and_tt h
    obtain ⟨h6, h⟩ := and_tt h
    obtain ⟨h7, h⟩ := and_tt h
    obtain ⟨h8, h⟩ := and_tt h
    obtain ⟨h9, h⟩ := and_tt h
    obtain ⟨h10, h⟩ := and_tt h
    obtain ⟨h11, h12⟩ := and_tt h
    have ka := plain_star (CE.plain Γ a h6)
    have kb := plain_star (CE.plain Γ b h7)
    have hx : X.env.scope.names.lookup x = some .local := by rw [G.sc]; exact of_decide_eq_true h4
    have hy : X.env.scope.names.lookup y = some .local := by rw [G.sc]; exact of_decide_eq_true h5
    have hk : X.env.scope.kind = .function := by rw [G.sc]; exact of_decide_eq_true h8
    exact ss_par G.calm G.nd (G.at h1) (G.at h2) (of_decide_eq_true h3) hx hy (sa_cons (CE.snd fn a Γ X W0 h6 G).v (sa_cons (CE.snd fn b Γ X W0 h7 G).v sa_nil kb) ka)
      (sw_par hk hx hy h9 (not_true h10) (by rw [List.all_cons, List.all_cons, ka, kb]; rfl) (not_true h11) (not_true h12))
  | .put o i e ps p, Γ, X, W0, h, G, hp => by
    obtain ⟨h1, h⟩ := and_tt h
    obtain ⟨h2, h3⟩ := and_tt h
    have hu := G.un
    exact ss_put (by omega) (CE.snd fn o Γ X W0 h1 G).v (CE.snd fn i Γ X W0 h2 G).v (CE.snd fn e Γ X W0 h3 G).v (swapI_no _ _ _) (sub_ok (CE.plain Γ i h2) _)
  | .exp e p, Γ, X, W0, h, G, hp => by
    obtain ⟨h1, h2⟩ := and_tt h
    exact ss_expr (CE.snd fn e Γ X W0 h1 G).v (swap_no (not_true h2) _ _ _)
  | .ret e p, Γ, X, W0, h, G, hp => ss_ret (CE.snd fn e Γ X W0 h G).v
  | .retN p, Γ, X, W0, h, G, hp => ss_retN
  | .ife c a b p, Γ, X, W0, h, G, hp => by
    obtain ⟨h1, h⟩ := and_tt h
    obtain ⟨h2, h3⟩ := and_tt h
    exact ss_if (CE.snd fn c Γ X W0 h1 G).t (sss_snd fn a Γ X W0 h2 G hp) (sss_snd fn b Γ X W0 h3 G hp)
  | .wh c b p, Γ, X, W0, h, G, hp => by
    obtain ⟨h1, h2⟩ := and_tt h
    exact ss_while hp (CE.snd fn c Γ X W0 h1 G).t (sss_snd fn b Γ X W0 h2 G hp)
  | .forr t it b p, Γ, X, W0, h, G, hp => by
    obtain ⟨h1, h⟩ := and_tt h
    obtain ⟨h2, h3⟩ := and_tt h
    have zi := CI.snd fn it Γ t X W0 h2 G
    exact ss_for hp G.calm zi.1 (CT.snd G t h1) (sss_snd fn b Γ X W0 h3 G hp) zi.2
  | .pass p, Γ, X, W0, h, G, hp => ss_pass
  | .brk p, Γ, X, W0, h, G, hp => ss_brk
  | .cont p, Γ, X, W0, h, G, hp => ss_cont
  | .bad st, Γ, X, W0, h, G, hp => ss_bad
theorem sss_snd (fn : Fn) : ∀ (l : List CS) (Γ : Gam) (X : Cx) (W0 : WX), okSs Γ l = true → Good Γ fn X W0 → PassesOwn (model X.prog X.w) X.A X.env X.xe → SSs X W0 (toSs l) (evSs fn l)
  | [], Γ, X, W0, h, G, hp => sss_nil
  | s :: l, Γ, X, W0, h, G, hp => by
    obtain ⟨h1, h2⟩ := and_tt h
    exact sss_cons (CS.snd fn s Γ X W0 h1 G hp) (sss_snd fn l Γ X W0 h2 G hp)
end

/-! ### defs -/
structure FnS where
  x : Str
  ps : List Str
  N : List Str
  sc : Scope
  body : List CS
  keep : Bool
def startR (N : List Str) (xs : List Vl) : Rho := xs.map some ++ List.replicate (N.length - xs.length) none
/-- what a def hands back: its own cells are forgotten, but for a dict (a list, where keep says so) -/
def finV (keep : Bool) (k : Nat) (M : Sto) : Vl → Out Vl
  | .d x => .ok (.d x) (M.take k)
  | .ref n => if n < k then .ok (.ref n) (M.take k) else match M[n]? with
    | some (.lst xs) => if keep then .ok (.ref k) (M.take k ++ [.lst xs]) else .ok (.d (.list xs)) (M.take k)
    | some (.frz x) => .ok (.d x) (M.take k)
    | some (.dct kvs) => .ok (.ref k) (M.take k ++ [.dct kvs])
    | none => .bad
def finR (keep : Bool) (k : Nat) : OutS → Out Vl
  | .nx _ M => .ok (.d .none) (M.take k)
  | .rt v M => finV keep k M v
  | .exc x _ M => .exc x (M.take k)
  | _ => .bad
def runF (F : FnS) (fn : Fn) : Op1 := fun xs M => if xs.length = F.ps.length then finR F.keep M.length (evSs fn F.body (startR F.N xs) M) else .bad
def run (tab : List FnS) : Nat → Nat → Op1
  | 0 => fun j => match tab[j]? with
    | some F => runF F none
    | none => fun _ _ => .bad
  | n + 1 => fun j => match tab[j]? with
    | some F => runF F (some (run tab n))
    | none => fun _ _ => .bad
def gamOf (tab : List FnS) (F : FnS) : Gam := ⟨F.N, F.sc, true, fun j => (tab[j]?).map fun F => (F.x, F.ps.length)⟩
section
variable {K : PySem.W.Frag} {W W' : Wd} {H : Hp} {M M' : Sto}
theorem le_cut (l : W.le W') : W.le ⟨W'.Z, W'.μ.take W.μ.length⟩ := by
  obtain ⟨s, ν, e⟩ := l
  refine ⟨s, [], ?_⟩
  show W'.μ.take W.μ.length = W.μ ++ []
  rw [e, List.append_nil, List.take_left]
/-- one cell of the last ones is kept -/
theorem RelM.keep (R : RelM K W' H M') (k n : Nat) (hk : k ≤ n) {a : Addr} {c : Cell} (ha : W'.μ[n]? = some a) (hc : M'[n]? = some c) : RelM K ⟨W'.Z, W'.μ.take k ++ [a]⟩ H (M'.take k ++ [c]) := by
  have hn := (List.getElem?_eq_some_iff.mp hc).1
  have hna : a ∉ W'.μ.take k := fun h => by
    obtain ⟨i, hi⟩ := List.getElem?_of_mem h
    have hik : i < k := by
      have := (List.getElem?_eq_some_iff.mp hi).1
      rw [List.length_take] at this
      omega
    rw [List.getElem?_take_of_lt hik] at hi
    obtain ⟨p1, q1⟩ := List.getElem?_eq_some_iff.mp ha
    obtain ⟨p2, q2⟩ := List.getElem?_eq_some_iff.mp hi
    have := (List.getElem_inj R.nd).mp (q1.trans q2.symm)
    omega
  refine ⟨R.sub, by simp [R.len], ?_, fun m b d h1 h2 => ?_⟩
  · show (W'.μ.take k ++ [a]).Nodup
    rw [List.nodup_append]
    refine ⟨R.nd.sublist (List.take_sublist _ _), by simp, fun x hx y hy => ?_⟩
    have : y = a := by simpa using hy
    rw [this]
    exact fun z => hna (z ▸ hx)
  · have h1 : (W'.μ.take k ++ [a])[m]? = some b := h1
    have hl : (W'.μ.take k).length = (M'.take k).length := by rw [List.length_take, List.length_take, R.len]
    by_cases hm : m < (M'.take k).length
    · rw [List.getElem?_append_left (by rw [hl]; exact hm)] at h1
      rw [List.getElem?_append_left hm] at h2
      have hmk : m < k := by rw [List.length_take] at hm; omega
      rw [List.getElem?_take_of_lt hmk] at h1 h2
      exact R.cell m b d h1 h2
    · have hm2 : m < (M'.take k ++ [c]).length := (List.getElem?_eq_some_iff.mp h2).1
      have em : m = (M'.take k).length := by rw [List.length_append, List.length_singleton] at hm2; omega
      subst em
      rw [← hl, List.getElem?_append_right (Nat.le_refl _), Nat.sub_self] at h1
      rw [List.getElem?_append_right (Nat.le_refl _), Nat.sub_self] at h2
      cases h1
      cases h2
      exact R.cell n a c ha hc
theorem le_keep (l : W.le W') {a : Addr} : W.le ⟨W'.Z, W'.μ.take W.μ.length ++ [a]⟩ := by
  obtain ⟨s, ν, e⟩ := l
  refine ⟨s, [a], ?_⟩
  show W'.μ.take W.μ.length ++ [a] = W.μ ++ [a]
  rw [e, List.take_left]
theorem start_rel {N : List Str} {vs : List V} {xs : List Vl} (r : VlsR K W vs xs) : SltR K W (start N vs) (startR N xs) := by
  refine ⟨by simp [L2.start, startR, r.length], fun i x e => ?_⟩
  unfold startR at e
  by_cases hi : i < xs.length
  · rw [List.getElem?_append_left (by simpa using hi), List.getElem?_map] at e
    cases e2 : xs[i]? with
    | none => rw [e2] at e; cases e
    | some y =>
      rw [e2] at e
      cases e
      obtain ⟨v, h1, h2⟩ := r.get e2
      refine ⟨v, ?_, h2⟩
      unfold L2.start
      rw [List.getElem?_append_left (by rw [List.length_map, r.length]; exact hi), List.getElem?_map, h1]
      rfl
  · rw [List.getElem?_append_right (by simpa using Nat.le_of_not_lt hi), List.getElem?_replicate] at e
    split at e <;> cases e
theorem fin_post {E : XK} {σ : L2.St} {o : OutS} {keep : Bool} {Q : VK} (hl : W.μ.length = M.length) (P : Post (VlR K) K (fun c d _ H => E c d H) W σ (finR keep M.length o) Q) : PostS K (fun c d _ H => E c d H) W o { nx := fun _ H' => Q .non H', rt := Q } := by
  cases o with
  | bad => exact P.elim
  | bk _ _ => exact P.elim
  | ct _ _ => exact P.elim
  | nx ρ M1 =>
    intro σ' H' W' l R S
    exact P .non H' _ (le_cut l) (by rw [hl]; exact R.trunc _) .non
  | exc x ρ M1 =>
    intro c d σ' H' W' l R S z
    exact P c d H' _ (le_cut l) (by rw [hl]; exact R.trunc _) z
  | rt v M1 =>
    intro u H' W' l R r
    cases v with
    | d x => exact P u H' _ (le_cut l) (by rw [hl]; exact R.trunc _) r
    | ref n =>
      have P : Post (VlR K) K (fun c d _ H => E c d H) W σ (finV keep M.length M1 (.ref n)) Q := P
      simp only [finV] at P
      obtain ⟨a, rfl, ha⟩ := r
      by_cases hn : n < M.length
      · rw [if_pos hn] at P
        refine P _ H' _ (le_cut l) (by rw [hl]; exact R.trunc _) ⟨a, rfl, ?_⟩
        show (W'.μ.take W.μ.length)[n]? = some a
        rw [List.getElem?_take_of_lt (by rw [hl]; exact hn)]
        exact ha
      · rw [if_neg hn] at P
        have hk := Nat.le_of_not_lt hn
        have hat : ∀ (q : List Addr), (W'.μ.take W.μ.length ++ [a])[M.length]? = some a := fun _ => by
          have hlt : (W'.μ.take W.μ.length).length = M.length := by
            rw [List.length_take, hl]
            have := (List.getElem?_eq_some_iff.mp ha).1
            omega
          rw [← hlt, List.getElem?_append_right (Nat.le_refl _), Nat.sub_self]
          rfl
        cases e : M1[n]? with
        | none => simp only [e] at P; exact P.elim
        | some c =>
          simp only [e] at P
          cases c with
          | dct kvs => exact P _ H' _ (le_keep l) (by rw [hl]; exact R.keep _ n hk ha e) ⟨a, rfl, hat []⟩
          | frz x =>
            obtain ⟨_, hd⟩ := R.cell n a _ ha e
            exact P _ H' _ (le_cut l) (by rw [hl]; exact R.trunc _) hd
          | lst xs =>
            cases keep with
            | true => exact P _ H' _ (le_keep l) (by rw [hl]; exact R.keep _ n hk ha e) ⟨a, rfl, hat []⟩
            | false =>
              obtain ⟨W2, l2, R2, d2⟩ := R.freeze ha e
              have em : (M1.set n (.frz (.list xs))).take M.length = M1.take M.length := by rw [List.take_set_of_le hk]
              refine P _ H' _ (le_cut (l.trans l2)) ?_ d2
              rw [← em, hl]
              exact R2.trunc _
end
/-- a def of the table, as it stands behind the top -/
structure DefOk (K : PySem.W.Frag) (mg : Str → Option Value) (F : FnS) : Prop where
  fd : ∃ f fd qual params kws, mg F.x = some (.ref f) ∧ FunD K F.x qual params (toSs F.body) F.sc [] kws f fd ∧ Binds K fd F.ps []
  sc : FnScope F.N F.ps F.sc
section
variable {P : Program} {w : World} {K : PySem.W.Frag} {mg : Str → Option Value} {base : Heap} {tab : List FnS}
theorem tab_ok (hd : ∀ F ∈ tab, DefOk K mg F) (hok : ∀ F ∈ tab, okSs (gamOf tab F) F.body = true) (hb : ∀ x ∈ bltNames, mg x = none) : ∀ n j F, tab[j]? = some F → (∃ f fd, (∃ qual params kws, FunD K F.x qual params (toSs F.body) F.sc [] kws f fd) ∧ FnAtP P w K mg base (n + 1) F.x F.ps (run tab n j) f fd) := by
  have step : ∀ (n : Nat) (fn : Fn) (F : FnS), F ∈ tab → (∀ r, fn = some r → ∀ j x k, (gamOf tab F).fns j = some (x, k) → FnAt P w K mg base n x k (r j)) → (∃ f fd, (∃ qual params kws, FunD K F.x qual params (toSs F.body) F.sc [] kws f fd) ∧ FnAtP P w K mg base (n + 1) F.x F.ps (runF F fn) f fd) := by
    intro n fn F hF hc
    have D := hd F hF
    obtain ⟨f, fd, qual, params, kws, h1, h2, h3⟩ := D.fd
    refine ⟨f, fd, ⟨qual, params, kws, h2⟩, h1, h2.kp, h3, FunD.ok h2 D.sc (fun vs H Q E h => h.1) fun cdv A outer s H vs Q E room hsp => ?_⟩
    obtain ⟨hlen, W, M, σ, xs, R, r, Pp⟩ := hsp
    have G : Good (gamOf tab F) fn (cxOf (L2.CX P w) P w K mg base F.N qual F.sc f cdv A outer s H E) (fun c d _ H => E c d H) := {
      N := rfl
      nd := D.sc.nd
      sc := rfl
      fb := fun _ _ => rfl
      calm := rfl
      un := by have := room.un; show (A.deeper _).units + 65 < cLine; omega
      blt := hb
      tk := takes_of rfl rfl rfl rfl
      calls := fun r hr => ⟨n, room, fun j x k hj => hc r hr j x k hj⟩ }
    refine ⟨_, sss_snd fn F.body (gamOf tab F) _ _ (hok F hF) G (passes_of rfl), startR F.N xs, M, W, R, start_rel r, ?_⟩
    have Pp : Post (VlR K) K (fun c d _ H => E c d H) W σ (runF F fn xs M) Q := Pp
    unfold runF at Pp
    obtain ⟨_, P2⟩ := if_post Pp
    exact fin_post R.len P2
  have mem : ∀ j F, tab[j]? = some F → F ∈ tab := fun j F h => List.mem_of_getElem? h
  intro n
  induction n with
  | zero =>
    intro j F hj
    have e : run tab 0 j = runF F none := by simp only [run, hj]
    rw [e]
    exact step 0 none F (mem j F hj) fun r hr => by cases hr
  | succ n ih =>
    intro j F hj
    have e : run tab (n + 1) j = runF F (some (run tab n)) := by simp only [run, hj]
    rw [e]
    refine step (n + 1) (some (run tab n)) F (mem j F hj) fun r hr i x k hi => ?_
    cases hr
    simp only [gamOf] at hi
    cases e2 : tab[i]? with
    | none => rw [e2] at hi; cases hi
    | some F2 =>
      rw [e2] at hi
      cases hi
      obtain ⟨f, fd, _, h⟩ := ih i F2 e2
      exact ⟨f, fd, F2.ps, rfl, h⟩
end
end Ev

namespace Ev
open PySem PySem.Spec PyProof.Rows L2

/-! ### a law's end -/
def CXa : CXT := fun _ _ _ E _ _ => ∃ c d H', E c d H'
theorem fnOk_weak {P : Program} {w : World} {K : PySem.W.Frag} {mg : Str → Option Value} {base : Heap} {k : Nat} {f : Addr} {fd : FuncData} {ps : List Str} {sp : Sp} (F : FnOk P w K mg base (L2.CX P w) k f fd ps sp) : FnOk P w K mg base CXa k f fd ps sp :=
  ⟨F.len, fun A outer s H args us vs Q E r e b v h => codeAny_mono (F.run A outer s H args us vs Q E r e b v h) fun r s' hq => by
    cases r with
    | ok fl => cases fl <;> exact hq
    | error e =>
      obtain ⟨_, _, H', c, d, _, _, _, _, _, _, _, h⟩ := (show L2.CX P w outer H s E e s' from hq)
      exact ⟨c, d, H', h⟩⟩
/-- how a def of the table stands in the text: its parameters, all of them plain -/
structure FnT where
  F : FnS
  args : Arguments
def FnT.d (T : FnT) : He.DefD := ⟨(T.F.x, none), T.F.x, T.F.x, T.args, toSs T.F.body, T.F.sc, [], []⟩
/-- how its call binds -/
def BindP (T : FnT) : Prop := ∀ (x qual : Str) (body : List Stmt) (scope : Scope) (kV doc pm : Value) (an : Option Addr) (cdv ct : Value) (us : List Value), us.length = T.F.ps.length →
  bindArgs (PySem.W.fnOf x qual T.args body scope .none kV doc pm an cdv ct) { pos := us } = pure (T.F.ps.zip us)
def BindAll : List FnT → Prop
  | [] => True
  | T :: r => BindP T ∧ BindAll r
theorem bindAll_at : ∀ {ts : List FnT}, BindAll ts → ∀ T ∈ ts, BindP T
  | [], _, T, h => by cases h
  | A :: r, hb, T, h => by
    rcases List.mem_cons.mp h with h | h
    · subst h; exact hb.1
    · exact bindAll_at hb.2 T h
def scOk (F : FnS) : Bool := decide (F.sc.kind = .function) && (!F.sc.isCoroutine && (!F.sc.isGenerator && (decide F.N.Nodup && (decide (F.N.take F.ps.length = F.ps) && ((F.ps.all fun x => match F.sc.names.lookup x with
  | some .local => true
  | some .cell => true
  | _ => false) && F.sc.names.all fun y => decide (y.2 ≠ .free))))))
theorem scOk_ok {F : FnS} (h : scOk F = true) : FnScope F.N F.ps F.sc := by
  obtain ⟨h1, h⟩ := and_tt h
  obtain ⟨h2, h⟩ := and_tt h
  obtain ⟨h3, h⟩ := and_tt h
  obtain ⟨h4, h⟩ := and_tt h
  obtain ⟨h5, h⟩ := and_tt h
  obtain ⟨h6, h7⟩ := and_tt h
  refine ⟨of_decide_eq_true h1, not_true h2, not_true h3, of_decide_eq_true h4, of_decide_eq_true h5, fun x hx => ?_, fun y hy => of_decide_eq_true (List.all_eq_true.mp h7 y hy)⟩
  have := List.all_eq_true.mp h6 x hx
  split at this
  · rename_i e; exact .inl e
  · rename_i e; exact .inr e
  · cases this
def tabOk (ts : List FnT) : Bool := ts.all fun T => scOk T.F && okSs (gamOf (ts.map (·.F)) T.F) T.F.body
theorem defs_ok {ts : List FnT} {fa : List He.Fa} {fn : List He.DefD} {K : PySem.W.Frag} {h : Heap} {mg : Str → Option Value} (X : K.In h) (G : h.Ns mainGlobals mg) (c : He.SaysD fa fn K) (hfn : fn = ts.map FnT.d) (hfa : fa = (ts.map fun T => He.Fa.glo T.F.x) ++ bltNames.map He.Fa.free) (hok : tabOk ts = true) (hbi : BindAll ts) :
    (∀ F ∈ ts.map (·.F), DefOk K mg F) ∧ (∀ F ∈ ts.map (·.F), okSs (gamOf (ts.map (·.F)) F) F.body = true) ∧ ∀ x ∈ bltNames, mg x = none := by
  have hall := List.all_eq_true.mp hok
  refine ⟨fun F hF => ?_, fun F hF => ?_, fun x hx => ?_⟩
  · obtain ⟨T, hT, rfl⟩ := List.mem_map.mp hF
    obtain ⟨h2, h3⟩ := and_tt (hall T hT)
    refine ⟨?_, scOk_ok h2⟩
    obtain ⟨i, hi⟩ := List.getElem?_of_mem hT
    have e1 : fn[i]? = some T.d := by rw [hfn, List.getElem?_map, hi]; rfl
    obtain ⟨fd, D⟩ := c.def_ i e1
    have e2 : fa[i]? = some (.glo T.F.x) := by
      rw [hfa, List.getElem?_append_left (by rw [List.length_map]; exact (List.getElem?_eq_some_iff.mp hi).1), List.getElem?_map, hi]
      rfl
    have hm := He.glo_ok X G (c.fact i e2)
    refine ⟨He.ga K T.F.x, fd, T.F.x, T.args, [], hm, D, ?_⟩
    have D2 : FunD K T.F.x T.F.x T.args (toSs T.F.body) T.F.sc [] [] (He.ga K T.F.x) fd := D
    intro s us hk hl
    rw [List.append_nil] at hl ⊢
    exact FunD.bindsA (ps := T.F.ps) D2 (fun kV doc pm an cdv ct us hl => bindAll_at hbi T hT _ _ _ _ kV doc pm an cdv ct us hl) s us hl
  · obtain ⟨T, hT, rfl⟩ := List.mem_map.mp hF
    exact (and_tt (hall T hT)).2
  · have hm : He.Fa.free x ∈ fa := by rw [hfa]; exact List.mem_append_right _ (List.mem_map.mpr ⟨x, hx, rfl⟩)
    obtain ⟨i, hi⟩ := List.getElem?_of_mem hm
    exact He.free_ok X G (c.fact i hi)
theorem fund_one {K : PySem.W.Frag} {x qual x' qual' : Str} {params params' : Arguments} {body body' : List Stmt} {scope scope' : Scope} {dvs dvs' : List V} {kws kws' : List (Str × V)} {f : Addr} {fd fd' : FuncData} (a : FunD K x qual params body scope dvs kws f fd) (b : FunD K x' qual' params' body' scope' dvs' kws' f fd') : fd = fd' := by
  obtain ⟨oc, od, dV, kV, doc, pm, an, cdv, ct, osl, q1, q2, _⟩ := a.ex
  obtain ⟨oc', od', dV', kV', doc', pm', an', cdv', ct', osl', p1, p2, _⟩ := b.ex
  rw [q2] at p2
  cases p2
  rfl
/-- the script as data -/
def scriptD (ns : List Int) : Vl := .d (.list (ns.map .int))
theorem law_facts {P : Program} {w : World} {ts : List FnT} {fa : List He.Fa} {fn : List He.DefD} {K : PySem.W.Frag} {h : Heap} {mg : Str → Option Value} {fl : Addr} {n lvl j : Nat} {F : FnS} {x : Str} (X : K.In h) (G : h.Ns mainGlobals mg) (c : He.SaysD fa fn K) (hfn : fn = ts.map FnT.d) (hfa : fa = (ts.map fun T => He.Fa.glo T.F.x) ++ bltNames.map He.Fa.free) (hok : tabOk ts = true) (hbi : BindAll ts)
    (hj : (ts.map (·.F))[j]? = some F) (hx : F.ps = [x]) (hmg : mg F.x = some (.ref fl))
    (hrun : ∀ ns : List Int, ns.length ≤ n → ∃ M, run (ts.map (·.F)) lvl j [scriptD ns] [] = .ok (.d (.bool true)) M) :
    ∃ K fd sp, PySem.W.Frag.In K h ∧ (∀ (s : Shared) (u : Value), BindsTo s fd ⟨[u], []⟩ [(x, u)]) ∧
        (∀ (H : Hp) (a : Addr) (ns : List Int), ns.length ≤ n → Only H → SqL K H a (ns.map V.int) → sp [.ref a] H (fun v _ => v = .bl true) fun _ _ _ => False) ∧
        ∀ base : Heap, K.In base → base.Ns mainGlobals mg → FnOk P w K mg base CXa (lvl + 1) fl fd [x] sp := by
  obtain ⟨hd, hb, hn⟩ := defs_ok X G c hfn hfa hok hbi
  -- the function's object is the same over every base
  have D := hd F (List.mem_of_getElem? hj)
  obtain ⟨f0, fd, qual, params, kws, h1, h2, h3⟩ := D.fd
  have e0 : f0 = fl := by rw [hmg] at h1; cases h1; rfl
  subst e0
  refine ⟨K, fd, spOf K F.ps (run (ts.map (·.F)) lvl j), X, fun s u => ?_, fun H a ns hl _ hS => ?_, fun base hB hN => ?_⟩
  · have sK : ∀ (us : List Value), us.length = F.ps.length → BindsTo s fd ⟨us, []⟩ (F.ps.zip us) := by
      obtain ⟨T, hT, eT⟩ := List.mem_map.mp (List.mem_of_getElem? hj)
      obtain ⟨i, hi⟩ := List.getElem?_of_mem hT
      have e1 : fn[i]? = some T.d := by rw [hfn, List.getElem?_map, hi]; rfl
      obtain ⟨fd', D'⟩ := c.def_ i e1
      have e2 : fa[i]? = some (.glo T.F.x) := by
        rw [hfa, List.getElem?_append_left (by rw [List.length_map]; exact (List.getElem?_eq_some_iff.mp hi).1), List.getElem?_map, hi]
        rfl
      have hm := He.glo_ok X G (c.fact i e2)
      rw [eT, hmg] at hm
      cases hm
      have D2 : FunD K T.F.x T.F.x T.args (toSs T.F.body) T.F.sc [] [] (He.ga K F.x) fd' := by rw [← eT]; exact D'
      have efd : fd' = fd := fund_one D2 h2
      subst efd
      intro us hl
      rw [← eT] at hl ⊢
      exact FunD.bindsA (ps := T.F.ps) D2 (fun kV doc pm an cdv ct us hl => bindAll_at hbi T hT _ _ _ _ kV doc pm an cdv ct us hl) s us hl
    have := sK [u] (by rw [hx]; rfl)
    rw [hx] at this
    exact this
  · obtain ⟨M, hr⟩ := hrun ns hl
    refine ⟨by rw [hx]; rfl, ⟨H, []⟩, [], [], [scriptD ns], ⟨Same.refl _, rfl, List.nodup_nil, fun n a c h => by simp at h⟩, .cons (Dq.lst hS (DqAll.ints ns)) .nil, ?_⟩
    rw [hr]
    intro v H' W' _ _ r
    have r : Dq K W'.Z v (.bool true) := r
    cases r
    rfl
  · obtain ⟨f, fd', ⟨qual', params', kws', D'⟩, e2, e3, e4, e5⟩ := tab_ok (P := P) (w := w) (base := base) hd hb hn lvl j F hj
    rw [hmg] at e2
    cases e2
    have efd : fd' = fd := fund_one D' h2
    subst efd
    rw [hx] at e5 ⊢
    exact fnOk_weak e5
end Ev

namespace Ev
open PySem PySem.Spec

/-! ### the plain law's tools -/
theorem cell_new (M : Sto) (c : Cell) : (M ++ [c])[M.length]? = some c := by simp
theorem set_new (M : Sto) (c d : Cell) : (M ++ [c]).set M.length d = M ++ [d] := by simp
theorem take_new (M : Sto) (c : Cell) : (M ++ [c]).take M.length = M := List.take_left
theorem addTo_new (M : Sto) (acc : List PyData) (d : PyData) (h : acc.length < sizeLine) : addTo M.length d (M ++ [.lst acc]) = some (M ++ [.lst (acc ++ [d])]) := by
  simp [addTo, h]
theorem step_lst (xs : List PyData) (i : Nat) (M : Sto) : ISrc.step i M (.lst (.d (.list xs))) = some ((xs.map Vl.d)[i]?) := by simp [ISrc.step, lsD, peek]
theorem step_tup (xs : List PyData) (i : Nat) (M : Sto) : ISrc.step i M (.tup (.d (.tuple xs))) = some ((xs.map Vl.d)[i]?) := by simp [ISrc.step, tpD, peek]
theorem step_rng (lo : Int) (n i : Nat) (M : Sto) : ISrc.step i M (.rng lo n) = some (((List.range n).map fun k => Vl.d (.int (lo + (k : Nat))))[i]?) := by
  simp only [ISrc.step, List.getElem?_map]
  by_cases h : i < n
  · rw [if_pos h, List.getElem?_range h]
    rfl
  · rw [if_neg h, List.getElem?_eq_none (by simpa using h)]
    rfl
theorem size_lst (xs : List PyData) (M : Sto) : ISrc.size M (.lst (.d (.list xs))) = (xs.map Vl.d).length := by simp [ISrc.size, lsD, peek]
theorem size_tup (xs : List PyData) (M : Sto) : ISrc.size M (.tup (.d (.tuple xs))) = (xs.map Vl.d).length := by simp [ISrc.size, tpD, peek]
theorem size_rng (lo : Int) (n : Nat) (M : Sto) : ISrc.size M (.rng lo n) = ((List.range n).map fun k => Vl.d (.int (lo + (k : Nat)))).length := by simp [ISrc.size]
/-- what a source walks -/
structure Walks (src : ISrc) (M : Sto) (xs : List Vl) : Prop where
  step : ∀ i M', src.step i M' = some xs[i]?
  size : src.size M = xs.length
theorem walks_lst (xs : List PyData) (M : Sto) : Walks (.lst (.d (.list xs))) M (xs.map Vl.d) := ⟨fun i M' => step_lst xs i M', size_lst xs M⟩
theorem walks_tup (xs : List PyData) (M : Sto) : Walks (.tup (.d (.tuple xs))) M (xs.map Vl.d) := ⟨fun i M' => step_tup xs i M', size_tup xs M⟩
theorem walks_rng (lo : Int) (n : Nat) (M : Sto) : Walks (.rng lo n) M ((List.range n).map fun k => Vl.d (.int (lo + (k : Nat)))) := ⟨fun i M' => step_rng lo n i M', size_rng lo n M⟩
theorem forE_inv {t : TgV} {b : EvS} {src : ISrc} {xs : List Vl} (hs : ∀ i M', src.step i M' = some xs[i]?) (P : Nat → Rho → Sto → Prop)
    (h : ∀ i x ρ M, xs[i]? = some x → P i ρ M → ∃ ρ1, t x ρ M = some ρ1 ∧ ∃ ρ2 M2, (b ρ1 M = .nx ρ2 M2 ∨ b ρ1 M = .ct ρ2 M2) ∧ P (i + 1) ρ2 M2) :
    ∀ k i ρ M, i ≤ xs.length → xs.length - i < k → P i ρ M → ∃ ρ' M', forE t b src k i ρ M = .nx ρ' M' ∧ P xs.length ρ' M' := by
  intro k
  induction k with
  | zero => intro i ρ M _ hk; omega
  | succ k ih =>
    intro i ρ M hi hk hP
    simp only [forE, hs]
    cases e : xs[i]? with
    | none =>
      have : xs.length ≤ i := List.getElem?_eq_none_iff.mp e
      have : i = xs.length := by omega
      subst this
      exact ⟨ρ, M, rfl, hP⟩
    | some x =>
      have hlt := (List.getElem?_eq_some_iff.mp e).1
      obtain ⟨ρ1, h1, ρ2, M2, h2, h3⟩ := h i x ρ M e hP
      obtain ⟨ρ', M', h4, h5⟩ := ih (i + 1) ρ2 M2 hlt (by omega) h3
      refine ⟨ρ', M', ?_, h5⟩
      simp only [h1]
      rcases h2 with h2 | h2 <;> simp only [h2] <;> exact h4
theorem for_inv {gi : Ev0S} {t : TgV} {b : EvS} {ρ : Rho} {M : Sto} {src : ISrc} {xs : List Vl} (hgi : gi ρ M = .ok src M) (w : Walks src M xs) (P : Nat → Rho → Sto → Prop) (h0 : P 0 ρ M)
    (h : ∀ i x ρ M, xs[i]? = some x → P i ρ M → ∃ ρ1, t x ρ M = some ρ1 ∧ ∃ ρ2 M2, (b ρ1 M = .nx ρ2 M2 ∨ b ρ1 M = .ct ρ2 M2) ∧ P (i + 1) ρ2 M2) :
    ∃ ρ' M', gsFor gi t b ρ M = .nx ρ' M' ∧ P xs.length ρ' M' := by
  simp only [gsFor, hgi, bindS, w.size]
  exact forE_inv w.step P h _ 0 ρ M (Nat.zero_le _) (by omega) h0
/-- a comprehension, step by step: S the store under it -/
theorem lcE_inv {t : TgV} {c : Ev0 Bool} {e : Ev0 Vl} {ρ0 : Rho} {n : Nat} {src : ISrc} {xs : List Vl} (hs : ∀ i M', src.step i M' = some xs[i]?) (P : Nat → Sto → List PyData → Prop)
    (hl : ∀ i S acc, P i S acc → S.length = n ∧ acc.length < sizeLine)
    (h : ∀ i x S acc, xs[i]? = some x → P i S acc → ∃ ρ1, t x ρ0 (S ++ [.lst acc]) = some ρ1 ∧ ((c ρ1 (S ++ [.lst acc]) = .ok false (S ++ [.lst acc]) ∧ P (i + 1) S acc) ∨
      (c ρ1 (S ++ [.lst acc]) = .ok true (S ++ [.lst acc]) ∧ ∃ d S', S'.length = n ∧ e ρ1 (S ++ [.lst acc]) = .ok (.d d) (S' ++ [.lst acc]) ∧ P (i + 1) S' (acc ++ [d])))) :
    ∀ k i S acc, i ≤ xs.length → xs.length - i < k → P i S acc → ∃ S' ys, lcE t c e ρ0 n src k i (S ++ [.lst acc]) = .ok () (S' ++ [.lst ys]) ∧ P xs.length S' ys := by
  intro k
  induction k with
  | zero => intro i S acc _ hk; omega
  | succ k ih =>
    intro i S acc hi hk hP
    simp only [lcE, hs]
    cases e1 : xs[i]? with
    | none =>
      have : xs.length ≤ i := List.getElem?_eq_none_iff.mp e1
      have : i = xs.length := by omega
      subst this
      exact ⟨S, acc, rfl, hP⟩
    | some x =>
      have hlt := (List.getElem?_eq_some_iff.mp e1).1
      obtain ⟨ρ1, h1, h2⟩ := h i x S acc e1 hP
      rcases h2 with ⟨h2, h3⟩ | ⟨h2, d, S', hS', h3, h4⟩
      · obtain ⟨S2, ys, h5, h6⟩ := ih (i + 1) S acc hlt (by omega) h3
        refine ⟨S2, ys, ?_, h6⟩
        simp only [h1, h2, noX, Out.bind]
        exact h5
      · obtain ⟨S2, ys, h5, h6⟩ := ih (i + 1) S' (acc ++ [d]) hlt (by omega) h4
        refine ⟨S2, ys, ?_, h6⟩
        have ha := (hl i S acc hP).2
        have hadd : addTo n d (S' ++ [.lst acc]) = some (S' ++ [.lst (acc ++ [d])]) := by
          rw [← hS']
          exact addTo_new S' acc d ha
        simp only [h1, h2, noX, Out.bind, h3, toD, hadd]
        exact h5
theorem lc_inv {own : List Nat} {gi : Ev0S} {t : TgV} {c : Ev0 Bool} {e : Ev0 Vl} {ρ : Rho} {M : Sto} {src : ISrc} {xs : List Vl} (hgi : gi ρ M = .ok src M) (w : Walks src M xs) (P : Nat → Sto → List PyData → Prop) (h0 : P 0 M [])
    (hl : ∀ i S acc, P i S acc → S.length = M.length ∧ acc.length < sizeLine)
    (h : ∀ i x S acc, xs[i]? = some x → P i S acc → ∃ ρ1, t x (wipeR ρ own) (S ++ [.lst acc]) = some ρ1 ∧ ((c ρ1 (S ++ [.lst acc]) = .ok false (S ++ [.lst acc]) ∧ P (i + 1) S acc) ∨
      (c ρ1 (S ++ [.lst acc]) = .ok true (S ++ [.lst acc]) ∧ ∃ d S', S'.length = M.length ∧ e ρ1 (S ++ [.lst acc]) = .ok (.d d) (S' ++ [.lst acc]) ∧ P (i + 1) S' (acc ++ [d])))) :
    ∃ S' ys, gLc false own gi t c e ρ M = .ok (.d (.list ys)) S' ∧ P xs.length S' ys := by
  obtain ⟨S', ys, h1, h2⟩ := lcE_inv w.step P hl h (src.size M + 1) 0 M [] (Nat.zero_le _) (by rw [w.size]; omega) h0
  refine ⟨S', ys, ?_, h2⟩
  have hS := (hl _ _ _ h2).1
  simp only [gLc, hgi, Out.bind, h1, lcFin]
  rw [← hS, cell_new]
  simp only [Bool.false_eq_true, if_false, take_new]
/-- a comprehension that touches no cell -/
theorem lc_pure {own : List Nat} {gi : Ev0S} {t : TgV} {c : Ev0 Bool} {e : Ev0 Vl} {ρ : Rho} {M : Sto} {src : ISrc} {xs : List Vl} (hgi : gi ρ M = .ok src M) (w : Walks src M xs) (hz : xs.length < sizeLine) (keep : Vl → Bool) (f : Vl → PyData)
    (h : ∀ x ∈ xs, ∀ M', ∃ ρ1, t x (wipeR ρ own) M' = some ρ1 ∧ c ρ1 M' = .ok (keep x) M' ∧ (keep x = true → e ρ1 M' = .ok (.d (f x)) M')) :
    gLc false own gi t c e ρ M = .ok (.d (.list ((xs.filter keep).map f))) M := by
  obtain ⟨S', ys, h1, h2, h3⟩ := lc_inv (own := own) (t := t) (c := c) (e := e) hgi w (fun i S acc => i ≤ xs.length ∧ S = M ∧ acc = ((xs.take i).filter keep).map f) ⟨Nat.zero_le _, rfl, by simp⟩
    (fun i S acc hP => by
      obtain ⟨h1, rfl, rfl⟩ := hP
      refine ⟨rfl, ?_⟩
      rw [List.length_map]
      refine Nat.lt_of_le_of_lt (List.length_filter_le _ _) (Nat.lt_of_le_of_lt (by rw [List.length_take]; omega) hz))
    (fun i x S acc hx hP => by
      obtain ⟨h1, rfl, rfl⟩ := hP
      obtain ⟨ρ1, g1, g2, g3⟩ := h x (List.mem_of_getElem? hx) (S ++ [.lst (((xs.take i).filter keep).map f)])
      have hlt := (List.getElem?_eq_some_iff.mp hx).1
      have etk : xs.take (i + 1) = xs.take i ++ [x] := by rw [List.take_succ, hx]; rfl
      refine ⟨ρ1, g1, ?_⟩
      cases hk : keep x with
      | false =>
        rw [hk] at g2
        exact .inl ⟨g2, hlt, rfl, by rw [etk, List.filter_append, List.filter_cons, hk]; simp⟩
      | true =>
        rw [hk] at g2
        exact .inr ⟨g2, f x, S, rfl, g3 hk, hlt, rfl, by rw [etk, List.filter_append, List.filter_cons, hk]; simp⟩)
  obtain ⟨rfl, rfl⟩ := h3
  rw [h1, List.take_length]
theorem wh_inv {c : Ev0 Bool} {b : EvS} (P R : Rho → Sto → Prop) (μ : Rho → Nat)
    (h : ∀ ρ M, P ρ M → ∃ k M1, c ρ M = .ok k M1 ∧ (k = true → ∃ ρ2 M2, (b ρ M1 = .nx ρ2 M2 ∨ b ρ M1 = .ct ρ2 M2) ∧ P ρ2 M2 ∧ μ ρ2 < μ ρ) ∧ (k = false → R ρ M1)) :
    ∀ k ρ M, μ ρ < k → P ρ M → ∃ ρ' M', whE c b k ρ M = .nx ρ' M' ∧ R ρ' M' := by
  intro k
  induction k with
  | zero => intro ρ M h; omega
  | succ k ih =>
    intro ρ M hk hP
    obtain ⟨t, M1, h1, h2, h3⟩ := h ρ M hP
    simp only [whE, h1, bindS]
    cases t with
    | false => exact ⟨ρ, M1, rfl, h3 rfl⟩
    | true =>
      obtain ⟨ρ2, M2, g1, g2, g3⟩ := h2 rfl
      obtain ⟨ρ', M', h4, h5⟩ := ih ρ2 M2 (by omega) g2
      refine ⟨ρ', M', ?_, h5⟩
      rcases g1 with g1 | g1 <;> simp only [g1, if_true] <;> exact h4
theorem runS {tb : List FnS} (n j : Nat) (F : FnS) (h : tb[j]? = some F) : Ev.run tb (n + 1) j = runF F (some (Ev.run tb n)) := by
  simp only [Ev.run, h]
theorem wh_of {c : Ev0 Bool} {b : EvS} {ρ : Rho} {M : Sto} {o : OutS} (hW : gsWh c b ρ M = o) (P R : Rho → Sto → Prop) (μ : Rho → Nat) (hP : P ρ M) (hμ : μ ρ < whFuel)
    (h : ∀ ρ M, P ρ M → ∃ k M1, c ρ M = .ok k M1 ∧ (k = true → ∃ ρ2 M2, (b ρ M1 = .nx ρ2 M2 ∨ b ρ M1 = .ct ρ2 M2) ∧ P ρ2 M2 ∧ μ ρ2 < μ ρ) ∧ (k = false → R ρ M1)) : ∃ ρ' M', o = .nx ρ' M' ∧ R ρ' M' := by
  obtain ⟨ρ', M', h1, h2⟩ := wh_inv P R μ h whFuel ρ M hμ hP
  exact ⟨ρ', M', hW.symm.trans h1, h2⟩
theorem for_of {gi : Ev0S} {t : TgV} {b : EvS} {ρ : Rho} {M : Sto} {o : OutS} {src : ISrc} {xs : List Vl} (hW : gsFor gi t b ρ M = o) (hgi : gi ρ M = .ok src M) (w : Walks src M xs) (P : Nat → Rho → Sto → Prop) (h0 : P 0 ρ M)
    (h : ∀ i x ρ M, xs[i]? = some x → P i ρ M → ∃ ρ1, t x ρ M = some ρ1 ∧ ∃ ρ2 M2, (b ρ1 M = .nx ρ2 M2 ∨ b ρ1 M = .ct ρ2 M2) ∧ P (i + 1) ρ2 M2) :
    ∃ ρ' M', o = .nx ρ' M' ∧ P xs.length ρ' M' := by
  obtain ⟨ρ', M', h1, h2⟩ := for_inv hgi w P h0 h
  exact ⟨ρ', M', hW.symm.trans h1, h2⟩
theorem lc_of {own : List Nat} {gi : Ev0S} {t : TgV} {c : Ev0 Bool} {e : Ev0 Vl} {ρ : Rho} {M : Sto} {o : Out Vl} {src : ISrc} {xs : List Vl} (hW : gLc false own gi t c e ρ M = o) (hgi : gi ρ M = .ok src M) (w : Walks src M xs) (P : Nat → Sto → List PyData → Prop) (h0 : P 0 M [])
    (hl : ∀ i S acc, P i S acc → S.length = M.length ∧ acc.length < sizeLine)
    (h : ∀ i x S acc, xs[i]? = some x → P i S acc → ∃ ρ1, t x (wipeR ρ own) (S ++ [.lst acc]) = some ρ1 ∧ ((c ρ1 (S ++ [.lst acc]) = .ok false (S ++ [.lst acc]) ∧ P (i + 1) S acc) ∨
      (c ρ1 (S ++ [.lst acc]) = .ok true (S ++ [.lst acc]) ∧ ∃ d S', S'.length = M.length ∧ e ρ1 (S ++ [.lst acc]) = .ok (.d d) (S' ++ [.lst acc]) ∧ P (i + 1) S' (acc ++ [d])))) :
    ∃ S' ys, o = .ok (.d (.list ys)) S' ∧ P xs.length S' ys := by
  obtain ⟨S', ys, h1, h2⟩ := lc_inv hgi w P h0 hl h
  exact ⟨S', ys, hW.symm.trans h1, h2⟩
theorem lcp_of {own : List Nat} {gi : Ev0S} {t : TgV} {c : Ev0 Bool} {e : Ev0 Vl} {ρ : Rho} {M : Sto} {o : Out Vl} {src : ISrc} {xs : List Vl} (hW : gLc false own gi t c e ρ M = o) (hgi : gi ρ M = .ok src M) (w : Walks src M xs) (hz : xs.length < sizeLine) (keep : Vl → Bool) (f : Vl → PyData)
    (h : ∀ x ∈ xs, ∀ M', ∃ ρ1, t x (wipeR ρ own) M' = some ρ1 ∧ c ρ1 M' = .ok (keep x) M' ∧ (keep x = true → e ρ1 M' = .ok (.d (f x)) M')) :
    o = .ok (.d (.list ((xs.filter keep).map f))) M := hW.symm.trans (lc_pure hgi w hz keep f h)
theorem ixL (xs : List PyData) (i : Int) : ixD (.list xs) (.int i) = L2.atI xs i := rfl
theorem ixT (xs : List PyData) (i : Int) : ixD (.tuple xs) (.int i) = L2.atI xs i := rfl
/-! #### sizes of ints -/
theorem log2_lt {n k : Nat} (h : n < 2 ^ k) (hk : 0 < k) : n.log2 < k := by
  by_cases h0 : n = 0
  · subst h0
    rw [show Nat.log2 0 = 0 by decide]
    exact hk
  · exact (Nat.log2_lt h0).mpr h
theorem mul_ok {i j : Int} {k m : Nat} (h1 : i.natAbs < 2 ^ k) (h2 : j.natAbs < 2 ^ m) (h : k + m < 999998) : mulD (.int i) (.int j) = some (.int (i * j)) := by
  have a := log2_lt (Nat.lt_of_lt_of_le h1 (Nat.pow_le_pow_right (by decide) (Nat.le_succ k))) (Nat.succ_pos _)
  have b := log2_lt (Nat.lt_of_lt_of_le h2 (Nat.pow_le_pow_right (by decide) (Nat.le_succ m))) (Nat.succ_pos _)
  simp only [mulD, if_pos (show i.natAbs.log2 + j.natAbs.log2 < 1000000 by omega)]
theorem div_ok {i j : Int} {m : Nat} (h2 : j.natAbs < 2 ^ m) (h0 : j ≠ 0) (h : m < 8999) : divD (.int i) (.int j) = some (.int (i.fdiv j)) := by
  have b := log2_lt (Nat.lt_of_lt_of_le h2 (Nat.pow_le_pow_right (by decide) (Nat.le_succ m))) (Nat.succ_pos _)
  simp only [divD, if_pos (show j ≠ 0 ∧ j.natAbs.log2 < 9000 from ⟨h0, by omega⟩)]
theorem mod_ok {i j : Int} (h0 : j ≠ 0) : modD (.int i) (.int j) = some (.int (i.fmod j)) := by
  simp only [modD, if_pos h0]
theorem pow_ok {i : Int} {j : Int} (h0 : 0 ≤ j) (h1 : j ≤ 1000000) (h2 : i.natAbs < 2 ^ 64) : powD (.int i) (.int j) = some (.int (i ^ j.toNat)) := by
  simp only [powD, if_pos (show 0 ≤ j ∧ j ≤ 1000000 ∧ i.natAbs < 2 ^ 64 from ⟨h0, h1, h2⟩)]
end Ev

namespace Ev
open PySem PySem.Spec

/-! #### a def, statement by statement -/
section
variable {fn : Fn} {r : List CS} {ρ : Rho} {M M1 M2 : Sto} {o : OutS} {e : CE} {v : Vl} {p : Pos}
theorem run_of {F : FnS} {xs : List Vl} (hl : xs.length = F.ps.length) (h : evSs fn F.body (startR F.N xs) M = o) : runF F fn xs M = finR F.keep M.length o := by
  simp only [runF, if_pos hl, h]
theorem ev_nil : evSs fn [] ρ M = .nx ρ M := rfl
theorem ev_set {i : Nat} {x : Str} {px : Pos} (h : CE.ev fn e ρ M = .ok v M1) (hr : evSs fn r (ρ.set i (some v)) M1 = o) : evSs fn (.set i x px e p :: r) ρ M = o := by
  show (bindS ρ (CE.ev fn e ρ M) fun x M1 => .nx (ρ.set i (some x)) M1).then (evSs fn r) = o
  rw [h]
  exact hr
theorem ev_exp (h : CE.ev fn e ρ M = .ok v M1) (hr : evSs fn r ρ M1 = o) : evSs fn (.exp e p :: r) ρ M = o := by
  show (bindS ρ (CE.ev fn e ρ M) fun _ M1 => .nx ρ M1).then (evSs fn r) = o
  rw [h]
  exact hr
theorem ev_tgt {t : CT} {ρ' : Rho} (h : CE.ev fn e ρ M = .ok v M1) (ht : t.ev v ρ M1 = some ρ') (hr : evSs fn r ρ' M1 = o) : evSs fn (.tgt t e p :: r) ρ M = o := by
  show (bindS ρ (CE.ev fn e ρ M) fun x M1 => match t.ev x ρ M1 with | some ρ' => .nx ρ' M1 | none => .bad).then (evSs fn r) = o
  rw [h]
  simp only [bindS, ht]
  exact hr
theorem ev_ret (h : CE.ev fn e ρ M = .ok v M1) : evSs fn (.ret e p :: r) ρ M = .rt v M1 := by
  show (bindS ρ (CE.ev fn e ρ M) fun x M1 => .rt x M1).then (evSs fn r) = _
  rw [h]
  rfl
theorem ev_if {a b : List CS} {k : Bool} (h : CE.evT fn e ρ M = .ok k M1) (hr : ((if k then evSs fn a ρ M1 else evSs fn b ρ M1).then (evSs fn r)) = o) : evSs fn (.ife e a b p :: r) ρ M = o := by
  show (bindS ρ (CE.evT fn e ρ M) fun k M1 => if k then evSs fn a ρ M1 else evSs fn b ρ M1).then (evSs fn r) = o
  rw [h]
  exact hr
/-- a test that fails, with nothing else to do -/
theorem ev_skip {a : List CS} (h : CE.evT fn e ρ M = .ok false M1) (hr : evSs fn r ρ M1 = o) : evSs fn (.ife e a [] p :: r) ρ M = o := ev_if h hr
theorem ev_put {oe ie : CE} {ps : Pos} {x y z : Vl} {M3 M4 : Sto} (h : CE.ev fn e ρ M = .ok z M1) (h2 : CE.ev fn oe ρ M1 = .ok x M2) (h3 : CE.ev fn ie ρ M2 = .ok y M3) (h4 : putV x y z M3 = some M4) (hr : evSs fn r ρ M4 = o) : evSs fn (.put oe ie e ps p :: r) ρ M = o := by
  show (bindS ρ (CE.ev fn e ρ M) fun z M1 => bindS ρ (CE.ev fn oe ρ M1) fun x M2 => bindS ρ (CE.ev fn ie ρ M2) fun y M3 => match putV x y z M3 with | some M4 => .nx ρ M4 | none => .bad).then (evSs fn r) = o
  rw [h]
  simp only [bindS, h2, h3, h4]
  exact hr
theorem ev_for {t : CT} {it : CI} {b : List CS} {ρ' : Rho} (h : gsFor (it.ev fn) t.ev (evSs fn b) ρ M = .nx ρ' M1) (hr : evSs fn r ρ' M1 = o) : evSs fn (.forr t it b p :: r) ρ M = o := by
  show (gsFor (it.ev fn) t.ev (evSs fn b) ρ M).then (evSs fn r) = o
  rw [h]
  exact hr
end
end Ev

namespace Law
open PySem PySem.Spec PyProof.Rows L2 Ev
def sc0 : Scope := { kind := PySem.ScopeKind.function, names := [((PySem.Str.ofString "thing"), PySem.NameKind.local), ((PySem.Str.ofString "isinstance"), PySem.NameKind.globalImplicit), ((PySem.Str.ofString "int"), PySem.NameKind.globalImplicit), ((PySem.Str.ofString "bool"), PySem.NameKind.globalImplicit)], isGenerator := false, isCoroutine := false, more := [] : PySem.Scope }
def sc1 : Scope := { kind := PySem.ScopeKind.function, names := [((PySem.Str.ofString "one"), PySem.NameKind.local), ((PySem.Str.ofString "other"), PySem.NameKind.local), ((PySem.Str.ofString "abs"), PySem.NameKind.globalImplicit), ((PySem.Str.ofString "int"), PySem.NameKind.globalImplicit)], isGenerator := false, isCoroutine := false, more := [] : PySem.Scope }
def sc2 : Scope := { kind := PySem.ScopeKind.function, names := [((PySem.Str.ofString ".0"), PySem.NameKind.local), ((PySem.Str.ofString "part"), PySem.NameKind.local), ((PySem.Str.ofString "is_integer"), PySem.NameKind.globalImplicit)], isGenerator := false, isCoroutine := false, more := [] : PySem.Scope }
def sc3 : Scope := { kind := PySem.ScopeKind.function, names := [((PySem.Str.ofString "thing"), PySem.NameKind.local), ((PySem.Str.ofString "isinstance"), PySem.NameKind.globalImplicit), ((PySem.Str.ofString "tuple"), PySem.NameKind.globalImplicit), ((PySem.Str.ofString "len"), PySem.NameKind.globalImplicit), ((PySem.Str.ofString "all"), PySem.NameKind.globalImplicit), ((PySem.Str.ofString "common_divisor"), PySem.NameKind.globalImplicit)], isGenerator := false, isCoroutine := false, more := [((PySem.Str.ofString "fast"), (PySem.Const.str "thing")), ((PySem.Str.ofString "fast"), (PySem.Const.str "part"))] : PySem.Scope }
def sc4 : Scope := { kind := PySem.ScopeKind.function, names := [((PySem.Str.ofString "condition"), PySem.NameKind.local), ((PySem.Str.ofString "word"), PySem.NameKind.local), ((PySem.Str.ofString "NotUsable"), PySem.NameKind.globalImplicit)], isGenerator := false, isCoroutine := false, more := [] : PySem.Scope }
def sc5 : Scope := { kind := PySem.ScopeKind.function, names := [((PySem.Str.ofString "p"), PySem.NameKind.local), ((PySem.Str.ofString "q"), PySem.NameKind.local), ((PySem.Str.ofString "divisor"), PySem.NameKind.local), ((PySem.Str.ofString "common_divisor"), PySem.NameKind.globalImplicit)], isGenerator := false, isCoroutine := false, more := [] : PySem.Scope }
def sc6 : Scope := { kind := PySem.ScopeKind.function, names := [((PySem.Str.ofString "p"), PySem.NameKind.local), ((PySem.Str.ofString "q"), PySem.NameKind.local), ((PySem.Str.ofString "require"), PySem.NameKind.globalImplicit), ((PySem.Str.ofString "is_integer"), PySem.NameKind.globalImplicit), ((PySem.Str.ofString "lowest"), PySem.NameKind.globalImplicit)], isGenerator := false, isCoroutine := false, more := [] : PySem.Scope }
def sc7 : Scope := { kind := PySem.ScopeKind.function, names := [((PySem.Str.ofString "one"), PySem.NameKind.local), ((PySem.Str.ofString "other"), PySem.NameKind.local), ((PySem.Str.ofString "lowest"), PySem.NameKind.globalImplicit)], isGenerator := false, isCoroutine := false, more := [] : PySem.Scope }
def sc8 : Scope := { kind := PySem.ScopeKind.function, names := [((PySem.Str.ofString "one"), PySem.NameKind.local), ((PySem.Str.ofString "other"), PySem.NameKind.local), ((PySem.Str.ofString "require"), PySem.NameKind.globalImplicit), ((PySem.Str.ofString "lowest"), PySem.NameKind.globalImplicit)], isGenerator := false, isCoroutine := false, more := [] : PySem.Scope }
def sc9 : Scope := { kind := PySem.ScopeKind.function, names := [((PySem.Str.ofString "one"), PySem.NameKind.local), ((PySem.Str.ofString "other"), PySem.NameKind.local)], isGenerator := false, isCoroutine := false, more := [] : PySem.Scope }
def sc10 : Scope := { kind := PySem.ScopeKind.function, names := [((PySem.Str.ofString ".0"), PySem.NameKind.local), ((PySem.Str.ofString "factor"), PySem.NameKind.local), ((PySem.Str.ofString "number"), PySem.NameKind.local)], isGenerator := false, isCoroutine := false, more := [] : PySem.Scope }
def sc11 : Scope := { kind := PySem.ScopeKind.function, names := [((PySem.Str.ofString "question"), PySem.NameKind.local), ((PySem.Str.ofString "crowd"), PySem.NameKind.local), ((PySem.Str.ofString "require"), PySem.NameKind.globalImplicit), ((PySem.Str.ofString "len"), PySem.NameKind.globalImplicit), ((PySem.Str.ofString "sum"), PySem.NameKind.globalImplicit), ((PySem.Str.ofString "zip"), PySem.NameKind.globalImplicit)], isGenerator := false, isCoroutine := false, more := [((PySem.Str.ofString "fast"), (PySem.Const.str "question")), ((PySem.Str.ofString "fast"), (PySem.Const.str "crowd")), ((PySem.Str.ofString "fast"), (PySem.Const.str "factor")), ((PySem.Str.ofString "fast"), (PySem.Const.str "number"))] : PySem.Scope }
def sc12 : Scope := { kind := PySem.ScopeKind.function, names := [((PySem.Str.ofString "_law_script"), PySem.NameKind.local), ((PySem.Str.ofString "list"), PySem.NameKind.globalImplicit)], isGenerator := false, isCoroutine := false, more := [] : PySem.Scope }
def sc13 : Scope := { kind := PySem.ScopeKind.function, names := [((PySem.Str.ofString "_law_reader_here"), PySem.NameKind.local), ((PySem.Str.ofString "_law_many"), PySem.NameKind.local), ((PySem.Str.ofString "_law_calls"), PySem.NameKind.local), ((PySem.Str.ofString "_law_figure"), PySem.NameKind.local), ((PySem.Str.ofString "_law_spot"), PySem.NameKind.local), ((PySem.Str.ofString "_law_cells"), PySem.NameKind.local), ((PySem.Str.ofString "_law_cell"), PySem.NameKind.local), ((PySem.Str.ofString "_law_once"), PySem.NameKind.local), ((PySem.Str.ofString "int"), PySem.NameKind.globalImplicit), ((PySem.Str.ofString "len"), PySem.NameKind.globalImplicit)], isGenerator := false, isCoroutine := false, more := [] : PySem.Scope }
def sc14 : Scope := { kind := PySem.ScopeKind.function, names := [((PySem.Str.ofString "_law_reader_here"), PySem.NameKind.local), ((PySem.Str.ofString "made"), PySem.NameKind.globalImplicit), ((PySem.Str.ofString "_law_draw"), PySem.NameKind.globalImplicit)], isGenerator := false, isCoroutine := false, more := [] : PySem.Scope }
def sc15 : Scope := { kind := PySem.ScopeKind.function, names := [((PySem.Str.ofString ".0"), PySem.NameKind.local), ((PySem.Str.ofString "_law_part"), PySem.NameKind.local), ((PySem.Str.ofString "is_fraction"), PySem.NameKind.globalImplicit)], isGenerator := false, isCoroutine := false, more := [] : PySem.Scope }
def sc16 : Scope := { kind := PySem.ScopeKind.function, names := [((PySem.Str.ofString "_law_a"), PySem.NameKind.local), ((PySem.Str.ofString "_law_b"), PySem.NameKind.local), ((PySem.Str.ofString "plus"), PySem.NameKind.globalImplicit), ((PySem.Str.ofString "minus"), PySem.NameKind.globalImplicit), ((PySem.Str.ofString "times"), PySem.NameKind.globalImplicit), ((PySem.Str.ofString "over"), PySem.NameKind.globalImplicit), ((PySem.Str.ofString "is_less"), PySem.NameKind.globalImplicit), ((PySem.Str.ofString "made"), PySem.NameKind.globalImplicit)], isGenerator := false, isCoroutine := false, more := [((PySem.Str.ofString "fast"), (PySem.Const.str "_law_a")), ((PySem.Str.ofString "fast"), (PySem.Const.str "_law_b")), ((PySem.Str.ofString "fast"), (PySem.Const.str "_law_part"))] : PySem.Scope }
def sc17 : Scope := { kind := PySem.ScopeKind.function, names := [((PySem.Str.ofString "_law_a"), PySem.NameKind.local), ((PySem.Str.ofString "_law_b"), PySem.NameKind.local), ((PySem.Str.ofString "_law_c"), PySem.NameKind.local), ((PySem.Str.ofString "plus"), PySem.NameKind.globalImplicit), ((PySem.Str.ofString "times"), PySem.NameKind.globalImplicit), ((PySem.Str.ofString "minus"), PySem.NameKind.globalImplicit), ((PySem.Str.ofString "is_less"), PySem.NameKind.globalImplicit)], isGenerator := false, isCoroutine := false, more := [] : PySem.Scope }
def sc18 : Scope := { kind := PySem.ScopeKind.function, names := [((PySem.Str.ofString ".0"), PySem.NameKind.local), ((PySem.Str.ofString "_law_k"), PySem.NameKind.local), ((PySem.Str.ofString "_law_draw"), PySem.NameKind.globalImplicit), ((PySem.Str.ofString "_law_reader_here"), PySem.NameKind.free)], isGenerator := false, isCoroutine := false, more := [] : PySem.Scope }
def sc19 : Scope := { kind := PySem.ScopeKind.function, names := [((PySem.Str.ofString ".0"), PySem.NameKind.local), ((PySem.Str.ofString "_law_turn"), PySem.NameKind.local), ((PySem.Str.ofString "tuple"), PySem.NameKind.globalImplicit), ((PySem.Str.ofString "range"), PySem.NameKind.globalImplicit), ((PySem.Str.ofString "_law_reader_here"), PySem.NameKind.free), ((PySem.Str.ofString "_law_size"), PySem.NameKind.free)], isGenerator := false, isCoroutine := false, more := [] : PySem.Scope }
def sc20 : Scope := { kind := PySem.ScopeKind.function, names := [((PySem.Str.ofString ".0"), PySem.NameKind.local), ((PySem.Str.ofString "_law_k"), PySem.NameKind.local), ((PySem.Str.ofString "_law_late"), PySem.NameKind.free), ((PySem.Str.ofString "_law_more"), PySem.NameKind.free)], isGenerator := false, isCoroutine := false, more := [] : PySem.Scope }
def sc21 : Scope := { kind := PySem.ScopeKind.function, names := [((PySem.Str.ofString ".0"), PySem.NameKind.local), ((PySem.Str.ofString "_law_k"), PySem.NameKind.local), ((PySem.Str.ofString "_law_one"), PySem.NameKind.free), ((PySem.Str.ofString "_law_two"), PySem.NameKind.free)], isGenerator := false, isCoroutine := false, more := [] : PySem.Scope }
def sc22 : Scope := { kind := PySem.ScopeKind.function, names := [((PySem.Str.ofString "_law_reader_here"), PySem.NameKind.cell), ((PySem.Str.ofString "_law_size"), PySem.NameKind.cell), ((PySem.Str.ofString "_law_one"), PySem.NameKind.cell), ((PySem.Str.ofString "_law_two"), PySem.NameKind.cell), ((PySem.Str.ofString "_law_late"), PySem.NameKind.cell), ((PySem.Str.ofString "_law_more"), PySem.NameKind.cell), ((PySem.Str.ofString "_law_both"), PySem.NameKind.local), ((PySem.Str.ofString "_law_some"), PySem.NameKind.local), ((PySem.Str.ofString "_law_draw"), PySem.NameKind.globalImplicit), ((PySem.Str.ofString "range"), PySem.NameKind.globalImplicit), ((PySem.Str.ofString "tuple"), PySem.NameKind.globalImplicit), ((PySem.Str.ofString "total_of"), PySem.NameKind.globalImplicit), ((PySem.Str.ofString "sum"), PySem.NameKind.globalImplicit)], isGenerator := false, isCoroutine := false, more := [((PySem.Str.ofString "fast"), (PySem.Const.str "_law_reader_here")), ((PySem.Str.ofString "fast"), (PySem.Const.str "_law_size")), ((PySem.Str.ofString "fast"), (PySem.Const.str "_law_turn")), ((PySem.Str.ofString "fast"), (PySem.Const.str "_law_k")), ((PySem.Str.ofString "fast"), (PySem.Const.str "_law_one")), ((PySem.Str.ofString "fast"), (PySem.Const.str "_law_two")), ((PySem.Str.ofString "fast"), (PySem.Const.str "_law_late")), ((PySem.Str.ofString "fast"), (PySem.Const.str "_law_more")), ((PySem.Str.ofString "fast"), (PySem.Const.str "_law_both")), ((PySem.Str.ofString "fast"), (PySem.Const.str "_law_some"))] : PySem.Scope }
def sc23 : Scope := { kind := PySem.ScopeKind.function, names := [((PySem.Str.ofString ".0"), PySem.NameKind.local), ((PySem.Str.ofString "_law_turn"), PySem.NameKind.local), ((PySem.Str.ofString "_law_random_part"), PySem.NameKind.globalImplicit), ((PySem.Str.ofString "_law_reader_here"), PySem.NameKind.free)], isGenerator := false, isCoroutine := false, more := [] : PySem.Scope }
def sc24 : Scope := { kind := PySem.ScopeKind.function, names := [((PySem.Str.ofString "_law_script"), PySem.NameKind.local), ((PySem.Str.ofString "_law_reader_here"), PySem.NameKind.cell), ((PySem.Str.ofString "_law_lots"), PySem.NameKind.local), ((PySem.Str.ofString "_law_a"), PySem.NameKind.local), ((PySem.Str.ofString "_law_b"), PySem.NameKind.local), ((PySem.Str.ofString "_law_reader"), PySem.NameKind.globalImplicit), ((PySem.Str.ofString "range"), PySem.NameKind.globalImplicit), ((PySem.Str.ofString "_law_check_two"), PySem.NameKind.globalImplicit), ((PySem.Str.ofString "_law_check_three"), PySem.NameKind.globalImplicit), ((PySem.Str.ofString "_law_draw"), PySem.NameKind.globalImplicit), ((PySem.Str.ofString "_law_check_totals"), PySem.NameKind.globalImplicit)], isGenerator := false, isCoroutine := false, more := [((PySem.Str.ofString "fast"), (PySem.Const.str "_law_script")), ((PySem.Str.ofString "fast"), (PySem.Const.str "_law_reader_here")), ((PySem.Str.ofString "fast"), (PySem.Const.str "_law_turn")), ((PySem.Str.ofString "fast"), (PySem.Const.str "_law_lots")), ((PySem.Str.ofString "fast"), (PySem.Const.str "_law_a")), ((PySem.Str.ofString "fast"), (PySem.Const.str "_law_b"))] : PySem.Scope }
def f0 : FnT := ⟨⟨"is_integer", ["thing"], ["thing"], sc0, [(.ret (.and (.isa .int (.var 0 "thing" ⟨14, 22, 14, 27⟩) ⟨14, 29, 14, 32⟩ ⟨14, 11, 14, 21⟩ ⟨14, 11, 14, 33⟩) (.cons (.not (.isa .bool (.var 0 "thing" ⟨14, 54, 14, 59⟩) ⟨14, 61, 14, 65⟩ ⟨14, 43, 14, 53⟩ ⟨14, 43, 14, 66⟩) ⟨14, 39, 14, 66⟩) .nil) ⟨14, 11, 14, 67⟩) ⟨14, 4, 14, 67⟩)], false⟩, { posonlyargs := [], args := [{ arg := "thing", annotation := none, pos := ⟨13, 15, 13, 20⟩ : PySem.Arg }], vararg := none, kwonlyargs := [], kw_defaults := [], kwarg := none, defaults := [] : PySem.Arguments }⟩
def f1 : FnT := ⟨⟨"common_divisor", ["one", "other"], ["one", "other"], sc1, [(.par 0 1 "one" "other" ⟨16, 4, 16, 7⟩ ⟨16, 9, 16, 14⟩ 0 ⟨16, 4, 16, 14⟩ (.blt .abs (.var 0 "one" ⟨16, 22, 16, 25⟩) .nil ⟨16, 18, 16, 21⟩ ⟨16, 18, 16, 26⟩) (.blt .abs (.var 1 "other" ⟨16, 32, 16, 37⟩) .nil ⟨16, 28, 16, 31⟩ ⟨16, 28, 16, 38⟩) 0 ⟨16, 17, 16, 39⟩ ⟨16, 4, 16, 39⟩), (.wh (.cmp .gt (.var 1 "other" ⟨17, 10, 17, 15⟩) (.int 0 0 ⟨17, 18, 17, 19⟩) ⟨17, 10, 17, 19⟩) [(.par 0 1 "one" "other" ⟨18, 8, 18, 11⟩ ⟨18, 13, 18, 18⟩ 0 ⟨18, 8, 18, 18⟩ (.var 1 "other" ⟨18, 22, 18, 27⟩) (.bin .mod (.blt .int (.var 0 "one" ⟨18, 33, 18, 36⟩) .nil ⟨18, 29, 18, 32⟩ ⟨18, 29, 18, 37⟩) (.blt .int (.var 1 "other" ⟨18, 44, 18, 49⟩) .nil ⟨18, 40, 18, 43⟩ ⟨18, 40, 18, 50⟩) ⟨18, 29, 18, 50⟩) 0 ⟨18, 21, 18, 51⟩ ⟨18, 8, 18, 51⟩)] ⟨17, 4, 18, 51⟩), (.ret (.var 0 "one" ⟨19, 11, 19, 14⟩) ⟨19, 4, 19, 14⟩)], false⟩, { posonlyargs := [], args := [{ arg := "one", annotation := none, pos := ⟨15, 19, 15, 22⟩ : PySem.Arg }, { arg := "other", annotation := none, pos := ⟨15, 24, 15, 29⟩ : PySem.Arg }], vararg := none, kwonlyargs := [], kw_defaults := [], kwarg := none, defaults := [] : PySem.Arguments }⟩
def f2 : FnT := ⟨⟨"is_fraction", ["thing"], ["thing", ".0", "part"], sc3, [(.ife (.or (.not (.isa .tuple (.var 0 "thing" ⟨21, 22, 21, 27⟩) ⟨21, 29, 21, 34⟩ ⟨21, 11, 21, 21⟩ ⟨21, 11, 21, 35⟩) ⟨21, 7, 21, 35⟩) (.cons (.cmp .ne (.blt .len (.var 0 "thing" ⟨21, 43, 21, 48⟩) .nil ⟨21, 39, 21, 42⟩ ⟨21, 39, 21, 49⟩) (.int 2 0 ⟨21, 53, 21, 54⟩) ⟨21, 39, 21, 54⟩) (.cons (.not (.blt .all (.lc false (.call 0 "is_integer" (.var 2 "part" ⟨21, 79, 21, 83⟩) .nil ⟨21, 68, 21, 78⟩ ⟨21, 68, 21, 84⟩) (.nm 2 "part" ⟨21, 89, 21, 93⟩) (.val (.var 0 "thing" ⟨21, 97, 21, 102⟩)) .none sc2 [(".0", 1), ("part", 2)] ⟨21, 67, 21, 103⟩) .nil ⟨21, 63, 21, 66⟩ ⟨21, 63, 21, 104⟩) ⟨21, 59, 21, 104⟩) .nil)) ⟨21, 7, 21, 105⟩) [(.ret (.bl false 0 ⟨22, 15, 22, 20⟩) ⟨22, 8, 22, 20⟩)] [] ⟨21, 4, 22, 20⟩), (.ret (.and (.cmp .ge (.ix (.var 0 "thing" ⟨23, 11, 23, 16⟩) (.int 1 0 ⟨23, 17, 23, 18⟩) ⟨23, 11, 23, 19⟩) (.int 1 0 ⟨23, 23, 23, 24⟩) ⟨23, 11, 23, 24⟩) (.cons (.cmp .eq (.call 1 "common_divisor" (.ix (.var 0 "thing" ⟨23, 44, 23, 49⟩) (.int 0 0 ⟨23, 50, 23, 51⟩) ⟨23, 44, 23, 52⟩) (.cons (.ix (.var 0 "thing" ⟨23, 54, 23, 59⟩) (.int 1 0 ⟨23, 60, 23, 61⟩) ⟨23, 54, 23, 62⟩) .nil) ⟨23, 29, 23, 43⟩ ⟨23, 29, 23, 63⟩) (.int 1 0 ⟨23, 67, 23, 68⟩) ⟨23, 29, 23, 68⟩) .nil) ⟨23, 11, 23, 68⟩) ⟨23, 4, 23, 68⟩)], false⟩, { posonlyargs := [], args := [{ arg := "thing", annotation := none, pos := ⟨20, 16, 20, 21⟩ : PySem.Arg }], vararg := none, kwonlyargs := [], kw_defaults := [], kwarg := none, defaults := [] : PySem.Arguments }⟩
def f3 : FnT := ⟨⟨"require", ["condition", "word"], ["condition", "word"], sc4, [(.ife (.not (.var 0 "condition" ⟨26, 11, 26, 20⟩) ⟨26, 7, 26, 20⟩) [(.bad (PySem.Stmt.Raise (exc := (some (PySem.Expr.Call (func := (PySem.Expr.Name "NotUsable" ⟨27, 14, 27, 23⟩)) (args := [(PySem.Expr.Name "word" ⟨27, 24, 27, 28⟩), (PySem.Expr.UnaryOp (op := PySem.UnaryOp.USub) (operand := (PySem.Expr.Constant (PySem.Const.int 1) 0 ⟨27, 31, 27, 32⟩)) (pos := ⟨27, 30, 27, 32⟩))]) (keywords := []) (pos := ⟨27, 14, 27, 33⟩)))) (cause := none) (pos := ⟨27, 8, 27, 33⟩)))] [] ⟨26, 4, 27, 33⟩)], false⟩, { posonlyargs := [], args := [{ arg := "condition", annotation := none, pos := ⟨25, 12, 25, 21⟩ : PySem.Arg }, { arg := "word", annotation := none, pos := ⟨25, 23, 25, 27⟩ : PySem.Arg }], vararg := none, kwonlyargs := [], kw_defaults := [], kwarg := none, defaults := [] : PySem.Arguments }⟩
def f4 : FnT := ⟨⟨"lowest", ["p", "q"], ["p", "q", "divisor"], sc5, [(.set 2 "divisor" ⟨29, 4, 29, 11⟩ (.ife (.cmp .gt (.var 1 "q" ⟨29, 38, 29, 39⟩) (.int 0 0 ⟨29, 42, 29, 43⟩) ⟨29, 38, 29, 43⟩) (.call 1 "common_divisor" (.var 0 "p" ⟨29, 29, 29, 30⟩) (.cons (.var 1 "q" ⟨29, 32, 29, 33⟩) .nil) ⟨29, 14, 29, 28⟩ ⟨29, 14, 29, 34⟩) (.bin .sub (.int 0 0 ⟨29, 49, 29, 50⟩) (.call 1 "common_divisor" (.var 0 "p" ⟨29, 68, 29, 69⟩) (.cons (.var 1 "q" ⟨29, 71, 29, 72⟩) .nil) ⟨29, 53, 29, 67⟩ ⟨29, 53, 29, 73⟩) ⟨29, 49, 29, 73⟩) ⟨29, 14, 29, 73⟩) ⟨29, 4, 29, 73⟩), (.ret (.tup (.cons (.bin .div (.var 0 "p" ⟨30, 12, 30, 13⟩) (.var 2 "divisor" ⟨30, 17, 30, 24⟩) ⟨30, 12, 30, 24⟩) (.cons (.bin .div (.var 1 "q" ⟨30, 26, 30, 27⟩) (.var 2 "divisor" ⟨30, 31, 30, 38⟩) ⟨30, 26, 30, 38⟩) .nil)) 0 ⟨30, 11, 30, 39⟩) ⟨30, 4, 30, 39⟩)], false⟩, { posonlyargs := [], args := [{ arg := "p", annotation := none, pos := ⟨28, 11, 28, 12⟩ : PySem.Arg }, { arg := "q", annotation := none, pos := ⟨28, 14, 28, 15⟩ : PySem.Arg }], vararg := none, kwonlyargs := [], kw_defaults := [], kwarg := none, defaults := [] : PySem.Arguments }⟩
def f5 : FnT := ⟨⟨"made", ["p", "q"], ["p", "q"], sc6, [(.exp (.call 3 "require" (.and (.call 0 "is_integer" (.var 0 "p" ⟨32, 23, 32, 24⟩) .nil ⟨32, 12, 32, 22⟩ ⟨32, 12, 32, 25⟩) (.cons (.call 0 "is_integer" (.var 1 "q" ⟨32, 41, 32, 42⟩) .nil ⟨32, 30, 32, 40⟩ ⟨32, 30, 32, 43⟩) .nil) ⟨32, 12, 32, 43⟩) (.cons (.str "integer" 0 ⟨32, 45, 32, 54⟩) .nil) ⟨32, 4, 32, 11⟩ ⟨32, 4, 32, 55⟩) ⟨32, 4, 32, 55⟩), (.exp (.call 3 "require" (.cmp .ne (.var 1 "q" ⟨33, 12, 33, 13⟩) (.int 0 0 ⟨33, 17, 33, 18⟩) ⟨33, 12, 33, 18⟩) (.cons (.str "zero" 0 ⟨33, 20, 33, 26⟩) .nil) ⟨33, 4, 33, 11⟩ ⟨33, 4, 33, 27⟩) ⟨33, 4, 33, 27⟩), (.ret (.call 4 "lowest" (.var 0 "p" ⟨34, 18, 34, 19⟩) (.cons (.var 1 "q" ⟨34, 21, 34, 22⟩) .nil) ⟨34, 11, 34, 17⟩ ⟨34, 11, 34, 23⟩) ⟨34, 4, 34, 23⟩)], false⟩, { posonlyargs := [], args := [{ arg := "p", annotation := none, pos := ⟨31, 9, 31, 10⟩ : PySem.Arg }, { arg := "q", annotation := none, pos := ⟨31, 12, 31, 13⟩ : PySem.Arg }], vararg := none, kwonlyargs := [], kw_defaults := [], kwarg := none, defaults := [] : PySem.Arguments }⟩
def f6 : FnT := ⟨⟨"plus", ["one", "other"], ["one", "other"], sc7, [(.ret (.call 4 "lowest" (.bin .add (.bin .mul (.ix (.var 0 "one" ⟨36, 18, 36, 21⟩) (.int 0 0 ⟨36, 22, 36, 23⟩) ⟨36, 18, 36, 24⟩) (.ix (.var 1 "other" ⟨36, 27, 36, 32⟩) (.int 1 0 ⟨36, 33, 36, 34⟩) ⟨36, 27, 36, 35⟩) ⟨36, 18, 36, 35⟩) (.bin .mul (.ix (.var 1 "other" ⟨36, 38, 36, 43⟩) (.int 0 0 ⟨36, 44, 36, 45⟩) ⟨36, 38, 36, 46⟩) (.ix (.var 0 "one" ⟨36, 49, 36, 52⟩) (.int 1 0 ⟨36, 53, 36, 54⟩) ⟨36, 49, 36, 55⟩) ⟨36, 38, 36, 55⟩) ⟨36, 18, 36, 55⟩) (.cons (.bin .mul (.ix (.var 0 "one" ⟨36, 57, 36, 60⟩) (.int 1 0 ⟨36, 61, 36, 62⟩) ⟨36, 57, 36, 63⟩) (.ix (.var 1 "other" ⟨36, 66, 36, 71⟩) (.int 1 0 ⟨36, 72, 36, 73⟩) ⟨36, 66, 36, 74⟩) ⟨36, 57, 36, 74⟩) .nil) ⟨36, 11, 36, 17⟩ ⟨36, 11, 36, 75⟩) ⟨36, 4, 36, 75⟩)], false⟩, { posonlyargs := [], args := [{ arg := "one", annotation := none, pos := ⟨35, 9, 35, 12⟩ : PySem.Arg }, { arg := "other", annotation := none, pos := ⟨35, 14, 35, 19⟩ : PySem.Arg }], vararg := none, kwonlyargs := [], kw_defaults := [], kwarg := none, defaults := [] : PySem.Arguments }⟩
def f7 : FnT := ⟨⟨"minus", ["one", "other"], ["one", "other"], sc7, [(.ret (.call 4 "lowest" (.bin .sub (.bin .mul (.ix (.var 0 "one" ⟨38, 18, 38, 21⟩) (.int 0 0 ⟨38, 22, 38, 23⟩) ⟨38, 18, 38, 24⟩) (.ix (.var 1 "other" ⟨38, 27, 38, 32⟩) (.int 1 0 ⟨38, 33, 38, 34⟩) ⟨38, 27, 38, 35⟩) ⟨38, 18, 38, 35⟩) (.bin .mul (.ix (.var 1 "other" ⟨38, 38, 38, 43⟩) (.int 0 0 ⟨38, 44, 38, 45⟩) ⟨38, 38, 38, 46⟩) (.ix (.var 0 "one" ⟨38, 49, 38, 52⟩) (.int 1 0 ⟨38, 53, 38, 54⟩) ⟨38, 49, 38, 55⟩) ⟨38, 38, 38, 55⟩) ⟨38, 18, 38, 55⟩) (.cons (.bin .mul (.ix (.var 0 "one" ⟨38, 57, 38, 60⟩) (.int 1 0 ⟨38, 61, 38, 62⟩) ⟨38, 57, 38, 63⟩) (.ix (.var 1 "other" ⟨38, 66, 38, 71⟩) (.int 1 0 ⟨38, 72, 38, 73⟩) ⟨38, 66, 38, 74⟩) ⟨38, 57, 38, 74⟩) .nil) ⟨38, 11, 38, 17⟩ ⟨38, 11, 38, 75⟩) ⟨38, 4, 38, 75⟩)], false⟩, { posonlyargs := [], args := [{ arg := "one", annotation := none, pos := ⟨37, 10, 37, 13⟩ : PySem.Arg }, { arg := "other", annotation := none, pos := ⟨37, 15, 37, 20⟩ : PySem.Arg }], vararg := none, kwonlyargs := [], kw_defaults := [], kwarg := none, defaults := [] : PySem.Arguments }⟩
def f8 : FnT := ⟨⟨"times", ["one", "other"], ["one", "other"], sc7, [(.ret (.call 4 "lowest" (.bin .mul (.ix (.var 0 "one" ⟨40, 18, 40, 21⟩) (.int 0 0 ⟨40, 22, 40, 23⟩) ⟨40, 18, 40, 24⟩) (.ix (.var 1 "other" ⟨40, 27, 40, 32⟩) (.int 0 0 ⟨40, 33, 40, 34⟩) ⟨40, 27, 40, 35⟩) ⟨40, 18, 40, 35⟩) (.cons (.bin .mul (.ix (.var 0 "one" ⟨40, 37, 40, 40⟩) (.int 1 0 ⟨40, 41, 40, 42⟩) ⟨40, 37, 40, 43⟩) (.ix (.var 1 "other" ⟨40, 46, 40, 51⟩) (.int 1 0 ⟨40, 52, 40, 53⟩) ⟨40, 46, 40, 54⟩) ⟨40, 37, 40, 54⟩) .nil) ⟨40, 11, 40, 17⟩ ⟨40, 11, 40, 55⟩) ⟨40, 4, 40, 55⟩)], false⟩, { posonlyargs := [], args := [{ arg := "one", annotation := none, pos := ⟨39, 10, 39, 13⟩ : PySem.Arg }, { arg := "other", annotation := none, pos := ⟨39, 15, 39, 20⟩ : PySem.Arg }], vararg := none, kwonlyargs := [], kw_defaults := [], kwarg := none, defaults := [] : PySem.Arguments }⟩
def f9 : FnT := ⟨⟨"over", ["one", "other"], ["one", "other"], sc8, [(.exp (.call 3 "require" (.cmp .ne (.ix (.var 1 "other" ⟨42, 12, 42, 17⟩) (.int 0 0 ⟨42, 18, 42, 19⟩) ⟨42, 12, 42, 20⟩) (.int 0 0 ⟨42, 24, 42, 25⟩) ⟨42, 12, 42, 25⟩) (.cons (.str "zero" 0 ⟨42, 27, 42, 33⟩) .nil) ⟨42, 4, 42, 11⟩ ⟨42, 4, 42, 34⟩) ⟨42, 4, 42, 34⟩), (.ret (.call 4 "lowest" (.bin .mul (.ix (.var 0 "one" ⟨43, 18, 43, 21⟩) (.int 0 0 ⟨43, 22, 43, 23⟩) ⟨43, 18, 43, 24⟩) (.ix (.var 1 "other" ⟨43, 27, 43, 32⟩) (.int 1 0 ⟨43, 33, 43, 34⟩) ⟨43, 27, 43, 35⟩) ⟨43, 18, 43, 35⟩) (.cons (.bin .mul (.ix (.var 0 "one" ⟨43, 37, 43, 40⟩) (.int 1 0 ⟨43, 41, 43, 42⟩) ⟨43, 37, 43, 43⟩) (.ix (.var 1 "other" ⟨43, 46, 43, 51⟩) (.int 0 0 ⟨43, 52, 43, 53⟩) ⟨43, 46, 43, 54⟩) ⟨43, 37, 43, 54⟩) .nil) ⟨43, 11, 43, 17⟩ ⟨43, 11, 43, 55⟩) ⟨43, 4, 43, 55⟩)], false⟩, { posonlyargs := [], args := [{ arg := "one", annotation := none, pos := ⟨41, 9, 41, 12⟩ : PySem.Arg }, { arg := "other", annotation := none, pos := ⟨41, 14, 41, 19⟩ : PySem.Arg }], vararg := none, kwonlyargs := [], kw_defaults := [], kwarg := none, defaults := [] : PySem.Arguments }⟩
def f10 : FnT := ⟨⟨"is_less", ["one", "other"], ["one", "other"], sc9, [(.ret (.cmp .lt (.bin .mul (.ix (.var 0 "one" ⟨45, 11, 45, 14⟩) (.int 0 0 ⟨45, 15, 45, 16⟩) ⟨45, 11, 45, 17⟩) (.ix (.var 1 "other" ⟨45, 20, 45, 25⟩) (.int 1 0 ⟨45, 26, 45, 27⟩) ⟨45, 20, 45, 28⟩) ⟨45, 11, 45, 28⟩) (.bin .mul (.ix (.var 1 "other" ⟨45, 31, 45, 36⟩) (.int 0 0 ⟨45, 37, 45, 38⟩) ⟨45, 31, 45, 39⟩) (.ix (.var 0 "one" ⟨45, 42, 45, 45⟩) (.int 1 0 ⟨45, 46, 45, 47⟩) ⟨45, 42, 45, 48⟩) ⟨45, 31, 45, 48⟩) ⟨45, 11, 45, 48⟩) ⟨45, 4, 45, 48⟩)], false⟩, { posonlyargs := [], args := [{ arg := "one", annotation := none, pos := ⟨44, 12, 44, 15⟩ : PySem.Arg }, { arg := "other", annotation := none, pos := ⟨44, 17, 44, 22⟩ : PySem.Arg }], vararg := none, kwonlyargs := [], kw_defaults := [], kwarg := none, defaults := [] : PySem.Arguments }⟩
def f11 : FnT := ⟨⟨"total_of", ["question", "crowd"], ["question", "crowd", ".0", "factor", "number"], sc11, [(.exp (.call 3 "require" (.cmp .eq (.blt .len (.var 0 "question" ⟨47, 16, 47, 24⟩) .nil ⟨47, 12, 47, 15⟩ ⟨47, 12, 47, 25⟩) (.blt .len (.var 1 "crowd" ⟨47, 33, 47, 38⟩) .nil ⟨47, 29, 47, 32⟩ ⟨47, 29, 47, 39⟩) ⟨47, 12, 47, 39⟩) (.cons (.str "many" 0 ⟨47, 41, 47, 47⟩) .nil) ⟨47, 4, 47, 11⟩ ⟨47, 4, 47, 48⟩) ⟨47, 4, 47, 48⟩), (.ret (.blt .sum (.lc false (.bin .mul (.var 3 "factor" ⟨48, 16, 48, 22⟩) (.var 4 "number" ⟨48, 25, 48, 31⟩) ⟨48, 16, 48, 31⟩) (.tup [(3, "factor", ⟨48, 36, 48, 42⟩), (4, "number", ⟨48, 44, 48, 50⟩)] 0 ⟨48, 36, 48, 50⟩) (.zip (.var 0 "question" ⟨48, 58, 48, 66⟩) (.var 1 "crowd" ⟨48, 68, 48, 73⟩) ⟨48, 54, 48, 57⟩ ⟨48, 54, 48, 74⟩) .none sc10 [(".0", 2), ("factor", 3), ("number", 4)] ⟨48, 15, 48, 75⟩) .nil ⟨48, 11, 48, 14⟩ ⟨48, 11, 48, 76⟩) ⟨48, 4, 48, 76⟩)], false⟩, { posonlyargs := [], args := [{ arg := "question", annotation := none, pos := ⟨46, 13, 46, 21⟩ : PySem.Arg }, { arg := "crowd", annotation := none, pos := ⟨46, 23, 46, 28⟩ : PySem.Arg }], vararg := none, kwonlyargs := [], kw_defaults := [], kwarg := none, defaults := [] : PySem.Arguments }⟩
def f12 : FnT := ⟨⟨"_law_reader", ["_law_script"], ["_law_script"], sc12, [(.ret (.disp [("cells", 0, ⟨51, 12, 51, 19⟩), ("spot", 0, ⟨51, 45, 51, 51⟩), ("rest", 0, ⟨51, 56, 51, 62⟩), ("calls", 0, ⟨51, 67, 51, 74⟩)] (.cons (.blt .list (.sl (.var 0 "_law_script" ⟨51, 26, 51, 37⟩) .none (.some (.int 63 0 ⟨51, 39, 51, 41⟩)) ⟨51, 38, 51, 41⟩ ⟨51, 26, 51, 42⟩) .nil ⟨51, 21, 51, 25⟩ ⟨51, 21, 51, 43⟩) (.cons (.int 0 0 ⟨51, 53, 51, 54⟩) (.cons (.int 0 0 ⟨51, 64, 51, 65⟩) (.cons (.int 0 0 ⟨51, 76, 51, 77⟩) .nil)))) ⟨51, 11, 51, 78⟩) ⟨51, 4, 51, 78⟩)], true⟩, { posonlyargs := [], args := [{ arg := "_law_script", annotation := none, pos := ⟨50, 16, 50, 27⟩ : PySem.Arg }], vararg := none, kwonlyargs := [], kw_defaults := [], kwarg := none, defaults := [] : PySem.Arguments }⟩
def f13 : FnT := ⟨⟨"_law_draw", ["_law_reader_here", "_law_many"], ["_law_reader_here", "_law_many", "_law_calls", "_law_figure", "_law_spot", "_law_cells", "_law_cell", "_law_once"], sc13, [(.set 2 "_law_calls" ⟨53, 4, 53, 14⟩ (.bin .add (.ix (.var 0 "_law_reader_here" ⟨53, 17, 53, 33⟩) (.str "calls" 0 ⟨53, 34, 53, 41⟩) ⟨53, 17, 53, 42⟩) (.int 1 0 ⟨53, 45, 53, 46⟩) ⟨53, 17, 53, 46⟩) ⟨53, 4, 53, 46⟩), (.put (.var 0 "_law_reader_here" ⟨54, 4, 54, 20⟩) (.str "calls" 0 ⟨54, 21, 54, 28⟩) (.var 2 "_law_calls" ⟨54, 32, 54, 42⟩) ⟨54, 4, 54, 29⟩ ⟨54, 4, 54, 42⟩), (.ife (.cmp .gt (.ix (.var 0 "_law_reader_here" ⟨55, 7, 55, 23⟩) (.str "rest" 0 ⟨55, 24, 55, 30⟩) ⟨55, 7, 55, 31⟩) (.int 0 0 ⟨55, 34, 55, 35⟩) ⟨55, 7, 55, 35⟩) [(.set 3 "_law_figure" ⟨56, 8, 56, 19⟩ (.bin .mod (.blt .int (.ix (.var 0 "_law_reader_here" ⟨56, 26, 56, 42⟩) (.str "rest" 0 ⟨56, 43, 56, 49⟩) ⟨56, 26, 56, 50⟩) .nil ⟨56, 22, 56, 25⟩ ⟨56, 22, 56, 51⟩) (.var 1 "_law_many" ⟨56, 54, 56, 63⟩) ⟨56, 22, 56, 63⟩) ⟨56, 8, 56, 63⟩), (.put (.var 0 "_law_reader_here" ⟨57, 8, 57, 24⟩) (.str "rest" 0 ⟨57, 25, 57, 31⟩) (.bin .div (.ix (.var 0 "_law_reader_here" ⟨57, 35, 57, 51⟩) (.str "rest" 0 ⟨57, 52, 57, 58⟩) ⟨57, 35, 57, 59⟩) (.var 1 "_law_many" ⟨57, 63, 57, 72⟩) ⟨57, 35, 57, 72⟩) ⟨57, 8, 57, 32⟩ ⟨57, 8, 57, 72⟩), (.ret (.var 3 "_law_figure" ⟨58, 15, 58, 26⟩) ⟨58, 8, 58, 26⟩)] [] ⟨55, 4, 58, 26⟩), (.set 4 "_law_spot" ⟨59, 4, 59, 13⟩ (.ix (.var 0 "_law_reader_here" ⟨59, 16, 59, 32⟩) (.str "spot" 0 ⟨59, 33, 59, 39⟩) ⟨59, 16, 59, 40⟩) ⟨59, 4, 59, 40⟩), (.put (.var 0 "_law_reader_here" ⟨60, 4, 60, 20⟩) (.str "spot" 0 ⟨60, 21, 60, 27⟩) (.bin .add (.var 4 "_law_spot" ⟨60, 31, 60, 40⟩) (.int 1 0 ⟨60, 43, 60, 44⟩) ⟨60, 31, 60, 44⟩) ⟨60, 4, 60, 28⟩ ⟨60, 4, 60, 44⟩), (.set 5 "_law_cells" ⟨61, 4, 61, 14⟩ (.ix (.var 0 "_law_reader_here" ⟨61, 17, 61, 33⟩) (.str "cells" 0 ⟨61, 34, 61, 41⟩) ⟨61, 17, 61, 42⟩) ⟨61, 4, 61, 42⟩), (.set 6 "_law_cell" ⟨62, 4, 62, 13⟩ (.ife (.cmp .gt (.blt .len (.var 5 "_law_cells" ⟨62, 68, 62, 78⟩) .nil ⟨62, 64, 62, 67⟩ ⟨62, 64, 62, 79⟩) (.int 0 0 ⟨62, 82, 62, 83⟩) ⟨62, 64, 62, 83⟩) (.ix (.var 5 "_law_cells" ⟨62, 16, 62, 26⟩) (.bin .mod (.blt .int (.var 4 "_law_spot" ⟨62, 31, 62, 40⟩) .nil ⟨62, 27, 62, 30⟩ ⟨62, 27, 62, 41⟩) (.blt .len (.var 5 "_law_cells" ⟨62, 48, 62, 58⟩) .nil ⟨62, 44, 62, 47⟩ ⟨62, 44, 62, 59⟩) ⟨62, 27, 62, 59⟩) ⟨62, 16, 62, 60⟩) (.int 31 0 ⟨62, 89, 62, 91⟩) ⟨62, 16, 62, 91⟩) ⟨62, 4, 62, 91⟩), (.ife (.and (.cmp .lt (.var 4 "_law_spot" ⟨63, 7, 63, 16⟩) (.blt .len (.var 5 "_law_cells" ⟨63, 23, 63, 33⟩) .nil ⟨63, 19, 63, 22⟩ ⟨63, 19, 63, 34⟩) ⟨63, 7, 63, 34⟩) (.cons (.cmp .ge (.var 6 "_law_cell" ⟨63, 39, 63, 48⟩) (.bin .pow (.int 10 0 ⟨63, 52, 63, 54⟩) (.int 18 0 ⟨63, 58, 63, 60⟩) ⟨63, 52, 63, 60⟩) ⟨63, 39, 63, 60⟩) .nil) ⟨63, 7, 63, 60⟩) [(.put (.var 0 "_law_reader_here" ⟨64, 8, 64, 24⟩) (.str "rest" 0 ⟨64, 25, 64, 31⟩) (.bin .div (.var 6 "_law_cell" ⟨64, 35, 64, 44⟩) (.var 1 "_law_many" ⟨64, 48, 64, 57⟩) ⟨64, 35, 64, 57⟩) ⟨64, 8, 64, 32⟩ ⟨64, 8, 64, 57⟩), (.ret (.bin .mod (.blt .int (.var 6 "_law_cell" ⟨65, 19, 65, 28⟩) .nil ⟨65, 15, 65, 18⟩ ⟨65, 15, 65, 29⟩) (.var 1 "_law_many" ⟨65, 32, 65, 41⟩) ⟨65, 15, 65, 41⟩) ⟨65, 8, 65, 41⟩)] [] ⟨63, 4, 65, 41⟩), (.set 7 "_law_once" ⟨66, 4, 66, 13⟩ (.bin .mod (.blt .int (.bin .pow (.bin .add (.bin .add (.bin .mod (.blt .int (.var 6 "_law_cell" ⟨66, 25, 66, 34⟩) .nil ⟨66, 21, 66, 24⟩ ⟨66, 21, 66, 35⟩) (.int 2147483629 0 ⟨66, 38, 66, 48⟩) ⟨66, 21, 66, 48⟩) (.bin .mul (.int 6163 0 ⟨66, 51, 66, 55⟩) (.var 2 "_law_calls" ⟨66, 58, 66, 68⟩) ⟨66, 51, 66, 68⟩) ⟨66, 21, 66, 68⟩) (.int 37 0 ⟨66, 71, 66, 73⟩) ⟨66, 21, 66, 73⟩) (.int 5 0 ⟨66, 78, 66, 79⟩) ⟨66, 20, 66, 79⟩) .nil ⟨66, 16, 66, 19⟩ ⟨66, 16, 66, 80⟩) (.int 2147483647 0 ⟨66, 83, 66, 93⟩) ⟨66, 16, 66, 93⟩) ⟨66, 4, 66, 93⟩), (.ret (.bin .mod (.blt .int (.bin .div (.bin .mod (.blt .int (.bin .pow (.bin .add (.var 7 "_law_once" ⟨67, 20, 67, 29⟩) (.bin .mul (.bin .mul (.int 4211 0 ⟨67, 32, 67, 36⟩) (.var 2 "_law_calls" ⟨67, 39, 67, 49⟩) ⟨67, 32, 67, 49⟩) (.var 2 "_law_calls" ⟨67, 52, 67, 62⟩) ⟨67, 32, 67, 62⟩) ⟨67, 20, 67, 62⟩) (.int 5 0 ⟨67, 67, 67, 68⟩) ⟨67, 19, 67, 68⟩) .nil ⟨67, 15, 67, 18⟩ ⟨67, 15, 67, 69⟩) (.int 2147483587 0 ⟨67, 72, 67, 82⟩) ⟨67, 15, 67, 82⟩) (.int 32 0 ⟨67, 86, 67, 88⟩) ⟨67, 15, 67, 88⟩) .nil ⟨67, 11, 67, 14⟩ ⟨67, 11, 67, 89⟩) (.var 1 "_law_many" ⟨67, 92, 67, 101⟩) ⟨67, 11, 67, 101⟩) ⟨67, 4, 67, 101⟩)], false⟩, { posonlyargs := [], args := [{ arg := "_law_reader_here", annotation := none, pos := ⟨52, 14, 52, 30⟩ : PySem.Arg }, { arg := "_law_many", annotation := none, pos := ⟨52, 32, 52, 41⟩ : PySem.Arg }], vararg := none, kwonlyargs := [], kw_defaults := [], kwarg := none, defaults := [] : PySem.Arguments }⟩
def f14 : FnT := ⟨⟨"_law_random_part", ["_law_reader_here"], ["_law_reader_here"], sc14, [(.ret (.call 5 "made" (.bin .sub (.call 13 "_law_draw" (.var 0 "_law_reader_here" ⟨69, 26, 69, 42⟩) (.cons (.int 41 0 ⟨69, 44, 69, 46⟩) .nil) ⟨69, 16, 69, 25⟩ ⟨69, 16, 69, 47⟩) (.int 20 0 ⟨69, 50, 69, 52⟩) ⟨69, 16, 69, 52⟩) (.cons (.ix (.lst false (.cons (.bin .add (.int 1 0 ⟨69, 55, 69, 56⟩) (.call 13 "_law_draw" (.var 0 "_law_reader_here" ⟨69, 69, 69, 85⟩) (.cons (.int 30 0 ⟨69, 87, 69, 89⟩) .nil) ⟨69, 59, 69, 68⟩ ⟨69, 59, 69, 90⟩) ⟨69, 55, 69, 90⟩) (.cons (.neg (.int 7 0 ⟨69, 93, 69, 94⟩) ⟨69, 92, 69, 94⟩) (.cons (.bin .add (.bin .pow (.int 10 0 ⟨69, 96, 69, 98⟩) (.int 15 0 ⟨69, 102, 69, 104⟩) ⟨69, 96, 69, 104⟩) (.int 37 0 ⟨69, 107, 69, 109⟩) ⟨69, 96, 69, 109⟩) .nil))) ⟨69, 54, 69, 110⟩) (.call 13 "_law_draw" (.var 0 "_law_reader_here" ⟨69, 121, 69, 137⟩) (.cons (.int 3 0 ⟨69, 139, 69, 140⟩) .nil) ⟨69, 111, 69, 120⟩ ⟨69, 111, 69, 141⟩) ⟨69, 54, 69, 142⟩) .nil) ⟨69, 11, 69, 15⟩ ⟨69, 11, 69, 143⟩) ⟨69, 4, 69, 143⟩)], false⟩, { posonlyargs := [], args := [{ arg := "_law_reader_here", annotation := none, pos := ⟨68, 21, 68, 37⟩ : PySem.Arg }], vararg := none, kwonlyargs := [], kw_defaults := [], kwarg := none, defaults := [] : PySem.Arguments }⟩
def f15 : FnT := ⟨⟨"_law_check_two", ["_law_a", "_law_b"], ["_law_a", "_law_b", ".0", "_law_part"], sc16, [(.ife (.cmp .ne (.lc false (.var 3 "_law_part" ⟨71, 8, 71, 17⟩) (.nm 3 "_law_part" ⟨71, 22, 71, 31⟩) (.val (.tup (.cons (.call 6 "plus" (.var 0 "_law_a" ⟨71, 41, 71, 47⟩) (.cons (.var 1 "_law_b" ⟨71, 49, 71, 55⟩) .nil) ⟨71, 36, 71, 40⟩ ⟨71, 36, 71, 56⟩) (.cons (.call 7 "minus" (.var 0 "_law_a" ⟨71, 64, 71, 70⟩) (.cons (.var 1 "_law_b" ⟨71, 72, 71, 78⟩) .nil) ⟨71, 58, 71, 63⟩ ⟨71, 58, 71, 79⟩) (.cons (.call 8 "times" (.var 0 "_law_a" ⟨71, 87, 71, 93⟩) (.cons (.var 1 "_law_b" ⟨71, 95, 71, 101⟩) .nil) ⟨71, 81, 71, 86⟩ ⟨71, 81, 71, 102⟩) .nil))) 0 ⟨71, 35, 71, 103⟩)) (.some (.not (.call 2 "is_fraction" (.var 3 "_law_part" ⟨71, 123, 71, 132⟩) .nil ⟨71, 111, 71, 122⟩ ⟨71, 111, 71, 133⟩) ⟨71, 107, 71, 133⟩)) sc15 [(".0", 2), ("_law_part", 3)] ⟨71, 7, 71, 134⟩) (.lst false .nil ⟨71, 138, 71, 140⟩) ⟨71, 7, 71, 140⟩) [(.ret (.bl false 0 ⟨72, 15, 72, 20⟩) ⟨72, 8, 72, 20⟩)] [] ⟨71, 4, 72, 20⟩), (.ife (.or (.cmp .ne (.call 6 "plus" (.var 0 "_law_a" ⟨73, 12, 73, 18⟩) (.cons (.var 1 "_law_b" ⟨73, 20, 73, 26⟩) .nil) ⟨73, 7, 73, 11⟩ ⟨73, 7, 73, 27⟩) (.call 6 "plus" (.var 1 "_law_b" ⟨73, 36, 73, 42⟩) (.cons (.var 0 "_law_a" ⟨73, 44, 73, 50⟩) .nil) ⟨73, 31, 73, 35⟩ ⟨73, 31, 73, 51⟩) ⟨73, 7, 73, 51⟩) (.cons (.cmp .ne (.call 8 "times" (.var 0 "_law_a" ⟨73, 61, 73, 67⟩) (.cons (.var 1 "_law_b" ⟨73, 69, 73, 75⟩) .nil) ⟨73, 55, 73, 60⟩ ⟨73, 55, 73, 76⟩) (.call 8 "times" (.var 1 "_law_b" ⟨73, 86, 73, 92⟩) (.cons (.var 0 "_law_a" ⟨73, 94, 73, 100⟩) .nil) ⟨73, 80, 73, 85⟩ ⟨73, 80, 73, 101⟩) ⟨73, 55, 73, 101⟩) (.cons (.cmp .ne (.call 7 "minus" (.call 6 "plus" (.var 0 "_law_a" ⟨73, 116, 73, 122⟩) (.cons (.var 1 "_law_b" ⟨73, 124, 73, 130⟩) .nil) ⟨73, 111, 73, 115⟩ ⟨73, 111, 73, 131⟩) (.cons (.var 1 "_law_b" ⟨73, 133, 73, 139⟩) .nil) ⟨73, 105, 73, 110⟩ ⟨73, 105, 73, 140⟩) (.var 0 "_law_a" ⟨73, 144, 73, 150⟩) ⟨73, 105, 73, 150⟩) .nil)) ⟨73, 7, 73, 150⟩) [(.ret (.bl false 0 ⟨74, 15, 74, 20⟩) ⟨74, 8, 74, 20⟩)] [] ⟨73, 4, 74, 20⟩), (.ife (.cmp .ne (.call 6 "plus" (.call 7 "minus" (.var 0 "_law_a" ⟨75, 18, 75, 24⟩) (.cons (.var 1 "_law_b" ⟨75, 26, 75, 32⟩) .nil) ⟨75, 12, 75, 17⟩ ⟨75, 12, 75, 33⟩) (.cons (.var 1 "_law_b" ⟨75, 35, 75, 41⟩) .nil) ⟨75, 7, 75, 11⟩ ⟨75, 7, 75, 42⟩) (.var 0 "_law_a" ⟨75, 46, 75, 52⟩) ⟨75, 7, 75, 52⟩) [(.ret (.bl false 0 ⟨76, 15, 76, 20⟩) ⟨76, 8, 76, 20⟩)] [] ⟨75, 4, 76, 20⟩), (.ife (.or (.cmp .ne (.call 7 "minus" (.var 0 "_law_a" ⟨77, 13, 77, 19⟩) (.cons (.var 1 "_law_b" ⟨77, 21, 77, 27⟩) .nil) ⟨77, 7, 77, 12⟩ ⟨77, 7, 77, 28⟩) (.call 7 "minus" (.tup (.cons (.int 0 0 ⟨77, 39, 77, 40⟩) (.cons (.int 1 0 ⟨77, 42, 77, 43⟩) .nil)) 0 ⟨77, 38, 77, 44⟩) (.cons (.call 7 "minus" (.var 1 "_law_b" ⟨77, 52, 77, 58⟩) (.cons (.var 0 "_law_a" ⟨77, 60, 77, 66⟩) .nil) ⟨77, 46, 77, 51⟩ ⟨77, 46, 77, 67⟩) .nil) ⟨77, 32, 77, 37⟩ ⟨77, 32, 77, 68⟩) ⟨77, 7, 77, 68⟩) (.cons (.cmp .ne (.cmp .eq (.var 0 "_law_a" ⟨77, 73, 77, 79⟩) (.var 1 "_law_b" ⟨77, 83, 77, 89⟩) ⟨77, 73, 77, 89⟩) (.cmp .eq (.call 7 "minus" (.var 0 "_law_a" ⟨77, 101, 77, 107⟩) (.cons (.var 1 "_law_b" ⟨77, 109, 77, 115⟩) .nil) ⟨77, 95, 77, 100⟩ ⟨77, 95, 77, 116⟩) (.tup (.cons (.int 0 0 ⟨77, 121, 77, 122⟩) (.cons (.int 1 0 ⟨77, 124, 77, 125⟩) .nil)) 0 ⟨77, 120, 77, 126⟩) ⟨77, 95, 77, 126⟩) ⟨77, 72, 77, 127⟩) .nil) ⟨77, 7, 77, 127⟩) [(.ret (.bl false 0 ⟨78, 15, 78, 20⟩) ⟨78, 8, 78, 20⟩)] [] ⟨77, 4, 78, 20⟩), (.ife (.cmp .ne (.var 1 "_law_b" ⟨79, 7, 79, 13⟩) (.tup (.cons (.int 0 0 ⟨79, 18, 79, 19⟩) (.cons (.int 1 0 ⟨79, 21, 79, 22⟩) .nil)) 0 ⟨79, 17, 79, 23⟩) ⟨79, 7, 79, 23⟩) [(.ife (.or (.cmp .ne (.call 9 "over" (.call 8 "times" (.var 0 "_law_a" ⟨80, 22, 80, 28⟩) (.cons (.var 1 "_law_b" ⟨80, 30, 80, 36⟩) .nil) ⟨80, 16, 80, 21⟩ ⟨80, 16, 80, 37⟩) (.cons (.var 1 "_law_b" ⟨80, 39, 80, 45⟩) .nil) ⟨80, 11, 80, 15⟩ ⟨80, 11, 80, 46⟩) (.var 0 "_law_a" ⟨80, 50, 80, 56⟩) ⟨80, 11, 80, 56⟩) (.cons (.cmp .ne (.call 8 "times" (.call 9 "over" (.var 0 "_law_a" ⟨80, 71, 80, 77⟩) (.cons (.var 1 "_law_b" ⟨80, 79, 80, 85⟩) .nil) ⟨80, 66, 80, 70⟩ ⟨80, 66, 80, 86⟩) (.cons (.var 1 "_law_b" ⟨80, 88, 80, 94⟩) .nil) ⟨80, 60, 80, 65⟩ ⟨80, 60, 80, 95⟩) (.var 0 "_law_a" ⟨80, 99, 80, 105⟩) ⟨80, 60, 80, 105⟩) (.cons (.cmp .ne (.call 9 "over" (.var 1 "_law_b" ⟨80, 114, 80, 120⟩) (.cons (.var 1 "_law_b" ⟨80, 122, 80, 128⟩) .nil) ⟨80, 109, 80, 113⟩ ⟨80, 109, 80, 129⟩) (.tup (.cons (.int 1 0 ⟨80, 134, 80, 135⟩) (.cons (.int 1 0 ⟨80, 137, 80, 138⟩) .nil)) 0 ⟨80, 133, 80, 139⟩) ⟨80, 109, 80, 139⟩) .nil)) ⟨80, 11, 80, 139⟩) [(.ret (.bl false 0 ⟨81, 19, 81, 24⟩) ⟨81, 12, 81, 24⟩)] [] ⟨80, 8, 81, 24⟩), (.ife (.cmp .ne (.call 9 "over" (.var 0 "_law_a" ⟨82, 16, 82, 22⟩) (.cons (.var 1 "_law_b" ⟨82, 24, 82, 30⟩) .nil) ⟨82, 11, 82, 15⟩ ⟨82, 11, 82, 31⟩) (.call 8 "times" (.var 0 "_law_a" ⟨82, 41, 82, 47⟩) (.cons (.call 9 "over" (.tup (.cons (.int 1 0 ⟨82, 55, 82, 56⟩) (.cons (.int 1 0 ⟨82, 58, 82, 59⟩) .nil)) 0 ⟨82, 54, 82, 60⟩) (.cons (.var 1 "_law_b" ⟨82, 62, 82, 68⟩) .nil) ⟨82, 49, 82, 53⟩ ⟨82, 49, 82, 69⟩) .nil) ⟨82, 35, 82, 40⟩ ⟨82, 35, 82, 70⟩) ⟨82, 11, 82, 70⟩) [(.ret (.bl false 0 ⟨83, 19, 83, 24⟩) ⟨83, 12, 83, 24⟩)] [] ⟨82, 8, 83, 24⟩)] [] ⟨79, 4, 83, 24⟩), (.ife (.cmp .ne (.meth .count (.lst false (.cons (.call 10 "is_less" (.var 0 "_law_a" ⟨84, 16, 84, 22⟩) (.cons (.var 1 "_law_b" ⟨84, 24, 84, 30⟩) .nil) ⟨84, 8, 84, 15⟩ ⟨84, 8, 84, 31⟩) (.cons (.cmp .eq (.var 0 "_law_a" ⟨84, 33, 84, 39⟩) (.var 1 "_law_b" ⟨84, 43, 84, 49⟩) ⟨84, 33, 84, 49⟩) (.cons (.call 10 "is_less" (.var 1 "_law_b" ⟨84, 59, 84, 65⟩) (.cons (.var 0 "_law_a" ⟨84, 67, 84, 73⟩) .nil) ⟨84, 51, 84, 58⟩ ⟨84, 51, 84, 74⟩) .nil))) ⟨84, 7, 84, 75⟩) (.bl true 0 ⟨84, 82, 84, 86⟩) .nil ⟨84, 7, 84, 81⟩ ⟨84, 7, 84, 87⟩) (.int 1 0 ⟨84, 91, 84, 92⟩) ⟨84, 7, 84, 92⟩) [(.ret (.bl false 0 ⟨85, 15, 85, 20⟩) ⟨85, 8, 85, 20⟩)] [] ⟨84, 4, 85, 20⟩), (.ife (.cmp .ne (.call 10 "is_less" (.var 0 "_law_a" ⟨86, 15, 86, 21⟩) (.cons (.var 1 "_law_b" ⟨86, 23, 86, 29⟩) .nil) ⟨86, 7, 86, 14⟩ ⟨86, 7, 86, 30⟩) (.cmp .lt (.ix (.call 7 "minus" (.var 0 "_law_a" ⟨86, 41, 86, 47⟩) (.cons (.var 1 "_law_b" ⟨86, 49, 86, 55⟩) .nil) ⟨86, 35, 86, 40⟩ ⟨86, 35, 86, 56⟩) (.int 0 0 ⟨86, 57, 86, 58⟩) ⟨86, 35, 86, 59⟩) (.int 0 0 ⟨86, 62, 86, 63⟩) ⟨86, 35, 86, 63⟩) ⟨86, 7, 86, 64⟩) [(.ret (.bl false 0 ⟨87, 15, 87, 20⟩) ⟨87, 8, 87, 20⟩)] [] ⟨86, 4, 87, 20⟩), (.ife (.or (.cmp .ne (.call 5 "made" (.bin .mul (.ix (.var 0 "_law_a" ⟨88, 12, 88, 18⟩) (.int 0 0 ⟨88, 19, 88, 20⟩) ⟨88, 12, 88, 21⟩) (.ix (.var 1 "_law_b" ⟨88, 24, 88, 30⟩) (.int 1 0 ⟨88, 31, 88, 32⟩) ⟨88, 24, 88, 33⟩) ⟨88, 12, 88, 33⟩) (.cons (.bin .mul (.ix (.var 0 "_law_a" ⟨88, 35, 88, 41⟩) (.int 1 0 ⟨88, 42, 88, 43⟩) ⟨88, 35, 88, 44⟩) (.ix (.var 1 "_law_b" ⟨88, 47, 88, 53⟩) (.int 1 0 ⟨88, 54, 88, 55⟩) ⟨88, 47, 88, 56⟩) ⟨88, 35, 88, 56⟩) .nil) ⟨88, 7, 88, 11⟩ ⟨88, 7, 88, 57⟩) (.var 0 "_law_a" ⟨88, 61, 88, 67⟩) ⟨88, 7, 88, 67⟩) (.cons (.cmp .ne (.call 5 "made" (.bin .sub (.int 0 0 ⟨88, 76, 88, 77⟩) (.ix (.var 0 "_law_a" ⟨88, 80, 88, 86⟩) (.int 0 0 ⟨88, 87, 88, 88⟩) ⟨88, 80, 88, 89⟩) ⟨88, 76, 88, 89⟩) (.cons (.bin .sub (.int 0 0 ⟨88, 91, 88, 92⟩) (.ix (.var 0 "_law_a" ⟨88, 95, 88, 101⟩) (.int 1 0 ⟨88, 102, 88, 103⟩) ⟨88, 95, 88, 104⟩) ⟨88, 91, 88, 104⟩) .nil) ⟨88, 71, 88, 75⟩ ⟨88, 71, 88, 105⟩) (.var 0 "_law_a" ⟨88, 109, 88, 115⟩) ⟨88, 71, 88, 115⟩) .nil) ⟨88, 7, 88, 115⟩) [(.ret (.bl false 0 ⟨89, 15, 89, 20⟩) ⟨89, 8, 89, 20⟩)] [] ⟨88, 4, 89, 20⟩), (.ret (.and (.cmp .eq (.call 8 "times" (.var 0 "_law_a" ⟨90, 17, 90, 23⟩) (.cons (.tup (.cons (.int 1 0 ⟨90, 26, 90, 27⟩) (.cons (.int 1 0 ⟨90, 29, 90, 30⟩) .nil)) 0 ⟨90, 25, 90, 31⟩) .nil) ⟨90, 11, 90, 16⟩ ⟨90, 11, 90, 32⟩) (.var 0 "_law_a" ⟨90, 36, 90, 42⟩) ⟨90, 11, 90, 42⟩) (.cons (.cmp .eq (.call 8 "times" (.var 0 "_law_a" ⟨90, 53, 90, 59⟩) (.cons (.tup (.cons (.int 0 0 ⟨90, 62, 90, 63⟩) (.cons (.int 1 0 ⟨90, 65, 90, 66⟩) .nil)) 0 ⟨90, 61, 90, 67⟩) .nil) ⟨90, 47, 90, 52⟩ ⟨90, 47, 90, 68⟩) (.tup (.cons (.int 0 0 ⟨90, 73, 90, 74⟩) (.cons (.int 1 0 ⟨90, 76, 90, 77⟩) .nil)) 0 ⟨90, 72, 90, 78⟩) ⟨90, 47, 90, 78⟩) .nil) ⟨90, 11, 90, 78⟩) ⟨90, 4, 90, 78⟩)], false⟩, { posonlyargs := [], args := [{ arg := "_law_a", annotation := none, pos := ⟨70, 19, 70, 25⟩ : PySem.Arg }, { arg := "_law_b", annotation := none, pos := ⟨70, 27, 70, 33⟩ : PySem.Arg }], vararg := none, kwonlyargs := [], kw_defaults := [], kwarg := none, defaults := [] : PySem.Arguments }⟩
def f16 : FnT := ⟨⟨"_law_check_three", ["_law_a", "_law_b", "_law_c"], ["_law_a", "_law_b", "_law_c"], sc17, [(.ife (.or (.cmp .ne (.call 6 "plus" (.call 6 "plus" (.var 0 "_law_a" ⟨92, 17, 92, 23⟩) (.cons (.var 1 "_law_b" ⟨92, 25, 92, 31⟩) .nil) ⟨92, 12, 92, 16⟩ ⟨92, 12, 92, 32⟩) (.cons (.var 2 "_law_c" ⟨92, 34, 92, 40⟩) .nil) ⟨92, 7, 92, 11⟩ ⟨92, 7, 92, 41⟩) (.call 6 "plus" (.var 0 "_law_a" ⟨92, 50, 92, 56⟩) (.cons (.call 6 "plus" (.var 1 "_law_b" ⟨92, 63, 92, 69⟩) (.cons (.var 2 "_law_c" ⟨92, 71, 92, 77⟩) .nil) ⟨92, 58, 92, 62⟩ ⟨92, 58, 92, 78⟩) .nil) ⟨92, 45, 92, 49⟩ ⟨92, 45, 92, 79⟩) ⟨92, 7, 92, 79⟩) (.cons (.cmp .ne (.call 8 "times" (.call 8 "times" (.var 0 "_law_a" ⟨92, 95, 92, 101⟩) (.cons (.var 1 "_law_b" ⟨92, 103, 92, 109⟩) .nil) ⟨92, 89, 92, 94⟩ ⟨92, 89, 92, 110⟩) (.cons (.var 2 "_law_c" ⟨92, 112, 92, 118⟩) .nil) ⟨92, 83, 92, 88⟩ ⟨92, 83, 92, 119⟩) (.call 8 "times" (.var 0 "_law_a" ⟨92, 129, 92, 135⟩) (.cons (.call 8 "times" (.var 1 "_law_b" ⟨92, 143, 92, 149⟩) (.cons (.var 2 "_law_c" ⟨92, 151, 92, 157⟩) .nil) ⟨92, 137, 92, 142⟩ ⟨92, 137, 92, 158⟩) .nil) ⟨92, 123, 92, 128⟩ ⟨92, 123, 92, 159⟩) ⟨92, 83, 92, 159⟩) .nil) ⟨92, 7, 92, 159⟩) [(.ret (.bl false 0 ⟨93, 15, 93, 20⟩) ⟨93, 8, 93, 20⟩)] [] ⟨92, 4, 93, 20⟩), (.ife (.cmp .ne (.call 8 "times" (.var 0 "_law_a" ⟨94, 13, 94, 19⟩) (.cons (.call 6 "plus" (.var 1 "_law_b" ⟨94, 26, 94, 32⟩) (.cons (.var 2 "_law_c" ⟨94, 34, 94, 40⟩) .nil) ⟨94, 21, 94, 25⟩ ⟨94, 21, 94, 41⟩) .nil) ⟨94, 7, 94, 12⟩ ⟨94, 7, 94, 42⟩) (.call 6 "plus" (.call 8 "times" (.var 0 "_law_a" ⟨94, 57, 94, 63⟩) (.cons (.var 1 "_law_b" ⟨94, 65, 94, 71⟩) .nil) ⟨94, 51, 94, 56⟩ ⟨94, 51, 94, 72⟩) (.cons (.call 8 "times" (.var 0 "_law_a" ⟨94, 80, 94, 86⟩) (.cons (.var 2 "_law_c" ⟨94, 88, 94, 94⟩) .nil) ⟨94, 74, 94, 79⟩ ⟨94, 74, 94, 95⟩) .nil) ⟨94, 46, 94, 50⟩ ⟨94, 46, 94, 96⟩) ⟨94, 7, 94, 96⟩) [(.ret (.bl false 0 ⟨95, 15, 95, 20⟩) ⟨95, 8, 95, 20⟩)] [] ⟨94, 4, 95, 20⟩), (.ife (.cmp .ne (.call 8 "times" (.call 7 "minus" (.var 0 "_law_a" ⟨96, 19, 96, 25⟩) (.cons (.var 1 "_law_b" ⟨96, 27, 96, 33⟩) .nil) ⟨96, 13, 96, 18⟩ ⟨96, 13, 96, 34⟩) (.cons (.var 2 "_law_c" ⟨96, 36, 96, 42⟩) .nil) ⟨96, 7, 96, 12⟩ ⟨96, 7, 96, 43⟩) (.call 7 "minus" (.call 8 "times" (.var 0 "_law_a" ⟨96, 59, 96, 65⟩) (.cons (.var 2 "_law_c" ⟨96, 67, 96, 73⟩) .nil) ⟨96, 53, 96, 58⟩ ⟨96, 53, 96, 74⟩) (.cons (.call 8 "times" (.var 1 "_law_b" ⟨96, 82, 96, 88⟩) (.cons (.var 2 "_law_c" ⟨96, 90, 96, 96⟩) .nil) ⟨96, 76, 96, 81⟩ ⟨96, 76, 96, 97⟩) .nil) ⟨96, 47, 96, 52⟩ ⟨96, 47, 96, 98⟩) ⟨96, 7, 96, 98⟩) [(.ret (.bl false 0 ⟨97, 15, 97, 20⟩) ⟨97, 8, 97, 20⟩)] [] ⟨96, 4, 97, 20⟩), (.ife (.cmp .ne (.call 10 "is_less" (.var 0 "_law_a" ⟨98, 15, 98, 21⟩) (.cons (.var 1 "_law_b" ⟨98, 23, 98, 29⟩) .nil) ⟨98, 7, 98, 14⟩ ⟨98, 7, 98, 30⟩) (.call 10 "is_less" (.call 6 "plus" (.var 0 "_law_a" ⟨98, 47, 98, 53⟩) (.cons (.var 2 "_law_c" ⟨98, 55, 98, 61⟩) .nil) ⟨98, 42, 98, 46⟩ ⟨98, 42, 98, 62⟩) (.cons (.call 6 "plus" (.var 1 "_law_b" ⟨98, 69, 98, 75⟩) (.cons (.var 2 "_law_c" ⟨98, 77, 98, 83⟩) .nil) ⟨98, 64, 98, 68⟩ ⟨98, 64, 98, 84⟩) .nil) ⟨98, 34, 98, 41⟩ ⟨98, 34, 98, 85⟩) ⟨98, 7, 98, 85⟩) [(.ret (.bl false 0 ⟨99, 15, 99, 20⟩) ⟨99, 8, 99, 20⟩)] [] ⟨98, 4, 99, 20⟩), (.ife (.and (.cmp .gt (.ix (.var 2 "_law_c" ⟨100, 7, 100, 13⟩) (.int 0 0 ⟨100, 14, 100, 15⟩) ⟨100, 7, 100, 16⟩) (.int 0 0 ⟨100, 19, 100, 20⟩) ⟨100, 7, 100, 20⟩) (.cons (.cmp .ne (.call 10 "is_less" (.var 0 "_law_a" ⟨100, 33, 100, 39⟩) (.cons (.var 1 "_law_b" ⟨100, 41, 100, 47⟩) .nil) ⟨100, 25, 100, 32⟩ ⟨100, 25, 100, 48⟩) (.call 10 "is_less" (.call 8 "times" (.var 0 "_law_a" ⟨100, 66, 100, 72⟩) (.cons (.var 2 "_law_c" ⟨100, 74, 100, 80⟩) .nil) ⟨100, 60, 100, 65⟩ ⟨100, 60, 100, 81⟩) (.cons (.call 8 "times" (.var 1 "_law_b" ⟨100, 89, 100, 95⟩) (.cons (.var 2 "_law_c" ⟨100, 97, 100, 103⟩) .nil) ⟨100, 83, 100, 88⟩ ⟨100, 83, 100, 104⟩) .nil) ⟨100, 52, 100, 59⟩ ⟨100, 52, 100, 105⟩) ⟨100, 25, 100, 105⟩) .nil) ⟨100, 7, 100, 105⟩) [(.ret (.bl false 0 ⟨101, 15, 101, 20⟩) ⟨101, 8, 101, 20⟩)] [] ⟨100, 4, 101, 20⟩), (.ife (.and (.cmp .lt (.ix (.var 2 "_law_c" ⟨102, 7, 102, 13⟩) (.int 0 0 ⟨102, 14, 102, 15⟩) ⟨102, 7, 102, 16⟩) (.int 0 0 ⟨102, 19, 102, 20⟩) ⟨102, 7, 102, 20⟩) (.cons (.cmp .ne (.call 10 "is_less" (.var 0 "_law_a" ⟨102, 33, 102, 39⟩) (.cons (.var 1 "_law_b" ⟨102, 41, 102, 47⟩) .nil) ⟨102, 25, 102, 32⟩ ⟨102, 25, 102, 48⟩) (.call 10 "is_less" (.call 8 "times" (.var 1 "_law_b" ⟨102, 66, 102, 72⟩) (.cons (.var 2 "_law_c" ⟨102, 74, 102, 80⟩) .nil) ⟨102, 60, 102, 65⟩ ⟨102, 60, 102, 81⟩) (.cons (.call 8 "times" (.var 0 "_law_a" ⟨102, 89, 102, 95⟩) (.cons (.var 2 "_law_c" ⟨102, 97, 102, 103⟩) .nil) ⟨102, 83, 102, 88⟩ ⟨102, 83, 102, 104⟩) .nil) ⟨102, 52, 102, 59⟩ ⟨102, 52, 102, 105⟩) ⟨102, 25, 102, 105⟩) .nil) ⟨102, 7, 102, 105⟩) [(.ret (.bl false 0 ⟨103, 15, 103, 20⟩) ⟨103, 8, 103, 20⟩)] [] ⟨102, 4, 103, 20⟩), (.ret (.or (.not (.call 10 "is_less" (.var 0 "_law_a" ⟨104, 23, 104, 29⟩) (.cons (.var 1 "_law_b" ⟨104, 31, 104, 37⟩) .nil) ⟨104, 15, 104, 22⟩ ⟨104, 15, 104, 38⟩) ⟨104, 11, 104, 38⟩) (.cons (.not (.call 10 "is_less" (.var 1 "_law_b" ⟨104, 54, 104, 60⟩) (.cons (.var 2 "_law_c" ⟨104, 62, 104, 68⟩) .nil) ⟨104, 46, 104, 53⟩ ⟨104, 46, 104, 69⟩) ⟨104, 42, 104, 69⟩) (.cons (.call 10 "is_less" (.var 0 "_law_a" ⟨104, 81, 104, 87⟩) (.cons (.var 2 "_law_c" ⟨104, 89, 104, 95⟩) .nil) ⟨104, 73, 104, 80⟩ ⟨104, 73, 104, 96⟩) .nil)) ⟨104, 11, 104, 96⟩) ⟨104, 4, 104, 96⟩)], false⟩, { posonlyargs := [], args := [{ arg := "_law_a", annotation := none, pos := ⟨91, 21, 91, 27⟩ : PySem.Arg }, { arg := "_law_b", annotation := none, pos := ⟨91, 29, 91, 35⟩ : PySem.Arg }, { arg := "_law_c", annotation := none, pos := ⟨91, 37, 91, 43⟩ : PySem.Arg }], vararg := none, kwonlyargs := [], kw_defaults := [], kwarg := none, defaults := [] : PySem.Arguments }⟩
def f17 : FnT := ⟨⟨"_law_check_totals", ["_law_reader_here"], ["_law_reader_here", "_law_size", "_law_one", "_law_two", "_law_late", "_law_more", "_law_both", "_law_some", ".0", "_law_turn", "_law_k"], sc22, [(.set 1 "_law_size" ⟨106, 4, 106, 13⟩ (.bin .add (.int 1 0 ⟨106, 16, 106, 17⟩) (.call 13 "_law_draw" (.var 0 "_law_reader_here" ⟨106, 30, 106, 46⟩) (.cons (.int 6 0 ⟨106, 48, 106, 49⟩) .nil) ⟨106, 20, 106, 29⟩ ⟨106, 20, 106, 50⟩) ⟨106, 16, 106, 50⟩) ⟨106, 4, 106, 50⟩), (.tgt (.tup [(2, "_law_one", ⟨107, 4, 107, 12⟩), (3, "_law_two", ⟨107, 14, 107, 22⟩)] 0 ⟨107, 4, 107, 22⟩) (.lc false (.blt .tuple (.lc false (.bin .sub (.call 13 "_law_draw" (.var 0 "_law_reader_here" ⟨107, 43, 107, 59⟩) (.cons (.int 19 0 ⟨107, 61, 107, 63⟩) .nil) ⟨107, 33, 107, 42⟩ ⟨107, 33, 107, 64⟩) (.int 9 0 ⟨107, 67, 107, 68⟩) ⟨107, 33, 107, 68⟩) (.nm 10 "_law_k" ⟨107, 73, 107, 79⟩) (.rng1 (.var 1 "_law_size" ⟨107, 89, 107, 98⟩) ⟨107, 83, 107, 88⟩ ⟨107, 83, 107, 99⟩) .none sc18 [(".0", 8), ("_law_k", 10)] ⟨107, 32, 107, 100⟩) .nil ⟨107, 26, 107, 31⟩ ⟨107, 26, 107, 101⟩) (.nm 9 "_law_turn" ⟨107, 106, 107, 115⟩) (.rng1 (.int 2 0 ⟨107, 125, 107, 126⟩) ⟨107, 119, 107, 124⟩ ⟨107, 119, 107, 127⟩) .none sc19 [(".0", 8), ("_law_turn", 9)] ⟨107, 25, 107, 128⟩) ⟨107, 4, 107, 128⟩), (.tgt (.tup [(4, "_law_late", ⟨108, 4, 108, 13⟩), (5, "_law_more", ⟨108, 15, 108, 24⟩)] 0 ⟨108, 4, 108, 24⟩) (.lc false (.blt .tuple (.lc false (.call 13 "_law_draw" (.var 0 "_law_reader_here" ⟨108, 45, 108, 61⟩) (.cons (.int 99 0 ⟨108, 63, 108, 65⟩) .nil) ⟨108, 35, 108, 44⟩ ⟨108, 35, 108, 66⟩) (.nm 10 "_law_k" ⟨108, 71, 108, 77⟩) (.rng1 (.var 1 "_law_size" ⟨108, 87, 108, 96⟩) ⟨108, 81, 108, 86⟩ ⟨108, 81, 108, 97⟩) .none sc18 [(".0", 8), ("_law_k", 10)] ⟨108, 34, 108, 98⟩) .nil ⟨108, 28, 108, 33⟩ ⟨108, 28, 108, 99⟩) (.nm 9 "_law_turn" ⟨108, 104, 108, 113⟩) (.rng1 (.int 2 0 ⟨108, 123, 108, 124⟩) ⟨108, 117, 108, 122⟩ ⟨108, 117, 108, 125⟩) .none sc19 [(".0", 8), ("_law_turn", 9)] ⟨108, 27, 108, 126⟩) ⟨108, 4, 108, 126⟩), (.set 6 "_law_both" ⟨109, 4, 109, 13⟩ (.blt .tuple (.lc false (.bin .add (.ix (.var 4 "_law_late" ⟨109, 23, 109, 32⟩) (.var 10 "_law_k" ⟨109, 33, 109, 39⟩) ⟨109, 23, 109, 40⟩) (.ix (.var 5 "_law_more" ⟨109, 43, 109, 52⟩) (.var 10 "_law_k" ⟨109, 53, 109, 59⟩) ⟨109, 43, 109, 60⟩) ⟨109, 23, 109, 60⟩) (.nm 10 "_law_k" ⟨109, 65, 109, 71⟩) (.rng1 (.var 1 "_law_size" ⟨109, 81, 109, 90⟩) ⟨109, 75, 109, 80⟩ ⟨109, 75, 109, 91⟩) .none sc20 [(".0", 8), ("_law_k", 10)] ⟨109, 22, 109, 92⟩) .nil ⟨109, 16, 109, 21⟩ ⟨109, 16, 109, 93⟩) ⟨109, 4, 109, 93⟩), (.set 7 "_law_some" ⟨110, 4, 110, 13⟩ (.blt .tuple (.lc false (.bin .sub (.ix (.var 2 "_law_one" ⟨110, 23, 110, 31⟩) (.var 10 "_law_k" ⟨110, 32, 110, 38⟩) ⟨110, 23, 110, 39⟩) (.ix (.var 3 "_law_two" ⟨110, 42, 110, 50⟩) (.var 10 "_law_k" ⟨110, 51, 110, 57⟩) ⟨110, 42, 110, 58⟩) ⟨110, 23, 110, 58⟩) (.nm 10 "_law_k" ⟨110, 63, 110, 69⟩) (.rng1 (.var 1 "_law_size" ⟨110, 79, 110, 88⟩) ⟨110, 73, 110, 78⟩ ⟨110, 73, 110, 89⟩) .none sc21 [(".0", 8), ("_law_k", 10)] ⟨110, 22, 110, 90⟩) .nil ⟨110, 16, 110, 21⟩ ⟨110, 16, 110, 91⟩) ⟨110, 4, 110, 91⟩), (.ife (.cmp .ne (.call 11 "total_of" (.var 2 "_law_one" ⟨111, 16, 111, 24⟩) (.cons (.var 6 "_law_both" ⟨111, 26, 111, 35⟩) .nil) ⟨111, 7, 111, 15⟩ ⟨111, 7, 111, 36⟩) (.bin .add (.call 11 "total_of" (.var 2 "_law_one" ⟨111, 49, 111, 57⟩) (.cons (.var 4 "_law_late" ⟨111, 59, 111, 68⟩) .nil) ⟨111, 40, 111, 48⟩ ⟨111, 40, 111, 69⟩) (.call 11 "total_of" (.var 2 "_law_one" ⟨111, 81, 111, 89⟩) (.cons (.var 5 "_law_more" ⟨111, 91, 111, 100⟩) .nil) ⟨111, 72, 111, 80⟩ ⟨111, 72, 111, 101⟩) ⟨111, 40, 111, 101⟩) ⟨111, 7, 111, 101⟩) [(.ret (.bl false 0 ⟨112, 15, 112, 20⟩) ⟨112, 8, 112, 20⟩)] [] ⟨111, 4, 112, 20⟩), (.ife (.cmp .ne (.call 11 "total_of" (.var 7 "_law_some" ⟨113, 16, 113, 25⟩) (.cons (.var 4 "_law_late" ⟨113, 27, 113, 36⟩) .nil) ⟨113, 7, 113, 15⟩ ⟨113, 7, 113, 37⟩) (.bin .sub (.call 11 "total_of" (.var 2 "_law_one" ⟨113, 50, 113, 58⟩) (.cons (.var 4 "_law_late" ⟨113, 60, 113, 69⟩) .nil) ⟨113, 41, 113, 49⟩ ⟨113, 41, 113, 70⟩) (.call 11 "total_of" (.var 3 "_law_two" ⟨113, 82, 113, 90⟩) (.cons (.var 4 "_law_late" ⟨113, 92, 113, 101⟩) .nil) ⟨113, 73, 113, 81⟩ ⟨113, 73, 113, 102⟩) ⟨113, 41, 113, 102⟩) ⟨113, 7, 113, 102⟩) [(.ret (.bl false 0 ⟨114, 15, 114, 20⟩) ⟨114, 8, 114, 20⟩)] [] ⟨113, 4, 114, 20⟩), (.ife (.cmp .ne (.call 11 "total_of" (.bin .mul (.tup (.cons (.int 0 0 ⟨115, 17, 115, 18⟩) .nil) 0 ⟨115, 16, 115, 20⟩) (.var 1 "_law_size" ⟨115, 23, 115, 32⟩) ⟨115, 16, 115, 32⟩) (.cons (.var 4 "_law_late" ⟨115, 34, 115, 43⟩) .nil) ⟨115, 7, 115, 15⟩ ⟨115, 7, 115, 44⟩) (.int 0 0 ⟨115, 48, 115, 49⟩) ⟨115, 7, 115, 49⟩) [(.ret (.bl false 0 ⟨116, 15, 116, 20⟩) ⟨116, 8, 116, 20⟩)] [] ⟨115, 4, 116, 20⟩), (.ife (.cmp .ne (.call 11 "total_of" (.bin .mul (.tup (.cons (.int 1 0 ⟨117, 17, 117, 18⟩) .nil) 0 ⟨117, 16, 117, 20⟩) (.var 1 "_law_size" ⟨117, 23, 117, 32⟩) ⟨117, 16, 117, 32⟩) (.cons (.var 4 "_law_late" ⟨117, 34, 117, 43⟩) .nil) ⟨117, 7, 117, 15⟩ ⟨117, 7, 117, 44⟩) (.blt .sum (.var 4 "_law_late" ⟨117, 52, 117, 61⟩) .nil ⟨117, 48, 117, 51⟩ ⟨117, 48, 117, 62⟩) ⟨117, 7, 117, 62⟩) [(.ret (.bl false 0 ⟨118, 15, 118, 20⟩) ⟨118, 8, 118, 20⟩)] [] ⟨117, 4, 118, 20⟩), (.ret (.cmp .eq (.call 11 "total_of" (.bin .add (.var 2 "_law_one" ⟨119, 20, 119, 28⟩) (.var 3 "_law_two" ⟨119, 31, 119, 39⟩) ⟨119, 20, 119, 39⟩) (.cons (.bin .add (.var 4 "_law_late" ⟨119, 41, 119, 50⟩) (.var 5 "_law_more" ⟨119, 53, 119, 62⟩) ⟨119, 41, 119, 62⟩) .nil) ⟨119, 11, 119, 19⟩ ⟨119, 11, 119, 63⟩) (.bin .add (.call 11 "total_of" (.var 2 "_law_one" ⟨119, 76, 119, 84⟩) (.cons (.var 4 "_law_late" ⟨119, 86, 119, 95⟩) .nil) ⟨119, 67, 119, 75⟩ ⟨119, 67, 119, 96⟩) (.call 11 "total_of" (.var 3 "_law_two" ⟨119, 108, 119, 116⟩) (.cons (.var 5 "_law_more" ⟨119, 118, 119, 127⟩) .nil) ⟨119, 99, 119, 107⟩ ⟨119, 99, 119, 128⟩) ⟨119, 67, 119, 128⟩) ⟨119, 11, 119, 128⟩) ⟨119, 4, 119, 128⟩)], false⟩, { posonlyargs := [], args := [{ arg := "_law_reader_here", annotation := none, pos := ⟨105, 22, 105, 38⟩ : PySem.Arg }], vararg := none, kwonlyargs := [], kw_defaults := [], kwarg := none, defaults := [] : PySem.Arguments }⟩
def f18 : FnT := ⟨⟨"law", ["_law_script"], ["_law_script", "_law_reader_here", "_law_lots", "_law_a", "_law_b", ".0", "_law_turn"], sc24, [(.set 1 "_law_reader_here" ⟨121, 4, 121, 20⟩ (.call 12 "_law_reader" (.var 0 "_law_script" ⟨121, 35, 121, 46⟩) .nil ⟨121, 23, 121, 34⟩ ⟨121, 23, 121, 47⟩) ⟨121, 4, 121, 47⟩), (.set 2 "_law_lots" ⟨122, 4, 122, 13⟩ (.bin .add (.lst false (.cons (.tup (.cons (.int 0 0 ⟨122, 18, 122, 19⟩) (.cons (.int 1 0 ⟨122, 21, 122, 22⟩) .nil)) 0 ⟨122, 17, 122, 23⟩) (.cons (.tup (.cons (.int 1 0 ⟨122, 26, 122, 27⟩) (.cons (.int 1 0 ⟨122, 29, 122, 30⟩) .nil)) 0 ⟨122, 25, 122, 31⟩) (.cons (.tup (.cons (.neg (.int 1 0 ⟨122, 35, 122, 36⟩) ⟨122, 34, 122, 36⟩) (.cons (.int 3 0 ⟨122, 38, 122, 39⟩) .nil)) 0 ⟨122, 33, 122, 40⟩) .nil))) ⟨122, 16, 122, 41⟩) (.lc false (.call 14 "_law_random_part" (.var 1 "_law_reader_here" ⟨122, 62, 122, 78⟩) .nil ⟨122, 45, 122, 61⟩ ⟨122, 45, 122, 79⟩) (.nm 6 "_law_turn" ⟨122, 84, 122, 93⟩) (.rng1 (.int 6 0 ⟨122, 103, 122, 104⟩) ⟨122, 97, 122, 102⟩ ⟨122, 97, 122, 105⟩) .none sc23 [(".0", 5), ("_law_turn", 6)] ⟨122, 44, 122, 106⟩) ⟨122, 16, 122, 106⟩) ⟨122, 4, 122, 106⟩), (.forr (.nm 3 "_law_a" ⟨123, 8, 123, 14⟩) (.val (.var 2 "_law_lots" ⟨123, 18, 123, 27⟩)) [(.forr (.nm 4 "_law_b" ⟨124, 12, 124, 18⟩) (.val (.var 2 "_law_lots" ⟨124, 22, 124, 31⟩)) [(.ife (.not (.call 15 "_law_check_two" (.var 3 "_law_a" ⟨125, 34, 125, 40⟩) (.cons (.var 4 "_law_b" ⟨125, 42, 125, 48⟩) .nil) ⟨125, 19, 125, 33⟩ ⟨125, 19, 125, 49⟩) ⟨125, 15, 125, 49⟩) [(.ret (.bl false 0 ⟨126, 23, 126, 28⟩) ⟨126, 16, 126, 28⟩)] [] ⟨125, 12, 126, 28⟩)] ⟨124, 8, 126, 28⟩), (.ife (.not (.call 16 "_law_check_three" (.var 3 "_law_a" ⟨127, 32, 127, 38⟩) (.cons (.ix (.var 2 "_law_lots" ⟨127, 40, 127, 49⟩) (.call 13 "_law_draw" (.var 1 "_law_reader_here" ⟨127, 60, 127, 76⟩) (.cons (.int 9 0 ⟨127, 78, 127, 79⟩) .nil) ⟨127, 50, 127, 59⟩ ⟨127, 50, 127, 80⟩) ⟨127, 40, 127, 81⟩) (.cons (.ix (.var 2 "_law_lots" ⟨127, 83, 127, 92⟩) (.call 13 "_law_draw" (.var 1 "_law_reader_here" ⟨127, 103, 127, 119⟩) (.cons (.int 9 0 ⟨127, 121, 127, 122⟩) .nil) ⟨127, 93, 127, 102⟩ ⟨127, 93, 127, 123⟩) ⟨127, 83, 127, 124⟩) .nil)) ⟨127, 15, 127, 31⟩ ⟨127, 15, 127, 125⟩) ⟨127, 11, 127, 125⟩) [(.ret (.bl false 0 ⟨128, 19, 128, 24⟩) ⟨128, 12, 128, 24⟩)] [] ⟨127, 8, 128, 24⟩)] ⟨123, 4, 128, 24⟩), (.ret (.and (.call 17 "_law_check_totals" (.var 1 "_law_reader_here" ⟨129, 29, 129, 45⟩) .nil ⟨129, 11, 129, 28⟩ ⟨129, 11, 129, 46⟩) (.cons (.call 17 "_law_check_totals" (.var 1 "_law_reader_here" ⟨129, 69, 129, 85⟩) .nil ⟨129, 51, 129, 68⟩ ⟨129, 51, 129, 86⟩) .nil) ⟨129, 11, 129, 86⟩) ⟨129, 4, 129, 86⟩)], false⟩, { posonlyargs := [], args := [{ arg := "_law_script", annotation := none, pos := ⟨120, 8, 120, 19⟩ : PySem.Arg }], vararg := none, kwonlyargs := [], kw_defaults := [], kwarg := none, defaults := [] : PySem.Arguments }⟩
def ts : List FnT := ([f0, f1, f2, f3, f4, f5, f6, f7, f8, f9, f10, f11, f12, f13, f14, f15, f16, f17, f18] : List FnT)
theorem b0 : BindP f0 := fun _ _ _ _ _ _ _ _ _ _ us hl => match us, hl with | [_], _ => rfl
theorem b1 : BindP f1 := fun _ _ _ _ _ _ _ _ _ _ us hl => match us, hl with | [_, _], _ => rfl
theorem b2 : BindP f2 := fun _ _ _ _ _ _ _ _ _ _ us hl => match us, hl with | [_], _ => rfl
theorem b3 : BindP f3 := fun _ _ _ _ _ _ _ _ _ _ us hl => match us, hl with | [_, _], _ => rfl
theorem b4 : BindP f4 := fun _ _ _ _ _ _ _ _ _ _ us hl => match us, hl with | [_, _], _ => rfl
theorem b5 : BindP f5 := fun _ _ _ _ _ _ _ _ _ _ us hl => match us, hl with | [_, _], _ => rfl
theorem b6 : BindP f6 := fun _ _ _ _ _ _ _ _ _ _ us hl => match us, hl with | [_, _], _ => rfl
theorem b7 : BindP f7 := fun _ _ _ _ _ _ _ _ _ _ us hl => match us, hl with | [_, _], _ => rfl
theorem b8 : BindP f8 := fun _ _ _ _ _ _ _ _ _ _ us hl => match us, hl with | [_, _], _ => rfl
theorem b9 : BindP f9 := fun _ _ _ _ _ _ _ _ _ _ us hl => match us, hl with | [_, _], _ => rfl
theorem b10 : BindP f10 := fun _ _ _ _ _ _ _ _ _ _ us hl => match us, hl with | [_, _], _ => rfl
theorem b11 : BindP f11 := fun _ _ _ _ _ _ _ _ _ _ us hl => match us, hl with | [_, _], _ => rfl
theorem b12 : BindP f12 := fun _ _ _ _ _ _ _ _ _ _ us hl => match us, hl with | [_], _ => rfl
theorem b13 : BindP f13 := fun _ _ _ _ _ _ _ _ _ _ us hl => match us, hl with | [_, _], _ => rfl
theorem b14 : BindP f14 := fun _ _ _ _ _ _ _ _ _ _ us hl => match us, hl with | [_], _ => rfl
theorem b15 : BindP f15 := fun _ _ _ _ _ _ _ _ _ _ us hl => match us, hl with | [_, _], _ => rfl
theorem b16 : BindP f16 := fun _ _ _ _ _ _ _ _ _ _ us hl => match us, hl with | [_, _, _], _ => rfl
theorem b17 : BindP f17 := fun _ _ _ _ _ _ _ _ _ _ us hl => match us, hl with | [_], _ => rfl
theorem b18 : BindP f18 := fun _ _ _ _ _ _ _ _ _ _ us hl => match us, hl with | [_], _ => rfl
theorem bs : BindAll ts := ⟨b0, b1, b2, b3, b4, b5, b6, b7, b8, b9, b10, b11, b12, b13, b14, b15, b16, b17, b18, trivial⟩
theorem okT : tabOk ts = true := by kernel_rfl
def top (i : Nat) : Stmt := PySem.Challenge.pw_thinspans_k05_whole_fractions.main.body.getD i (.Pass ⟨0, 0, 0, 0⟩)
def mkD (x : Str) (st : Stmt) : He.DefD := ⟨(x, none), x, x, defArgs st, defBody st, defScope st, [], []⟩
def fn : List He.DefD := ([mkD "is_integer" (top 5), mkD "common_divisor" (top 6), mkD "is_fraction" (top 7), mkD "require" (top 9), mkD "lowest" (top 10), mkD "made" (top 11), mkD "plus" (top 12), mkD "minus" (top 13), mkD "times" (top 14), mkD "over" (top 15), mkD "is_less" (top 16), mkD "total_of" (top 17), mkD "_law_reader" (top 19), mkD "_law_draw" (top 20), mkD "_law_random_part" (top 21), mkD "_law_check_two" (top 22), mkD "_law_check_three" (top 23), mkD "_law_check_totals" (top 24), mkD "law" (top 25)] : List He.DefD)
theorem fn_eq : fn = ts.map FnT.d := by kernel_rfl
def fa : List He.Fa := (ts.map fun T => He.Fa.glo T.F.x) ++ bltNames.map He.Fa.free
abbrev R : PySem.W.OpenRow := PySem.W.OpenLaw.row PySem.Challenge.rw_thinspans_k05_whole_fractions
abbrev hk : PySem.W.Hook := He.hookD 4 fa fn
def ob (s : PySem.W.SharedT) : He.AlD := He.obsDG 4 fa fn (HandSHeadRun.getT s)
theorem ob_eq (s : PySem.W.SharedT) : ob s = hk.obs s.abs := He.obsDG_eq (HandSHeadRun.getT_eq s)
def loose : List PySem.Str := (["ThinError", "TraceError", "NotUsable", "is_integer", "common_divisor", "is_fraction", "require", "lowest", "made", "plus", "minus", "times", "over", "is_less", "total_of", "_law_reader", "_law_draw", "_law_random_part", "_law_check_two", "_law_check_three"] : List PySem.Str) ++ (["_law_check_totals"] : List PySem.Str)
theorem run0 (w : World) : HandSHeadRun.RunEq R (PySem.W.view R.prog [25]) hk ob 20000 loose w := by
  intro os
  kernel_rfl
end Law

namespace Law
open PySem PySem.Spec Ev
abbrev tb : List FnS := ts.map (·.F)
abbrev I (i : Int) : Vl := .d (.int i)
/-! ### plain numbers -/
def Bx (k : Nat) (x : Rat) : Prop := x.num.natAbs < 2 ^ k ∧ x.den < 2 ^ k
def F (x : Rat) : PyData := .tuple [.int x.num, .int (x.den : Nat)]
theorem Bx.mono {k m : Nat} {x : Rat} (h : Bx k x) (hk : k ≤ m) : Bx m x := ⟨Nat.lt_of_lt_of_le h.1 (Nat.pow_le_pow_right (by decide) hk), Nat.lt_of_lt_of_le h.2 (Nat.pow_le_pow_right (by decide) hk)⟩
theorem den0 (x : Rat) : (x.den : Int) ≠ 0 := by have := x.den_nz; omega
theorem bx_div {k : Nat} {p q : Int} (hp : p.natAbs < 2 ^ k) (hq : q.natAbs < 2 ^ k) (h0 : q ≠ 0) : Bx k (Rat.divInt p q) := by
  constructor
  · rw [Rat.num_divInt]
    refine Nat.lt_of_le_of_lt (Int.natAbs_ediv_le_natAbs _ _) ?_
    rw [Int.natAbs_mul, Int.natAbs_sign_of_ne_zero h0, Nat.one_mul]
    exact hp
  · rw [Rat.den_divInt, if_neg h0]
    exact Nat.lt_of_le_of_lt (Nat.div_le_self _ _) hq
theorem add_rep (x y : Rat) : x + y = Rat.divInt (x.num * y.den + y.num * x.den) (x.den * y.den) := by
  have := Rat.divInt_add_divInt x.num y.num (den0 x) (den0 y)
  rw [Rat.num_divInt_den, Rat.num_divInt_den] at this
  exact this
theorem sub_rep (x y : Rat) : x - y = Rat.divInt (x.num * y.den - y.num * x.den) (x.den * y.den) := by
  have := Rat.divInt_sub_divInt x.num y.num (den0 x) (den0 y)
  rw [Rat.num_divInt_den, Rat.num_divInt_den] at this
  exact this
theorem mul_rep (x y : Rat) : x * y = Rat.divInt (x.num * y.num) (x.den * y.den) := by
  have := Rat.divInt_mul_divInt x.num y.num (d₁ := x.den) (d₂ := y.den)
  rw [Rat.num_divInt_den, Rat.num_divInt_den] at this
  exact this
theorem div_rep (x y : Rat) : x / y = Rat.divInt (x.num * y.den) (x.den * y.num) := by
  have := Rat.divInt_mul_divInt x.num y.den (d₁ := x.den) (d₂ := y.num)
  rw [Rat.num_divInt_den, ← Rat.inv_divInt, Rat.num_divInt_den] at this
  rw [Rat.div_def]
  exact this
theorem mul_bd {a b : Int} {k m : Nat} (ha : a.natAbs < 2 ^ k) (hb : b.natAbs < 2 ^ m) : (a * b).natAbs < 2 ^ (k + m) := by
  rw [Int.natAbs_mul, Nat.pow_add]
  exact Nat.mul_lt_mul'' ha hb
theorem add_bd {a b : Int} {k : Nat} (ha : a.natAbs < 2 ^ k) (hb : b.natAbs < 2 ^ k) : (a + b).natAbs < 2 ^ (k + 1) := by
  rw [Nat.pow_succ]
  omega
theorem sub_bd {a b : Int} {k : Nat} (ha : a.natAbs < 2 ^ k) (hb : b.natAbs < 2 ^ k) : (a - b).natAbs < 2 ^ (k + 1) := by
  rw [Nat.pow_succ]
  omega
theorem up_bd {a : Nat} {k m : Nat} (ha : a < 2 ^ k) (h : k ≤ m) : a < 2 ^ m := Nat.lt_of_lt_of_le ha (Nat.pow_le_pow_right (by decide) h)
theorem bx_add {k : Nat} {x y : Rat} (hx : Bx k x) (hy : Bx k y) : Bx (k + k + 1) (x + y) := by
  rw [add_rep]
  exact bx_div (add_bd (mul_bd hx.1 hy.2) (mul_bd hy.1 hx.2)) (up_bd (mul_bd (a := x.den) (b := y.den) hx.2 hy.2) (by omega)) (Int.mul_ne_zero (den0 x) (den0 y))
theorem bx_sub {k : Nat} {x y : Rat} (hx : Bx k x) (hy : Bx k y) : Bx (k + k + 1) (x - y) := by
  rw [sub_rep]
  exact bx_div (sub_bd (mul_bd hx.1 hy.2) (mul_bd hy.1 hx.2)) (up_bd (mul_bd (a := x.den) (b := y.den) hx.2 hy.2) (by omega)) (Int.mul_ne_zero (den0 x) (den0 y))
theorem bx_mul {k : Nat} {x y : Rat} (hx : Bx k x) (hy : Bx k y) : Bx (k + k + 1) (x * y) := by
  rw [mul_rep]
  exact bx_div (up_bd (mul_bd hx.1 hy.1) (by omega)) (up_bd (mul_bd (a := x.den) (b := y.den) hx.2 hy.2) (by omega)) (Int.mul_ne_zero (den0 x) (den0 y))
theorem num0 {x : Rat} (h : x ≠ 0) : x.num ≠ 0 := fun e => h (Rat.num_eq_zero.mp e)
theorem bx_dvd {k : Nat} {x y : Rat} (hx : Bx k x) (hy : Bx k y) (h0 : y ≠ 0) : Bx (k + k + 1) (x / y) := by
  rw [div_rep]
  exact bx_div (up_bd (mul_bd (b := y.den) hx.1 hy.2) (by omega)) (up_bd (mul_bd (a := x.den) hx.2 hy.1) (by omega)) (Int.mul_ne_zero (den0 x) (num0 h0))
/-! ### the defs -/
theorem s_isint (n : Nat) (M : Sto) (i : Int) : Ev.run tb (n + 1) 0 [I i] M = .ok (.d (.bool true)) M := by
  rw [runS n 0 f0.F rfl]
  simp [f0, runF, evSs, CS.ev, CE.ev, CE.evT, CEs.ev, CI.ev, CO.evI, CO.evC, CT.ev, CT.slots, tgNames, tgName, tgTup, tgCons, tgNil, evAnd, evOr, evAndT, evOrT, callE, gsSeq, gsNil, gsSet, gsTgt, gsPar, gsExp, gsRet, gsRetN, gsIf, gsPut, gBin, gUn, gVar, gCon, gB, gIf, gTru, gAndT, gOrT, gNotT, gAnd, gOr, gNot, gChain, gNil, gCons, gCall, gTup, gLst, gLstM, gDisp, gSl, gNoPart, gPart, gMeth, giVal, giRng1, giRng2, giZip, giEnu, srcOf, asInt, asBool, startR, COp.ev, BOp.ev, Blt.ev, Mth.ev, Mth.ty, lift2, lift1, liftC1, peek, toD, toDs, ixV, dctAt, ixL, ixT, L2.atI, L2.ixN, give, Out.bind, bindS, OutS.then, finR, finV, addD, subD, cmpI, isaD, negD, absD, intD, lenV, lenD, tupleD, listD, PyData.isInt, PyData.isBool, PyData.isTuple, PyData.isList, PyData.isStr, itemsOf, truV, truD, PyData.truthy, sizeLine_eq, slD, putV, keyD, isNoneV]
theorem fmod_nat (a b : Nat) : Int.fmod (a : Int) (b : Int) = ((a % b : Nat) : Int) := by
  rw [Int.fmod_eq_emod_of_nonneg _ (by omega)]
  rfl
theorem abs_nat (p : Int) : (if p < 0 then -p else p) = ((p.natAbs : Nat) : Int) := by split <;> omega
def mu1 : Rho → Nat
  | [_, some (.d (.int b))] => b.natAbs
  | _ => 0
theorem s_cd (n : Nat) (M : Sto) (p q : Int) (hq : q.natAbs < 2 ^ 4000) : Ev.run tb (n + 1) 1 [I p, I q] M = .ok (I (Int.gcd p q)) M := by
  rw [runS n 1 f1.F rfl]
  simp [f1, runF, evSs, CS.ev, CE.ev, CE.evT, CEs.ev, CI.ev, CO.evI, CO.evC, CT.ev, CT.slots, tgNames, tgName, tgTup, tgCons, tgNil, evAnd, evOr, evAndT, evOrT, callE, gsSeq, gsNil, gsSet, gsTgt, gsPar, gsExp, gsRet, gsRetN, gsIf, gsPut, gBin, gUn, gVar, gCon, gB, gIf, gTru, gAndT, gOrT, gNotT, gAnd, gOr, gNot, gChain, gNil, gCons, gCall, gTup, gLst, gLstM, gDisp, gSl, gNoPart, gPart, gMeth, giVal, giRng1, giRng2, giZip, giEnu, srcOf, asInt, asBool, startR, COp.ev, BOp.ev, Blt.ev, Mth.ev, Mth.ty, lift2, lift1, liftC1, peek, toD, toDs, ixV, dctAt, ixL, ixT, L2.atI, L2.ixN, give, Out.bind, bindS, OutS.then, finR, finV, addD, subD, cmpI, isaD, negD, absD, intD, lenV, lenD, tupleD, listD, PyData.isInt, PyData.isBool, PyData.isTuple, PyData.isList, PyData.isStr, itemsOf, truV, truD, PyData.truthy, sizeLine_eq, slD, putV, keyD, isNoneV, abs_nat]
  generalize hW : gsWh _ _ _ _ = o
  obtain ⟨ρ', M', rfl, rfl, rfl⟩ := wh_of hW (fun ρ M' => M' = M ∧ ∃ a b : Nat, ρ = [some (I a), some (I b)] ∧ Nat.gcd a b = Int.gcd p q ∧ b < 2 ^ 4000) (fun ρ M' => M' = M ∧ ρ = [some (I (Int.gcd p q)), some (I 0)]) mu1 ⟨rfl, p.natAbs, q.natAbs, rfl, rfl, hq⟩ hq (by
    rintro ρ M' ⟨rfl, a, b, rfl, hg, hb⟩
    refine ⟨decide (0 < (b : Int)), M', by simp [runF, evSs, CS.ev, CE.ev, CE.evT, CEs.ev, CI.ev, CO.evI, CO.evC, CT.ev, CT.slots, tgNames, tgName, tgTup, tgCons, tgNil, evAnd, evOr, evAndT, evOrT, callE, gsSeq, gsNil, gsSet, gsTgt, gsPar, gsExp, gsRet, gsRetN, gsIf, gsPut, gBin, gUn, gVar, gCon, gB, gIf, gTru, gAndT, gOrT, gNotT, gAnd, gOr, gNot, gChain, gNil, gCons, gCall, gTup, gLst, gLstM, gDisp, gSl, gNoPart, gPart, gMeth, giVal, giRng1, giRng2, giZip, giEnu, srcOf, asInt, asBool, startR, COp.ev, BOp.ev, Blt.ev, Mth.ev, Mth.ty, lift2, lift1, liftC1, peek, toD, toDs, ixV, dctAt, ixL, ixT, L2.atI, L2.ixN, give, Out.bind, bindS, OutS.then, finR, finV, addD, subD, cmpI, isaD, negD, absD, intD, lenV, lenD, tupleD, listD, PyData.isInt, PyData.isBool, PyData.isTuple, PyData.isList, PyData.isStr, itemsOf, truV, truD, PyData.truthy, sizeLine_eq, slD, putV, keyD, isNoneV], fun h => ?_, fun h => ?_⟩
    · have hb0 : 0 < b := by simpa using h
      have hbi : (b : Int) ≠ 0 := by omega
      refine ⟨[some (I b), some (I ((a % b : Nat) : Int))], M', .inl ?_, ⟨rfl, b, a % b, rfl, ?_, ?_⟩, ?_⟩
      · simp [runF, evSs, CS.ev, CE.ev, CE.evT, CEs.ev, CI.ev, CO.evI, CO.evC, CT.ev, CT.slots, tgNames, tgName, tgTup, tgCons, tgNil, evAnd, evOr, evAndT, evOrT, callE, gsSeq, gsNil, gsSet, gsTgt, gsPar, gsExp, gsRet, gsRetN, gsIf, gsPut, gBin, gUn, gVar, gCon, gB, gIf, gTru, gAndT, gOrT, gNotT, gAnd, gOr, gNot, gChain, gNil, gCons, gCall, gTup, gLst, gLstM, gDisp, gSl, gNoPart, gPart, gMeth, giVal, giRng1, giRng2, giZip, giEnu, srcOf, asInt, asBool, startR, COp.ev, BOp.ev, Blt.ev, Mth.ev, Mth.ty, lift2, lift1, liftC1, peek, toD, toDs, ixV, dctAt, ixL, ixT, L2.atI, L2.ixN, give, Out.bind, bindS, OutS.then, finR, finV, addD, subD, cmpI, isaD, negD, absD, intD, lenV, lenD, tupleD, listD, PyData.isInt, PyData.isBool, PyData.isTuple, PyData.isList, PyData.isStr, itemsOf, truV, truD, PyData.truthy, sizeLine_eq, slD, putV, keyD, isNoneV, mod_ok hbi, fmod_nat]
      · rw [← hg, Nat.gcd_comm a b, Nat.gcd_rec b a, Nat.gcd_comm]
      · exact Nat.lt_of_lt_of_le (Nat.mod_lt _ hb0) (Nat.le_of_lt hb)
      · exact Nat.mod_lt _ hb0
    · have hb0 : b = 0 := by
        have : ¬ (0 < (b : Int)) := by simpa using h
        omega
      subst hb0
      refine ⟨rfl, ?_⟩
      rw [← hg, Nat.gcd_zero_right]
      rfl)
  simp
theorem gcd_le (p : Int) {q : Int} (h : q ≠ 0) : Int.gcd p q ≤ q.natAbs := Nat.gcd_le_right _ (by omega)
theorem low_num {p q : Int} (h : q ≠ 0) (d : Int) (hd : d = if q > 0 then ((Int.gcd p q : Nat) : Int) else 0 - ((Int.gcd p q : Nat) : Int)) : p.fdiv d = (Rat.divInt p q).num ∧ q.fdiv d = ((Rat.divInt p q).den : Int) := by
  have g1 : ((Int.gcd p q : Nat) : Int) ∣ p := Int.gcd_dvd_left ..
  have g2 : ((Int.gcd p q : Nat) : Int) ∣ q := Int.gcd_dvd_right ..
  have hg : 0 < Int.gcd p q := Int.gcd_pos_of_ne_zero_right _ h
  rw [Rat.num_divInt, Rat.den_divInt, if_neg h, Int.gcd_comm q p]
  generalize Int.gcd p q = g at *
  by_cases hq : q > 0
  · rw [if_pos hq] at hd
    subst hd
    rw [Int.fdiv_eq_ediv_of_dvd g1, Int.fdiv_eq_ediv_of_dvd g2, Int.sign_eq_one_of_pos hq, Int.one_mul]
    refine ⟨rfl, ?_⟩
    rw [Int.natCast_ediv]
    congr 1
    omega
  · rw [if_neg hq] at hd
    have hq2 : q < 0 := by omega
    have hd2 : d = -(g : Int) := by omega
    subst hd2
    rw [Int.fdiv_eq_ediv_of_dvd (Int.neg_dvd.mpr g1), Int.fdiv_eq_ediv_of_dvd (Int.neg_dvd.mpr g2), Int.sign_eq_neg_one_of_neg hq2, Int.ediv_neg, Int.ediv_neg, Int.neg_mul, Int.one_mul, Int.neg_ediv_of_dvd g1]
    refine ⟨rfl, ?_⟩
    rw [Int.natCast_ediv, ← Int.neg_ediv_of_dvd g2]
    congr 1
    omega
theorem s_low (n : Nat) (M : Sto) (p q : Int) (h0 : q ≠ 0) (hq : q.natAbs < 2 ^ 4000) : Ev.run tb (n + 2) 4 [I p, I q] M = .ok (.d (F (Rat.divInt p q))) M := by
  rw [runS (n + 1) 4 f4.F rfl]
  have hg : (((Int.gcd p q : Nat) : Int)).natAbs < 2 ^ 4000 := Nat.lt_of_le_of_lt (by simpa using gcd_le p h0) hq
  have hg0 : 0 < Int.gcd p q := Int.gcd_pos_of_ne_zero_right _ h0
  by_cases h : 0 < q
  · have hl := low_num (p := p) h0 (Int.gcd p q) (by rw [if_pos h])
    simp [f4, runF, evSs, CS.ev, CE.ev, CE.evT, CEs.ev, CI.ev, CO.evI, CO.evC, CT.ev, CT.slots, tgNames, tgName, tgTup, tgCons, tgNil, evAnd, evOr, evAndT, evOrT, callE, gsSeq, gsNil, gsSet, gsTgt, gsPar, gsExp, gsRet, gsRetN, gsIf, gsPut, gBin, gUn, gVar, gCon, gB, gIf, gTru, gAndT, gOrT, gNotT, gAnd, gOr, gNot, gChain, gNil, gCons, gCall, gTup, gLst, gLstM, gDisp, gSl, gNoPart, gPart, gMeth, giVal, giRng1, giRng2, giZip, giEnu, srcOf, asInt, asBool, startR, COp.ev, BOp.ev, Blt.ev, Mth.ev, Mth.ty, lift2, lift1, liftC1, peek, toD, toDs, ixV, dctAt, ixL, ixT, L2.atI, L2.ixN, give, Out.bind, bindS, OutS.then, finR, finV, addD, subD, cmpI, isaD, negD, absD, intD, lenV, lenD, tupleD, listD, PyData.isInt, PyData.isBool, PyData.isTuple, PyData.isList, PyData.isStr, itemsOf, truV, truD, PyData.truthy, sizeLine_eq, slD, putV, keyD, isNoneV, s_cd n M p q hq, h, div_ok hg (show ((Int.gcd p q : Nat) : Int) ≠ 0 by omega) (by decide), hl.1, hl.2, F]
  · have hl := low_num (p := p) h0 (0 - Int.gcd p q) (by rw [if_neg h])
    have hg2 : (0 - ((Int.gcd p q : Nat) : Int)).natAbs < 2 ^ 4000 := by omega
    have d1 := div_ok (i := p) hg2 (by omega) (by decide)
    have d2 := div_ok (i := q) hg2 (by omega) (by decide)
    rw [hl.1] at d1
    rw [hl.2] at d2
    simp at d1 d2
    simp [f4, runF, evSs, CS.ev, CE.ev, CE.evT, CEs.ev, CI.ev, CO.evI, CO.evC, CT.ev, CT.slots, tgNames, tgName, tgTup, tgCons, tgNil, evAnd, evOr, evAndT, evOrT, callE, gsSeq, gsNil, gsSet, gsTgt, gsPar, gsExp, gsRet, gsRetN, gsIf, gsPut, gBin, gUn, gVar, gCon, gB, gIf, gTru, gAndT, gOrT, gNotT, gAnd, gOr, gNot, gChain, gNil, gCons, gCall, gTup, gLst, gLstM, gDisp, gSl, gNoPart, gPart, gMeth, giVal, giRng1, giRng2, giZip, giEnu, srcOf, asInt, asBool, startR, COp.ev, BOp.ev, Blt.ev, Mth.ev, Mth.ty, lift2, lift1, liftC1, peek, toD, toDs, ixV, dctAt, ixL, ixT, L2.atI, L2.ixN, give, Out.bind, bindS, OutS.then, finR, finV, addD, subD, cmpI, isaD, negD, absD, intD, lenV, lenD, tupleD, listD, PyData.isInt, PyData.isBool, PyData.isTuple, PyData.isList, PyData.isStr, itemsOf, truV, truD, PyData.truthy, sizeLine_eq, slD, putV, keyD, isNoneV, s_cd n M p q hq, h, d1, d2, F]
theorem s_req (n : Nat) (M : Sto) (w : PyData) : Ev.run tb (n + 1) 3 [.d (.bool true), .d w] M = .ok (.d .none) M := by
  rw [runS n 3 f3.F rfl]
  simp [f3, runF, evSs, CS.ev, CE.ev, CE.evT, CEs.ev, CI.ev, CO.evI, CO.evC, CT.ev, CT.slots, tgNames, tgName, tgTup, tgCons, tgNil, evAnd, evOr, evAndT, evOrT, callE, gsSeq, gsNil, gsSet, gsTgt, gsPar, gsExp, gsRet, gsRetN, gsIf, gsPut, gBin, gUn, gVar, gCon, gB, gIf, gTru, gAndT, gOrT, gNotT, gAnd, gOr, gNot, gChain, gNil, gCons, gCall, gTup, gLst, gLstM, gDisp, gSl, gNoPart, gPart, gMeth, giVal, giRng1, giRng2, giZip, giEnu, srcOf, asInt, asBool, startR, COp.ev, BOp.ev, Blt.ev, Mth.ev, Mth.ty, lift2, lift1, liftC1, peek, toD, toDs, ixV, dctAt, ixL, ixT, L2.atI, L2.ixN, give, Out.bind, bindS, OutS.then, finR, finV, addD, subD, cmpI, isaD, negD, absD, intD, lenV, lenD, tupleD, listD, PyData.isInt, PyData.isBool, PyData.isTuple, PyData.isList, PyData.isStr, itemsOf, truV, truD, PyData.truthy, sizeLine_eq, slD, putV, keyD, isNoneV]
theorem s_plus (n : Nat) (M : Sto) {k : Nat} {x y : Rat} (hx : Bx k x) (hy : Bx k y) (hk : k ≤ 1000) : Ev.run tb (n + 3) 6 [.d (F x), .d (F y)] M = .ok (.d (F (x + y))) M := by
  rw [runS (n + 2) 6 f6.F rfl]
  have l := s_low n M (x.num * y.den + y.num * x.den) (x.den * y.den) (Int.mul_ne_zero (den0 x) (den0 y)) (up_bd (mul_bd (a := x.den) (b := y.den) hx.2 hy.2) (by omega))
  rw [← add_rep] at l
  simp [f6, runF, evSs, CS.ev, CE.ev, CE.evT, CEs.ev, CI.ev, CO.evI, CO.evC, CT.ev, CT.slots, tgNames, tgName, tgTup, tgCons, tgNil, evAnd, evOr, evAndT, evOrT, callE, gsSeq, gsNil, gsSet, gsTgt, gsPar, gsExp, gsRet, gsRetN, gsIf, gsPut, gBin, gUn, gVar, gCon, gB, gIf, gTru, gAndT, gOrT, gNotT, gAnd, gOr, gNot, gChain, gNil, gCons, gCall, gTup, gLst, gLstM, gDisp, gSl, gNoPart, gPart, gMeth, giVal, giRng1, giRng2, giZip, giEnu, srcOf, asInt, asBool, startR, COp.ev, BOp.ev, Blt.ev, Mth.ev, Mth.ty, lift2, lift1, liftC1, peek, toD, toDs, ixV, dctAt, ixL, ixT, L2.atI, L2.ixN, give, Out.bind, bindS, OutS.then, finR, finV, addD, subD, cmpI, isaD, negD, absD, intD, lenV, lenD, tupleD, listD, PyData.isInt, PyData.isBool, PyData.isTuple, PyData.isList, PyData.isStr, itemsOf, truV, truD, PyData.truthy, sizeLine_eq, slD, putV, keyD, isNoneV, F, mul_ok (j := y.den) hx.1 hy.2 (by omega), mul_ok (j := x.den) hy.1 hx.2 (by omega), mul_ok (i := x.den) (j := y.den) hx.2 hy.2 (by omega)]
  rw [l]
  simp [F]
theorem s_minus (n : Nat) (M : Sto) {k : Nat} {x y : Rat} (hx : Bx k x) (hy : Bx k y) (hk : k ≤ 1000) : Ev.run tb (n + 3) 7 [.d (F x), .d (F y)] M = .ok (.d (F (x - y))) M := by
  rw [runS (n + 2) 7 f7.F rfl]
  have l := s_low n M (x.num * y.den - y.num * x.den) (x.den * y.den) (Int.mul_ne_zero (den0 x) (den0 y)) (up_bd (mul_bd (a := x.den) (b := y.den) hx.2 hy.2) (by omega))
  rw [← sub_rep] at l
  simp [f7, runF, evSs, CS.ev, CE.ev, CE.evT, CEs.ev, CI.ev, CO.evI, CO.evC, CT.ev, CT.slots, tgNames, tgName, tgTup, tgCons, tgNil, evAnd, evOr, evAndT, evOrT, callE, gsSeq, gsNil, gsSet, gsTgt, gsPar, gsExp, gsRet, gsRetN, gsIf, gsPut, gBin, gUn, gVar, gCon, gB, gIf, gTru, gAndT, gOrT, gNotT, gAnd, gOr, gNot, gChain, gNil, gCons, gCall, gTup, gLst, gLstM, gDisp, gSl, gNoPart, gPart, gMeth, giVal, giRng1, giRng2, giZip, giEnu, srcOf, asInt, asBool, startR, COp.ev, BOp.ev, Blt.ev, Mth.ev, Mth.ty, lift2, lift1, liftC1, peek, toD, toDs, ixV, dctAt, ixL, ixT, L2.atI, L2.ixN, give, Out.bind, bindS, OutS.then, finR, finV, addD, subD, cmpI, isaD, negD, absD, intD, lenV, lenD, tupleD, listD, PyData.isInt, PyData.isBool, PyData.isTuple, PyData.isList, PyData.isStr, itemsOf, truV, truD, PyData.truthy, sizeLine_eq, slD, putV, keyD, isNoneV, F, mul_ok (j := y.den) hx.1 hy.2 (by omega), mul_ok (j := x.den) hy.1 hx.2 (by omega), mul_ok (i := x.den) (j := y.den) hx.2 hy.2 (by omega)]
  rw [l]
  simp [F]
theorem s_times (n : Nat) (M : Sto) {k : Nat} {x y : Rat} (hx : Bx k x) (hy : Bx k y) (hk : k ≤ 1000) : Ev.run tb (n + 3) 8 [.d (F x), .d (F y)] M = .ok (.d (F (x * y))) M := by
  rw [runS (n + 2) 8 f8.F rfl]
  have l := s_low n M (x.num * y.num) (x.den * y.den) (Int.mul_ne_zero (den0 x) (den0 y)) (up_bd (mul_bd (a := x.den) (b := y.den) hx.2 hy.2) (by omega))
  rw [← mul_rep] at l
  simp [f8, runF, evSs, CS.ev, CE.ev, CE.evT, CEs.ev, CI.ev, CO.evI, CO.evC, CT.ev, CT.slots, tgNames, tgName, tgTup, tgCons, tgNil, evAnd, evOr, evAndT, evOrT, callE, gsSeq, gsNil, gsSet, gsTgt, gsPar, gsExp, gsRet, gsRetN, gsIf, gsPut, gBin, gUn, gVar, gCon, gB, gIf, gTru, gAndT, gOrT, gNotT, gAnd, gOr, gNot, gChain, gNil, gCons, gCall, gTup, gLst, gLstM, gDisp, gSl, gNoPart, gPart, gMeth, giVal, giRng1, giRng2, giZip, giEnu, srcOf, asInt, asBool, startR, COp.ev, BOp.ev, Blt.ev, Mth.ev, Mth.ty, lift2, lift1, liftC1, peek, toD, toDs, ixV, dctAt, ixL, ixT, L2.atI, L2.ixN, give, Out.bind, bindS, OutS.then, finR, finV, addD, subD, cmpI, isaD, negD, absD, intD, lenV, lenD, tupleD, listD, PyData.isInt, PyData.isBool, PyData.isTuple, PyData.isList, PyData.isStr, itemsOf, truV, truD, PyData.truthy, sizeLine_eq, slD, putV, keyD, isNoneV, F, mul_ok hx.1 hy.1 (by omega), mul_ok (i := x.den) (j := y.den) hx.2 hy.2 (by omega)]
  rw [l]
  simp [F]
theorem ne_ok (a b : PyData) (h : min a.depth b.depth ≤ 64) : neD a b = some (.bool (!PyData.eqv a b)) := by simp only [neD, if_pos h]
theorem eq_ok (a b : PyData) (h : min a.depth b.depth ≤ 64) : eqD a b = some (.bool (PyData.eqv a b)) := by simp only [eqD, if_pos h]
theorem s_over (n : Nat) (M : Sto) {k : Nat} {x y : Rat} (hx : Bx k x) (hy : Bx k y) (h0 : y ≠ 0) (hk : k ≤ 1000) : Ev.run tb (n + 3) 9 [.d (F x), .d (F y)] M = .ok (.d (F (x / y))) M := by
  rw [runS (n + 2) 9 f9.F rfl]
  have l := s_low n M (x.num * y.den) (x.den * y.num) (Int.mul_ne_zero (den0 x) (num0 h0)) (up_bd (mul_bd (a := x.den) hx.2 hy.1) (by omega))
  rw [← div_rep] at l
  have hn : neD (.int y.num) (.int 0) = some (.bool true) := by
    rw [ne_ok _ _ (by simp [PyData.depth])]
    simp [PyData.eqv, num0 h0]
  simp [f9, runF, evSs, CS.ev, CE.ev, CE.evT, CEs.ev, CI.ev, CO.evI, CO.evC, CT.ev, CT.slots, tgNames, tgName, tgTup, tgCons, tgNil, evAnd, evOr, evAndT, evOrT, callE, gsSeq, gsNil, gsSet, gsTgt, gsPar, gsExp, gsRet, gsRetN, gsIf, gsPut, gBin, gUn, gVar, gCon, gB, gIf, gTru, gAndT, gOrT, gNotT, gAnd, gOr, gNot, gChain, gNil, gCons, gCall, gTup, gLst, gLstM, gDisp, gSl, gNoPart, gPart, gMeth, giVal, giRng1, giRng2, giZip, giEnu, srcOf, asInt, asBool, startR, COp.ev, BOp.ev, Blt.ev, Mth.ev, Mth.ty, lift2, lift1, liftC1, peek, toD, toDs, ixV, dctAt, ixL, ixT, L2.atI, L2.ixN, give, Out.bind, bindS, OutS.then, finR, finV, addD, subD, cmpI, isaD, negD, absD, intD, lenV, lenD, tupleD, listD, PyData.isInt, PyData.isBool, PyData.isTuple, PyData.isList, PyData.isStr, itemsOf, truV, truD, PyData.truthy, sizeLine_eq, slD, putV, keyD, isNoneV, F, hn, s_req, mul_ok (j := y.den) hx.1 hy.2 (by omega), mul_ok (i := x.den) hx.2 hy.1 (by omega)]
  rw [l]
  simp [F]
theorem s_less (n : Nat) (M : Sto) {k : Nat} {x y : Rat} (hx : Bx k x) (hy : Bx k y) (hk : k ≤ 1000) : Ev.run tb (n + 1) 10 [.d (F x), .d (F y)] M = .ok (.d (.bool (decide (x < y)))) M := by
  rw [runS n 10 f10.F rfl]
  simp [f10, runF, evSs, CS.ev, CE.ev, CE.evT, CEs.ev, CI.ev, CO.evI, CO.evC, CT.ev, CT.slots, tgNames, tgName, tgTup, tgCons, tgNil, evAnd, evOr, evAndT, evOrT, callE, gsSeq, gsNil, gsSet, gsTgt, gsPar, gsExp, gsRet, gsRetN, gsIf, gsPut, gBin, gUn, gVar, gCon, gB, gIf, gTru, gAndT, gOrT, gNotT, gAnd, gOr, gNot, gChain, gNil, gCons, gCall, gTup, gLst, gLstM, gDisp, gSl, gNoPart, gPart, gMeth, giVal, giRng1, giRng2, giZip, giEnu, srcOf, asInt, asBool, startR, COp.ev, BOp.ev, Blt.ev, Mth.ev, Mth.ty, lift2, lift1, liftC1, peek, toD, toDs, ixV, dctAt, ixL, ixT, L2.atI, L2.ixN, give, Out.bind, bindS, OutS.then, finR, finV, addD, subD, cmpI, isaD, negD, absD, intD, lenV, lenD, tupleD, listD, PyData.isInt, PyData.isBool, PyData.isTuple, PyData.isList, PyData.isStr, itemsOf, truV, truD, PyData.truthy, sizeLine_eq, slD, putV, keyD, isNoneV, F, mul_ok (j := y.den) hx.1 hy.2 (by omega), mul_ok (j := x.den) hy.1 hx.2 (by omega), Rat.lt_iff]
theorem s_made (n : Nat) (M : Sto) {p q : Int} (h0 : q ≠ 0) (hq : q.natAbs < 2 ^ 4000) : Ev.run tb (n + 3) 5 [I p, I q] M = .ok (.d (F (Rat.divInt p q))) M := by
  rw [runS (n + 2) 5 f5.F rfl]
  have hn : neD (.int q) (.int 0) = some (.bool true) := by
    rw [ne_ok _ _ (by simp [PyData.depth])]
    simp [PyData.eqv, h0]
  simp [f5, runF, evSs, CS.ev, CE.ev, CE.evT, CEs.ev, CI.ev, CO.evI, CO.evC, CT.ev, CT.slots, tgNames, tgName, tgTup, tgCons, tgNil, evAnd, evOr, evAndT, evOrT, callE, gsSeq, gsNil, gsSet, gsTgt, gsPar, gsExp, gsRet, gsRetN, gsIf, gsPut, gBin, gUn, gVar, gCon, gB, gIf, gTru, gAndT, gOrT, gNotT, gAnd, gOr, gNot, gChain, gNil, gCons, gCall, gTup, gLst, gLstM, gDisp, gSl, gNoPart, gPart, gMeth, giVal, giRng1, giRng2, giZip, giEnu, srcOf, asInt, asBool, startR, COp.ev, BOp.ev, Blt.ev, Mth.ev, Mth.ty, lift2, lift1, liftC1, peek, toD, toDs, ixV, dctAt, ixL, ixT, L2.atI, L2.ixN, give, Out.bind, bindS, OutS.then, finR, finV, addD, subD, cmpI, isaD, negD, absD, intD, lenV, lenD, tupleD, listD, PyData.isInt, PyData.isBool, PyData.isTuple, PyData.isList, PyData.isStr, itemsOf, truV, truD, PyData.truthy, sizeLine_eq, slD, putV, keyD, isNoneV, s_isint, s_req, hn]
  rw [s_low n M p q h0 hq]
  simp [F]
theorem eqI (a b : Int) : eqD (.int a) (.int b) = some (.bool (a == b)) := by
  rw [eq_ok _ _ (by simp [PyData.depth])]
  simp [PyData.eqv]
theorem neI (a b : Int) : neD (.int a) (.int b) = some (.bool (!(a == b))) := by
  rw [ne_ok _ _ (by simp [PyData.depth])]
  simp [PyData.eqv]
theorem F_inj {x y : Rat} : (x.num = y.num ∧ (x.den : Int) = y.den) ↔ x = y := ⟨fun h => Rat.ext h.1 (by omega), fun h => by subst h; exact ⟨rfl, rfl⟩⟩
theorem eqvF (x y : Rat) : PyData.eqv (F x) (F y) = decide (x = y) := by
  simp only [F, PyData.eqv, PyData.eqvAll]
  by_cases h : x = y
  · subst h; simp
  · rw [decide_eq_false h]
    have : ¬ (x.num = y.num ∧ (x.den : Int) = y.den) := fun q => h (F_inj.mp q)
    simp
    intro e
    exact fun e2 => h (Rat.ext e (by omega))
theorem depF (x : Rat) : (F x).depth = 1 := by simp [F, PyData.depth, PyData.depthAll]
theorem eqF (x y : Rat) : eqD (F x) (F y) = some (.bool (decide (x = y))) := by
  rw [eq_ok _ _ (by rw [depF, depF]; decide), eqvF]
theorem neF (x y : Rat) : neD (F x) (F y) = some (.bool (!decide (x = y))) := by
  rw [ne_ok _ _ (by rw [depF, depF]; decide), eqvF]
theorem s_isfrac (n : Nat) (M : Sto) {x : Rat} (hx : x.den < 2 ^ 4000) : Ev.run tb (n + 2) 2 [.d (F x)] M = .ok (.d (.bool true)) M := by
  rw [runS (n + 1) 2 f2.F rfl]
  have hg : Int.gcd x.num x.den = 1 := x.reduced
  have hc := s_cd n M x.num x.den hx
  rw [hg] at hc
  have hp : (1 : Int) ≤ (x.den : Int) := by have := x.den_nz; omega
  simp [f2, runF, evSs, CS.ev, CE.ev, CE.evT, CEs.ev, CI.ev, CO.evI, CO.evC, CT.ev, CT.slots, tgNames, tgName, tgTup, tgCons, tgNil, evAnd, evOr, evAndT, evOrT, callE, gsSeq, gsNil, gsSet, gsTgt, gsPar, gsExp, gsRet, gsRetN, gsIf, gsPut, gBin, gUn, gVar, gCon, gB, gIf, gTru, gAndT, gOrT, gNotT, gAnd, gOr, gNot, gChain, gNil, gCons, gCall, gTup, gLst, gLstM, gDisp, gSl, gNoPart, gPart, gMeth, giVal, giRng1, giRng2, giZip, giEnu, srcOf, asInt, asBool, startR, COp.ev, BOp.ev, Blt.ev, Mth.ev, Mth.ty, lift2, lift1, liftC1, peek, toD, toDs, ixV, dctAt, ixL, ixT, L2.atI, L2.ixN, give, Out.bind, bindS, OutS.then, finR, finV, addD, subD, cmpI, isaD, negD, absD, intD, lenV, lenD, tupleD, listD, PyData.isInt, PyData.isBool, PyData.isTuple, PyData.isList, PyData.isStr, itemsOf, truV, truD, PyData.truthy, sizeLine_eq, slD, putV, keyD, isNoneV, F, neI]
  generalize hW : gLc _ _ _ _ _ _ _ _ = o
  obtain rfl := lcp_of hW (src := .tup (.d (F x))) (by simp [runF, evSs, CS.ev, CE.ev, CE.evT, CEs.ev, CI.ev, CO.evI, CO.evC, CT.ev, CT.slots, tgNames, tgName, tgTup, tgCons, tgNil, evAnd, evOr, evAndT, evOrT, callE, gsSeq, gsNil, gsSet, gsTgt, gsPar, gsExp, gsRet, gsRetN, gsIf, gsPut, gBin, gUn, gVar, gCon, gB, gIf, gTru, gAndT, gOrT, gNotT, gAnd, gOr, gNot, gChain, gNil, gCons, gCall, gTup, gLst, gLstM, gDisp, gSl, gNoPart, gPart, gMeth, giVal, giRng1, giRng2, giZip, giEnu, srcOf, asInt, asBool, startR, COp.ev, BOp.ev, Blt.ev, Mth.ev, Mth.ty, lift2, lift1, liftC1, peek, toD, toDs, ixV, dctAt, ixL, ixT, L2.atI, L2.ixN, give, Out.bind, bindS, OutS.then, finR, finV, addD, subD, cmpI, isaD, negD, absD, intD, lenV, lenD, tupleD, listD, PyData.isInt, PyData.isBool, PyData.isTuple, PyData.isList, PyData.isStr, itemsOf, truV, truD, PyData.truthy, sizeLine_eq, slD, putV, keyD, isNoneV, F]) (walks_tup _ M) (by simp [sizeLine_eq]) (fun _ => true) (fun _ => .bool true) (fun y hy M' => by
    obtain ⟨i, rfl⟩ : ∃ i, y = I i := by
      simp at hy
      rcases hy with rfl | rfl <;> exact ⟨_, rfl⟩
    exact ⟨_, rfl, rfl, fun _ => by simp [runF, evSs, CS.ev, CE.ev, CE.evT, CEs.ev, CI.ev, CO.evI, CO.evC, CT.ev, CT.slots, tgNames, tgName, tgTup, tgCons, tgNil, evAnd, evOr, evAndT, evOrT, callE, gsSeq, gsNil, gsSet, gsTgt, gsPar, gsExp, gsRet, gsRetN, gsIf, gsPut, gBin, gUn, gVar, gCon, gB, gIf, gTru, gAndT, gOrT, gNotT, gAnd, gOr, gNot, gChain, gNil, gCons, gCall, gTup, gLst, gLstM, gDisp, gSl, gNoPart, gPart, gMeth, giVal, giRng1, giRng2, giZip, giEnu, srcOf, asInt, asBool, startR, COp.ev, BOp.ev, Blt.ev, Mth.ev, Mth.ty, lift2, lift1, liftC1, peek, toD, toDs, ixV, dctAt, ixL, ixT, L2.atI, L2.ixN, give, Out.bind, bindS, OutS.then, finR, finV, addD, subD, cmpI, isaD, negD, absD, intD, lenV, lenD, tupleD, listD, PyData.isInt, PyData.isBool, PyData.isTuple, PyData.isList, PyData.isStr, itemsOf, truV, truD, PyData.truthy, sizeLine_eq, slD, putV, keyD, isNoneV, wipeR, s_isint]⟩)
  simp [allD, runF, evSs, CS.ev, CE.ev, CE.evT, CEs.ev, CI.ev, CO.evI, CO.evC, CT.ev, CT.slots, tgNames, tgName, tgTup, tgCons, tgNil, evAnd, evOr, evAndT, evOrT, callE, gsSeq, gsNil, gsSet, gsTgt, gsPar, gsExp, gsRet, gsRetN, gsIf, gsPut, gBin, gUn, gVar, gCon, gB, gIf, gTru, gAndT, gOrT, gNotT, gAnd, gOr, gNot, gChain, gNil, gCons, gCall, gTup, gLst, gLstM, gDisp, gSl, gNoPart, gPart, gMeth, giVal, giRng1, giRng2, giZip, giEnu, srcOf, asInt, asBool, startR, COp.ev, BOp.ev, Blt.ev, Mth.ev, Mth.ty, lift2, lift1, liftC1, peek, toD, toDs, ixV, dctAt, ixL, ixT, L2.atI, L2.ixN, give, Out.bind, bindS, OutS.then, finR, finV, addD, subD, cmpI, isaD, negD, absD, intD, lenV, lenD, tupleD, listD, PyData.isInt, PyData.isBool, PyData.isTuple, PyData.isList, PyData.isStr, itemsOf, truV, truD, PyData.truthy, sizeLine_eq, slD, putV, keyD, isNoneV, fitB, hc, eqI, hp]
theorem ixF0 (x : Rat) : ixD (F x) (.int 0) = some (.int x.num) := rfl
theorem ixF1 (x : Rat) : ixD (F x) (.int 1) = some (.int (x.den : Nat)) := rfl
theorem F0 : PyData.tuple [.int 0, .int 1] = F 0 := rfl
theorem F1 : PyData.tuple [.int 1, .int 1] = F 1 := rfl
theorem bx0 {k : Nat} (h : 0 < k) : Bx k 0 := ⟨Nat.two_pow_pos k, Nat.one_lt_two_pow (by omega)⟩
theorem bx1 {k : Nat} (h : 0 < k) : Bx k 1 := ⟨Nat.one_lt_two_pow (by omega), Nat.one_lt_two_pow (by omega)⟩
theorem eqB (a b : Bool) : neD (.bool a) (.bool b) = some (.bool (a != b)) := by
  rw [ne_ok _ _ (by simp [PyData.depth])]
  cases a <;> cases b <;> simp [PyData.eqv]
theorem neLL : neD (.list []) (.list []) = some (.bool false) := by
  rw [ne_ok _ _ (by simp [PyData.depth, PyData.depthAll])]
  simp [PyData.eqv, PyData.eqvAll]
theorem scale (x : Rat) {c : Int} (h : c ≠ 0) : Rat.divInt (x.num * c) (x.den * c) = x := by
  have := (Rat.divInt_eq_divInt_iff (n₁ := x.num * c) (n₂ := x.num) (d₁ := x.den * c) (d₂ := x.den) (Int.mul_ne_zero (den0 x) h) (den0 x)).mpr (by grind)
  rw [this, Rat.num_divInt_den]
theorem neg_less (x y : Rat) : decide (x < y) = decide ((x - y).num < 0) := by
  have h1 : (x - y).num < 0 ↔ ¬ 0 ≤ (x - y).num := by omega
  have h2 : (x < y) ↔ (x - y).num < 0 := by
    rw [h1, Rat.num_nonneg]
    grind
  by_cases h : x < y
  · rw [decide_eq_true h, decide_eq_true (h2.mp h)]
  · rw [decide_eq_false h, decide_eq_false (fun q => h (h2.mpr q))]
theorem tri (x y : Rat) : List.countP (fun z => z.eqv (.bool true)) [PyData.bool (decide (x < y)), .bool (decide (x = y)), .bool (decide (y < x))] = 1 := by
  have h : (x < y ∧ ¬ x = y ∧ ¬ y < x) ∨ (¬ x < y ∧ x = y ∧ ¬ y < x) ∨ (¬ x < y ∧ ¬ x = y ∧ y < x) := by grind
  rcases h with ⟨h1, h2, h3⟩ | ⟨h1, h2, h3⟩ | ⟨h1, h2, h3⟩ <;> simp [h1, h2, h3, PyData.eqv]
theorem s_two (n : Nat) (M : Sto) {x y : Rat} (hx : Bx 60 x) (hy : Bx 60 y) : Ev.run tb (n + 4) 15 [.d (F x), .d (F y)] M = .ok (.d (.bool true)) M := by
  rw [runS (n + 3) 15 f15.F rfl]
  have hp := bx_add hx hy
  have hm := bx_sub hx hy
  have ht := bx_mul hx hy
  have hx1 := hx.mono (m := 121) (by decide)
  have hy1 := hy.mono (m := 121) (by decide)
  have p1 := fun M => s_plus n M hx hy (by decide)
  have p2 := fun M => s_plus n M hy hx (by decide)
  have m1 := fun M => s_minus n M hx hy (by decide)
  have m2 := fun M => s_minus n M hy hx (by decide)
  have t1 := fun M => s_times n M hx hy (by decide)
  have t2 := fun M => s_times n M hy hx (by decide)
  have m3 := fun M => s_minus n M hp hy1 (by decide)
  have p3 := fun M => s_plus n M hm hy1 (by decide)
  have m4 := fun M => s_minus n M (bx0 (k := 121) (by decide)) (bx_sub hy hx) (by decide)
  have l1 := fun M => s_less (n + 2) M hx hy (by decide)
  have l2 := fun M => s_less (n + 2) M hy hx (by decide)
  have t3 := fun M => s_times n M hx (bx1 (k := 60) (by decide)) (by decide)
  have t4 := fun M => s_times n M hx (bx0 (k := 60) (by decide)) (by decide)
  have e1 : y + x = x + y := by grind
  have e2 : y * x = x * y := by grind
  have e3 : x + y - y = x := by grind
  have e4 : x - y + y = x := by grind
  have e5 : 0 - (y - x) = x - y := by grind
  have e6 : decide (x = y) = decide (x - y = 0) := by
    by_cases h : x = y
    · rw [decide_eq_true h, decide_eq_true (by grind)]
    · rw [decide_eq_false h, decide_eq_false (by grind)]
  have e7 : x * 1 = x := by grind
  have e8 : x * 0 = 0 := by grind
  have d1 := fun M => s_made n M (p := x.num * y.den) (q := x.den * y.den) (Int.mul_ne_zero (den0 x) (den0 y)) (up_bd (mul_bd (a := x.den) (b := y.den) hx.2 hy.2) (by decide))
  have d2 := fun M => s_made n M (p := -x.num) (q := -x.den) (by have := den0 x; omega) (up_bd (k := 60) (by have := hx.2; omega) (by decide))
  rw [scale x (den0 y)] at d1
  have e9 : Rat.divInt (-x.num) (-x.den) = x := by
    have := scale x (c := -1) (by decide)
    rw [show x.num * -1 = -x.num by omega, show (x.den : Int) * -1 = -x.den by omega] at this
    exact this
  rw [e9] at d2
  have q1 := mul_ok (i := x.num) (j := y.den) hx.1 hy.2 (by decide)
  have q2 := mul_ok (i := x.den) (j := y.den) hx.2 hy.2 (by decide)
  simp [f15, runF, evSs, CS.ev, CE.ev, CE.evT, CEs.ev, CI.ev, CO.evI, CO.evC, CT.ev, CT.slots, tgNames, tgName, tgTup, tgCons, tgNil, evAnd, evOr, evAndT, evOrT, callE, gsSeq, gsNil, gsSet, gsTgt, gsPar, gsExp, gsRet, gsRetN, gsIf, gsPut, gBin, gUn, gVar, gCon, gB, gIf, gTru, gAndT, gOrT, gNotT, gAnd, gOr, gNot, gChain, gNil, gCons, gCall, gTup, gLst, gLstM, gDisp, gSl, gNoPart, gPart, gMeth, giVal, giRng1, giRng2, giZip, giEnu, srcOf, asInt, asBool, startR, COp.ev, BOp.ev, Blt.ev, Mth.ev, Mth.ty, lift2, lift1, liftC1, peek, toD, toDs, ixV, dctAt, ixL, ixT, L2.atI, L2.ixN, give, Out.bind, bindS, OutS.then, finR, finV, addD, subD, cmpI, isaD, negD, absD, intD, lenV, lenD, tupleD, listD, PyData.isInt, PyData.isBool, PyData.isTuple, PyData.isList, PyData.isStr, itemsOf, truV, truD, PyData.truthy, sizeLine_eq, slD, putV, keyD, isNoneV]
  generalize hW : gLc _ _ _ _ _ _ _ _ = o
  obtain rfl := lcp_of hW (src := .tup (.d (.tuple [F (x + y), F (x - y), F (x * y)]))) (by simp [runF, evSs, CS.ev, CE.ev, CE.evT, CEs.ev, CI.ev, CO.evI, CO.evC, CT.ev, CT.slots, tgNames, tgName, tgTup, tgCons, tgNil, evAnd, evOr, evAndT, evOrT, callE, gsSeq, gsNil, gsSet, gsTgt, gsPar, gsExp, gsRet, gsRetN, gsIf, gsPut, gBin, gUn, gVar, gCon, gB, gIf, gTru, gAndT, gOrT, gNotT, gAnd, gOr, gNot, gChain, gNil, gCons, gCall, gTup, gLst, gLstM, gDisp, gSl, gNoPart, gPart, gMeth, giVal, giRng1, giRng2, giZip, giEnu, srcOf, asInt, asBool, startR, COp.ev, BOp.ev, Blt.ev, Mth.ev, Mth.ty, lift2, lift1, liftC1, peek, toD, toDs, ixV, dctAt, ixL, ixT, L2.atI, L2.ixN, give, Out.bind, bindS, OutS.then, finR, finV, addD, subD, cmpI, isaD, negD, absD, intD, lenV, lenD, tupleD, listD, PyData.isInt, PyData.isBool, PyData.isTuple, PyData.isList, PyData.isStr, itemsOf, truV, truD, PyData.truthy, sizeLine_eq, slD, putV, keyD, isNoneV, p1, m1, t1]) (walks_tup _ M) (by simp [sizeLine_eq]) (fun _ => false) (fun _ => .none) (fun z hz M' => by
    obtain ⟨w, rfl, hw⟩ : ∃ w : Rat, z = .d (F w) ∧ w.den < 2 ^ 4000 := by
      simp at hz
      rcases hz with rfl | rfl | rfl
      · exact ⟨_, rfl, up_bd hp.2 (by decide)⟩
      · exact ⟨_, rfl, up_bd hm.2 (by decide)⟩
      · exact ⟨_, rfl, up_bd ht.2 (by decide)⟩
    exact ⟨_, rfl, by simp [runF, evSs, CS.ev, CE.ev, CE.evT, CEs.ev, CI.ev, CO.evI, CO.evC, CT.ev, CT.slots, tgNames, tgName, tgTup, tgCons, tgNil, evAnd, evOr, evAndT, evOrT, callE, gsSeq, gsNil, gsSet, gsTgt, gsPar, gsExp, gsRet, gsRetN, gsIf, gsPut, gBin, gUn, gVar, gCon, gB, gIf, gTru, gAndT, gOrT, gNotT, gAnd, gOr, gNot, gChain, gNil, gCons, gCall, gTup, gLst, gLstM, gDisp, gSl, gNoPart, gPart, gMeth, giVal, giRng1, giRng2, giZip, giEnu, srcOf, asInt, asBool, startR, COp.ev, BOp.ev, Blt.ev, Mth.ev, Mth.ty, lift2, lift1, liftC1, peek, toD, toDs, ixV, dctAt, ixL, ixT, L2.atI, L2.ixN, give, Out.bind, bindS, OutS.then, finR, finV, addD, subD, cmpI, isaD, negD, absD, intD, lenV, lenD, tupleD, listD, PyData.isInt, PyData.isBool, PyData.isTuple, PyData.isList, PyData.isStr, itemsOf, truV, truD, PyData.truthy, sizeLine_eq, slD, putV, keyD, isNoneV, wipeR, s_isfrac (n + 1) _ hw], fun h => by cases h⟩)
  have exy := eqF x y
  have ex0 : eqD (F (x - y)) (F 0) = some (.bool (decide (x = y))) := by rw [eqF, e6]
  have nS := fun z => show neD (F z) (F z) = some (.bool false) by rw [neF]; simp
  have eS := fun z => show eqD (F z) (F z) = some (.bool true) by rw [eqF]; simp
  have nB := fun b => show neD (.bool b) (.bool b) = some (.bool false) by rw [eqB]; simp
  have lt0 : cmpI (fun i j => decide (i < j)) (.int (x - y).num) (.int 0) = some (.bool (decide (x < y))) := by rw [neg_less]; rfl
  have c1 : (List.countP (fun z => z.eqv (.bool true)) [PyData.bool (decide (x < y)), .bool (decide (x = y)), .bool (decide (y < x))]) = 1 := tri x y
  have cnt : countV (.d (.list [PyData.bool (decide (x < y)), .bool (decide (x = y)), .bool (decide (y < x))])) [.d (.bool true)] = fun M => .ok (.d (.int 1)) M := by
    funext M
    simp only [countV, peek]
    rw [c1]
    simp [PyData.depthAll, PyData.depth]
  have cnt' := fun M => congrFun cnt M
  have nl : (x - y).num < 0 ↔ x < y := by
    have := neg_less x y
    simpa using this.symm
  by_cases hy0 : y = 0
  · have ny : neD (F y) (F 0) = some (.bool false) := by rw [neF, decide_eq_true hy0]; rfl
    simp [runF, evSs, CS.ev, CE.ev, CE.evT, CEs.ev, CI.ev, CO.evI, CO.evC, CT.ev, CT.slots, tgNames, tgName, tgTup, tgCons, tgNil, evAnd, evOr, evAndT, evOrT, callE, gsSeq, gsNil, gsSet, gsTgt, gsPar, gsExp, gsRet, gsRetN, gsIf, gsPut, gBin, gUn, gVar, gCon, gB, gIf, gTru, gAndT, gOrT, gNotT, gAnd, gOr, gNot, gChain, gNil, gCons, gCall, gTup, gLst, gLstM, gDisp, gSl, gNoPart, gPart, gMeth, giVal, giRng1, giRng2, giZip, giEnu, srcOf, asInt, asBool, startR, COp.ev, BOp.ev, Blt.ev, Mth.ev, Mth.ty, lift2, lift1, liftC1, peek, toD, toDs, ixV, dctAt, ixL, ixT, L2.atI, L2.ixN, give, Out.bind, bindS, OutS.then, finR, finV, addD, subD, cmpI, isaD, negD, absD, intD, lenV, lenD, tupleD, listD, PyData.isInt, PyData.isBool, PyData.isTuple, PyData.isList, PyData.isStr, itemsOf, truV, truD, PyData.truthy, sizeLine_eq, slD, putV, keyD, isNoneV, neLL, p1, p2, m1, m2, t1, t2, m3, p3, m4, l1, l2, t3, t4, e1, e2, e3, e4, e5, e7, e8, d1, d2, q1, q2, F0, F1, exy, ex0, ny, nS, eS, nB, neI, ixF0, ixF1, tyM, cnt', nl]
  · have ny : neD (F y) (F 0) = some (.bool true) := by rw [neF, decide_eq_false hy0]; rfl
    have v1 := fun M => s_over n M ht hy1 hy0 (by decide)
    have v2 := fun M => s_over n M hx hy hy0 (by decide)
    have v3 := fun M => s_over n M hy hy hy0 (by decide)
    have v4 := fun M => s_over n M (bx1 (k := 60) (by decide)) hy hy0 (by decide)
    have t5 := fun M => s_times n M (bx_dvd hx hy hy0) hy1 (by decide)
    have t6 := fun M => s_times n M hx1 (bx_dvd (bx1 (k := 60) (by decide)) hy hy0) (by decide)
    have g1 : x * y / y = x := by grind
    have g2 : x / y * y = x := by grind
    have g3 : y / y = 1 := by grind
    have g4 : x * (1 / y) = x / y := by grind
    simp [runF, evSs, CS.ev, CE.ev, CE.evT, CEs.ev, CI.ev, CO.evI, CO.evC, CT.ev, CT.slots, tgNames, tgName, tgTup, tgCons, tgNil, evAnd, evOr, evAndT, evOrT, callE, gsSeq, gsNil, gsSet, gsTgt, gsPar, gsExp, gsRet, gsRetN, gsIf, gsPut, gBin, gUn, gVar, gCon, gB, gIf, gTru, gAndT, gOrT, gNotT, gAnd, gOr, gNot, gChain, gNil, gCons, gCall, gTup, gLst, gLstM, gDisp, gSl, gNoPart, gPart, gMeth, giVal, giRng1, giRng2, giZip, giEnu, srcOf, asInt, asBool, startR, COp.ev, BOp.ev, Blt.ev, Mth.ev, Mth.ty, lift2, lift1, liftC1, peek, toD, toDs, ixV, dctAt, ixL, ixT, L2.atI, L2.ixN, give, Out.bind, bindS, OutS.then, finR, finV, addD, subD, cmpI, isaD, negD, absD, intD, lenV, lenD, tupleD, listD, PyData.isInt, PyData.isBool, PyData.isTuple, PyData.isList, PyData.isStr, itemsOf, truV, truD, PyData.truthy, sizeLine_eq, slD, putV, keyD, isNoneV, neLL, p1, p2, m1, m2, t1, t2, m3, p3, m4, l1, l2, t3, t4, e1, e2, e3, e4, e5, e7, e8, d1, d2, q1, q2, F0, F1, exy, ex0, ny, nS, eS, nB, neI, ixF0, ixF1, tyM, cnt', nl, v1, v2, v3, v4, t5, t6, g1, g2, g3, g4]
theorem s_three (n : Nat) (M : Sto) {x y z : Rat} (hx : Bx 60 x) (hy : Bx 60 y) (hz : Bx 60 z) : Ev.run tb (n + 4) 16 [.d (F x), .d (F y), .d (F z)] M = .ok (.d (.bool true)) M := by
  rw [runS (n + 3) 16 f16.F rfl]
  have hx1 := hx.mono (m := 121) (by decide)
  have hy1 := hy.mono (m := 121) (by decide)
  have hz1 := hz.mono (m := 121) (by decide)
  have p1 := fun M => s_plus n M hx hy (by decide)
  have p2 := fun M => s_plus n M (bx_add hx hy) hz1 (by decide)
  have p3 := fun M => s_plus n M hy hz (by decide)
  have p4 := fun M => s_plus n M hx1 (bx_add hy hz) (by decide)
  have t1 := fun M => s_times n M hx hy (by decide)
  have t2 := fun M => s_times n M (bx_mul hx hy) hz1 (by decide)
  have t3 := fun M => s_times n M hy hz (by decide)
  have t4 := fun M => s_times n M hx1 (bx_mul hy hz) (by decide)
  have t5 := fun M => s_times n M hx1 (bx_add hy hz) (by decide)
  have t6 := fun M => s_times n M hx hz (by decide)
  have p5 := fun M => s_plus n M (bx_mul hx hy) (bx_mul hx hz) (by decide)
  have m1 := fun M => s_minus n M hx hy (by decide)
  have t7 := fun M => s_times n M (bx_sub hx hy) hz1 (by decide)
  have m2 := fun M => s_minus n M (bx_mul hx hz) (bx_mul hy hz) (by decide)
  have p6 := fun M => s_plus n M hx hz (by decide)
  have l1 := fun M => s_less (n + 2) M hx hy (by decide)
  have l2 := fun M => s_less (n + 2) M (bx_add hx hz) (bx_add hy hz) (by decide)
  have l3 := fun M => s_less (n + 2) M (bx_mul hx hz) (bx_mul hy hz) (by decide)
  have l4 := fun M => s_less (n + 2) M (bx_mul hy hz) (bx_mul hx hz) (by decide)
  have l5 := fun M => s_less (n + 2) M hy hz (by decide)
  have l6 := fun M => s_less (n + 2) M hx hz (by decide)
  have e1 : x + (y + z) = x + y + z := by grind
  have e2 : x * (y * z) = x * y * z := by grind
  have e3 : x * y + x * z = x * (y + z) := by grind
  have e4 : x * z - y * z = (x - y) * z := by grind
  have e5 : (x + z < y + z) ↔ (x < y) := Rat.add_lt_add_right
  have nS := fun z => show neD (F z) (F z) = some (.bool false) by rw [neF]; simp
  have nB := fun b => show neD (.bool b) (.bool b) = some (.bool false) by rw [eqB]; simp
  have tr : (x < y) → (y < z) → (x < z) := fun h1 h2 => by grind
  have nz : 0 < z.num ↔ 0 < z := by
    have h1 : 0 < z.num ↔ (0 ≤ z.num ∧ z.num ≠ 0) := by omega
    rw [h1, Rat.num_nonneg, ne_eq, Rat.num_eq_zero]
    grind
  have nz2 : z.num < 0 ↔ z < 0 := by
    have h1 : z.num < 0 ↔ ¬ 0 ≤ z.num := by omega
    rw [h1, Rat.num_nonneg]
    grind
  have fin : ∀ (b1 b2 b3 : Bool), (b1 = true → b2 = true → b3 = true) → (b1 = true → b2 = true → b3 = true) := fun _ _ _ h => h
  by_cases hz0 : 0 < z
  · have c1 : (x * z < y * z) ↔ (x < y) := by
      rw [Rat.mul_comm x z, Rat.mul_comm y z]
      exact Rat.mul_lt_mul_left hz0
    have hn : 0 < z.num := nz.mpr hz0
    have hn2 : ¬ z.num < 0 := by omega
    by_cases h1 : x < y <;> by_cases h2 : y < z <;> by_cases h3 : x < z <;> first | exact absurd (tr h1 h2) h3 | simp [runF, evSs, CS.ev, CE.ev, CE.evT, CEs.ev, CI.ev, CO.evI, CO.evC, CT.ev, CT.slots, tgNames, tgName, tgTup, tgCons, tgNil, evAnd, evOr, evAndT, evOrT, callE, gsSeq, gsNil, gsSet, gsTgt, gsPar, gsExp, gsRet, gsRetN, gsIf, gsPut, gBin, gUn, gVar, gCon, gB, gIf, gTru, gAndT, gOrT, gNotT, gAnd, gOr, gNot, gChain, gNil, gCons, gCall, gTup, gLst, gLstM, gDisp, gSl, gNoPart, gPart, gMeth, giVal, giRng1, giRng2, giZip, giEnu, srcOf, asInt, asBool, startR, COp.ev, BOp.ev, Blt.ev, Mth.ev, Mth.ty, lift2, lift1, liftC1, peek, toD, toDs, ixV, dctAt, ixL, ixT, L2.atI, L2.ixN, give, Out.bind, bindS, OutS.then, finR, finV, addD, subD, cmpI, isaD, negD, absD, intD, lenV, lenD, tupleD, listD, PyData.isInt, PyData.isBool, PyData.isTuple, PyData.isList, PyData.isStr, itemsOf, truV, truD, PyData.truthy, sizeLine_eq, slD, putV, keyD, isNoneV, f16, p1, p2, p3, p4, p5, p6, t1, t2, t3, t4, t5, t6, t7, m1, m2, l1, l2, l3, l4, l5, l6, e1, e2, e3, e4, e5, nS, nB, ixF0, hn, hn2, c1, h1, h2, h3]
  · by_cases hz1 : z < 0
    · have c1 : (y * z < x * z) ↔ (x < y) := by
        have := Rat.mul_lt_mul_left (a := x) (b := y) (c := -z) (by grind)
        rw [← this]
        constructor <;> intro h <;> grind
      have hn : z.num < 0 := nz2.mpr hz1
      have hn2 : ¬ 0 < z.num := by omega
      by_cases h1 : x < y <;> by_cases h2 : y < z <;> by_cases h3 : x < z <;> first | exact absurd (tr h1 h2) h3 | simp [runF, evSs, CS.ev, CE.ev, CE.evT, CEs.ev, CI.ev, CO.evI, CO.evC, CT.ev, CT.slots, tgNames, tgName, tgTup, tgCons, tgNil, evAnd, evOr, evAndT, evOrT, callE, gsSeq, gsNil, gsSet, gsTgt, gsPar, gsExp, gsRet, gsRetN, gsIf, gsPut, gBin, gUn, gVar, gCon, gB, gIf, gTru, gAndT, gOrT, gNotT, gAnd, gOr, gNot, gChain, gNil, gCons, gCall, gTup, gLst, gLstM, gDisp, gSl, gNoPart, gPart, gMeth, giVal, giRng1, giRng2, giZip, giEnu, srcOf, asInt, asBool, startR, COp.ev, BOp.ev, Blt.ev, Mth.ev, Mth.ty, lift2, lift1, liftC1, peek, toD, toDs, ixV, dctAt, ixL, ixT, L2.atI, L2.ixN, give, Out.bind, bindS, OutS.then, finR, finV, addD, subD, cmpI, isaD, negD, absD, intD, lenV, lenD, tupleD, listD, PyData.isInt, PyData.isBool, PyData.isTuple, PyData.isList, PyData.isStr, itemsOf, truV, truD, PyData.truthy, sizeLine_eq, slD, putV, keyD, isNoneV, f16, p1, p2, p3, p4, p5, p6, t1, t2, t3, t4, t5, t6, t7, m1, m2, l1, l2, l3, l4, l5, l6, e1, e2, e3, e4, e5, nS, nB, ixF0, hn, hn2, c1, h1, h2, h3]
    · have hn : ¬ 0 < z.num := fun h => hz0 (nz.mp h)
      have hn2 : ¬ z.num < 0 := fun h => hz1 (nz2.mp h)
      by_cases h1 : x < y <;> by_cases h2 : y < z <;> by_cases h3 : x < z <;> first | exact absurd (tr h1 h2) h3 | simp [runF, evSs, CS.ev, CE.ev, CE.evT, CEs.ev, CI.ev, CO.evI, CO.evC, CT.ev, CT.slots, tgNames, tgName, tgTup, tgCons, tgNil, evAnd, evOr, evAndT, evOrT, callE, gsSeq, gsNil, gsSet, gsTgt, gsPar, gsExp, gsRet, gsRetN, gsIf, gsPut, gBin, gUn, gVar, gCon, gB, gIf, gTru, gAndT, gOrT, gNotT, gAnd, gOr, gNot, gChain, gNil, gCons, gCall, gTup, gLst, gLstM, gDisp, gSl, gNoPart, gPart, gMeth, giVal, giRng1, giRng2, giZip, giEnu, srcOf, asInt, asBool, startR, COp.ev, BOp.ev, Blt.ev, Mth.ev, Mth.ty, lift2, lift1, liftC1, peek, toD, toDs, ixV, dctAt, ixL, ixT, L2.atI, L2.ixN, give, Out.bind, bindS, OutS.then, finR, finV, addD, subD, cmpI, isaD, negD, absD, intD, lenV, lenD, tupleD, listD, PyData.isInt, PyData.isBool, PyData.isTuple, PyData.isList, PyData.isStr, itemsOf, truV, truD, PyData.truthy, sizeLine_eq, slD, putV, keyD, isNoneV, f16, p1, p2, p3, p4, p5, p6, t1, t2, t3, t4, t5, t6, t7, m1, m2, l1, l2, l3, l4, l5, l6, e1, e2, e3, e4, e5, nS, nB, ixF0, hn, hn2, h1, h2, h3]
end Law

namespace Law
open PySem PySem.Spec Ev
/-! ### the reader -/
def rdK (a b c d : PyData) : List (L2.Key × PyData) := [(.inr "cells", a), (.inr "spot", b), (.inr "rest", c), (.inr "calls", d)]
def rdC (cs : List Int) (sp re ca : Int) : Cell := .dct (rdK (.list (cs.map .int)) (.int sp) (.int re) (.int ca))
theorem gp1 (a b c d : PyData) : getP (rdK a b c d) (.inr "cells") = some a := rfl
theorem gp2 (a b c d : PyData) : getP (rdK a b c d) (.inr "spot") = some b := rfl
theorem gp3 (a b c d : PyData) : getP (rdK a b c d) (.inr "rest") = some c := rfl
theorem gp4 (a b c d : PyData) : getP (rdK a b c d) (.inr "calls") = some d := rfl
theorem pp2 (a b c d e : PyData) : putP (rdK a b c d) (.inr "spot") e = rdK a e c d := rfl
theorem pp3 (a b c d e : PyData) : putP (rdK a b c d) (.inr "rest") e = rdK a b e d := rfl
theorem pp4 (a b c d e : PyData) : putP (rdK a b c d) (.inr "calls") e = rdK a b c e := rfl
theorem rdK_len (a b c d : PyData) : (rdK a b c d).length = 4 := rfl
theorem mg (a b c d : PyData) : mergeP [] ([(Sum.inr "cells", a), (.inr "spot", b), (.inr "rest", c), (.inr "calls", d)]) = rdK a b c d := rfl
theorem cut63 (ns : List Int) : cutD (List.map PyData.int ns) none (some 63) = (ns.take 63).map PyData.int := by
  simp only [cutD, HT.sIx, List.length_map]
  rw [if_neg (by decide)]
  simp [List.map_take, List.take_eq_take_iff]
theorem s_reader (n : Nat) (M : Sto) (ns : List Int) : Ev.run tb (n + 1) 12 [scriptD ns] M = .ok (.ref M.length) (M ++ [rdC (ns.take 63) 0 0 0]) := by
  rw [runS n 12 f12.F rfl]
  simp [runF, evSs, CS.ev, CE.ev, CE.evT, CEs.ev, CI.ev, CO.evI, CO.evC, CT.ev, CT.slots, tgNames, tgName, tgTup, tgCons, tgNil, evAnd, evOr, evAndT, evOrT, callE, gsSeq, gsNil, gsSet, gsTgt, gsPar, gsExp, gsRet, gsRetN, gsIf, gsPut, gBin, gUn, gVar, gCon, gB, gIf, gTru, gAndT, gOrT, gNotT, gAnd, gOr, gNot, gChain, gNil, gCons, gCall, gTup, gLst, gLstM, gDisp, gSl, gNoPart, gPart, gMeth, giVal, giRng1, giRng2, giZip, giEnu, srcOf, asInt, asBool, startR, COp.ev, BOp.ev, Blt.ev, Mth.ev, Mth.ty, lift2, lift1, liftC1, peek, toD, toDs, ixV, dctAt, ixL, ixT, L2.atI, L2.ixN, give, Out.bind, bindS, OutS.then, finR, finV, addD, subD, cmpI, isaD, negD, absD, intD, lenV, lenD, tupleD, listD, PyData.isInt, PyData.isBool, PyData.isTuple, PyData.isList, PyData.isStr, itemsOf, truV, truD, PyData.truthy, sizeLine_eq, slD, putV, keyD, isNoneV, f12, scriptD]
  rw [cut63]
  rfl
theorem get_set (M : Sto) (r : Nat) (c : Cell) (h : r < M.length) : (M.set r c)[r]? = some c := by simp [h]
theorem pow5 (i : Int) (h : i.natAbs < 2 ^ 64) : powD (.int i) (.int 5) = some (.int (i ^ 5)) := pow_ok (by decide) (by decide) h
theorem pow18 : powD (.int 10) (.int 18) = some (.int (10 ^ 18)) := pow_ok (by decide) (by decide) (by decide)
theorem fm (i : Int) {m : Int} (h : 0 < m) : 0 ≤ i.fmod m ∧ i.fmod m < m := ⟨Int.fmod_nonneg_of_pos i h, Int.fmod_lt_of_pos i h⟩
/-- what a draw leaves -/
def Drawn (r : Nat) (M : Sto) (cs : List Int) (ca : Int) (m : Int) (o : Out Vl) : Prop := ∃ v sp re, o = .ok (I v) (M.set r (rdC cs sp re (ca + 1))) ∧ 0 ≤ sp ∧ 0 ≤ v ∧ v < m
theorem s_draw (n : Nat) (M : Sto) (r : Nat) (cs : List Int) (sp re ca m : Int) (hM : M[r]? = some (rdC cs sp re ca)) (hsp : 0 ≤ sp) (hc0 : 0 ≤ ca) (hc1 : ca < 100000) (hm : 0 < m) (hm2 : m.natAbs < 2 ^ 60) (hl : cs.length ≤ 63) : Drawn r M cs ca m (Ev.run tb (n + 1) 13 [.ref r, I m] M) := by
  have hr : r < M.length := (List.getElem?_eq_some_iff.mp hM).1
  have hm0 : m ≠ 0 := by omega
  rw [runS n 13 f13.F rfl]
  unfold rdC at hM
  have hst : ∀ c, (M.set r c).length = M.length := fun c => List.length_set
  have tk : ∀ c, (M.set r c).take M.length = M.set r c := fun c => by rw [← hst c, List.take_length]
  have gs : ∀ c, (M.set r c)[r]? = some c := fun c => get_set M r c hr
  clear hr
  by_cases h1 : 0 < re
  · have a1 := mod_ok (i := re) hm0
    have a2 := div_ok (i := re) hm2 hm0 (by decide)
    refine ⟨re.fmod m, sp, re.fdiv m, ?_, hsp, fm re hm⟩
    simp [runF, evSs, CS.ev, CE.ev, CE.evT, CEs.ev, CI.ev, CO.evI, CO.evC, CT.ev, CT.slots, tgNames, tgName, tgTup, tgCons, tgNil, evAnd, evOr, evAndT, evOrT, callE, gsSeq, gsNil, gsSet, gsTgt, gsPar, gsExp, gsRet, gsRetN, gsIf, gsPut, gBin, gUn, gVar, gCon, gB, gIf, gTru, gAndT, gOrT, gNotT, gAnd, gOr, gNot, gChain, gNil, gCons, gCall, gTup, gLst, gLstM, gDisp, gSl, gNoPart, gPart, gMeth, giVal, giRng1, giRng2, giZip, giEnu, srcOf, asInt, asBool, startR, COp.ev, BOp.ev, Blt.ev, Mth.ev, Mth.ty, lift2, lift1, liftC1, peek, toD, toDs, ixV, dctAt, ixL, ixT, give, Out.bind, bindS, OutS.then, finR, finV, addD, subD, cmpI, isaD, negD, absD, intD, lenV, lenD, tupleD, listD, PyData.isInt, PyData.isBool, PyData.isTuple, PyData.isList, PyData.isStr, itemsOf, truV, truD, PyData.truthy, sizeLine_eq, slD, putV, keyD, isNoneV, f13, hM, gp1, gp2, gp3, gp4, pp2, pp3, pp4, gs, tk, rdK_len, h1, a1, a2, rdC]
  · -- the cell
    obtain ⟨cell, hcell⟩ : ∃ cell : Int, (cs = [] ∧ cell = 31) ∨ (0 < cs.length ∧ modD (.int sp) (.int cs.length) = some (.int (sp.fmod cs.length)) ∧ L2.atI (cs.map PyData.int) (sp.fmod cs.length) = some (.int cell)) := by
      cases cs with
      | nil => exact ⟨31, .inl ⟨rfl, rfl⟩⟩
      | cons c cs =>
        have hp : (0 : Int) < (c :: cs).length := by rw [List.length_cons]; omega
        obtain ⟨f0, f1⟩ := fm sp hp
        refine ⟨(c :: cs).getD (sp.fmod (c :: cs).length).toNat 0, .inr ⟨by rw [List.length_cons]; omega, mod_ok (by omega), ?_⟩⟩
        generalize sp.fmod (c :: cs).length = j at f0 f1
        generalize (c :: cs) = l at *
        unfold L2.atI L2.ixN
        have hj : j.toNat < l.length := by omega
        rw [if_pos f0, if_pos (by rw [List.length_map]; exact f1)]
        simp [List.getElem?_map, List.getElem?_eq_getElem hj]
    have q0 := mod_ok (i := cell) hm0
    have q00 := div_ok (i := cell) hm2 hm0 (by decide)
    have q1 := mod_ok (i := cell) (j := 2147483629) (by decide)
    have q2 := mul_ok (i := 6163) (j := ca + 1) (k := 13) (m := 17) (by decide) (by omega) (by decide)
    obtain ⟨b1, b2⟩ := fm cell (m := 2147483629) (by decide)
    generalize cell.fmod 2147483629 = c1 at q1 b1 b2
    have q3 := pow5 (c1 + 6163 * (ca + 1) + 37) (by omega)
    have q4 := mod_ok (i := (c1 + 6163 * (ca + 1) + 37) ^ 5) (j := 2147483647) (by decide)
    obtain ⟨b3, b4⟩ := fm ((c1 + 6163 * (ca + 1) + 37) ^ 5) (m := 2147483647) (by decide)
    generalize Int.fmod ((c1 + 6163 * (ca + 1) + 37) ^ 5) 2147483647 = once at q4 b3 b4
    have q5 := mul_ok (i := 4211) (j := ca + 1) (k := 13) (m := 17) (by decide) (by omega) (by decide)
    have q6 := mul_ok (i := 4211 * (ca + 1)) (j := ca + 1) (k := 30) (m := 17) (by omega) (by omega) (by decide)
    have b5 : (4211 * (ca + 1) * (ca + 1)).natAbs < 2 ^ 47 := mul_bd (k := 30) (m := 17) (by omega) (by omega)
    have q7 := pow5 (once + 4211 * (ca + 1) * (ca + 1)) (by omega)
    have q8 := mod_ok (i := (once + 4211 * (ca + 1) * (ca + 1)) ^ 5) (j := 2147483587) (by decide)
    have q9 := div_ok (i := Int.fmod ((once + 4211 * (ca + 1) * (ca + 1)) ^ 5) 2147483587) (j := 32) (m := 6) (by decide) (by decide) (by decide)
    have q10 := mod_ok (i := (Int.fmod ((once + 4211 * (ca + 1) * (ca + 1)) ^ 5) 2147483587).fdiv 32) hm0
    rcases hcell with ⟨rfl, rfl⟩ | ⟨hp, g1, g2⟩
    · refine ⟨((Int.fmod ((once + 4211 * (ca + 1) * (ca + 1)) ^ 5) 2147483587).fdiv 32).fmod m, sp + 1, re, ?_, by omega, fm _ hm⟩
      have hs : ¬ sp < 0 := by omega
      simp [runF, evSs, CS.ev, CE.ev, CE.evT, CEs.ev, CI.ev, CO.evI, CO.evC, CT.ev, CT.slots, tgNames, tgName, tgTup, tgCons, tgNil, evAnd, evOr, evAndT, evOrT, callE, gsSeq, gsNil, gsSet, gsTgt, gsPar, gsExp, gsRet, gsRetN, gsIf, gsPut, gBin, gUn, gVar, gCon, gB, gIf, gTru, gAndT, gOrT, gNotT, gAnd, gOr, gNot, gChain, gNil, gCons, gCall, gTup, gLst, gLstM, gDisp, gSl, gNoPart, gPart, gMeth, giVal, giRng1, giRng2, giZip, giEnu, srcOf, asInt, asBool, startR, COp.ev, BOp.ev, Blt.ev, Mth.ev, Mth.ty, lift2, lift1, liftC1, peek, toD, toDs, ixV, dctAt, ixL, ixT, give, Out.bind, bindS, OutS.then, finR, finV, addD, subD, cmpI, isaD, negD, absD, intD, lenV, lenD, tupleD, listD, PyData.isInt, PyData.isBool, PyData.isTuple, PyData.isList, PyData.isStr, itemsOf, truV, truD, PyData.truthy, sizeLine_eq, slD, putV, keyD, isNoneV, f13, hM, gp1, gp2, gp3, gp4, pp2, pp3, pp4, gs, tk, rdK_len, h1, rdC, hs, q1, q2, q3, q4, q5, q6, q7, q8, q9, q10]
    · by_cases h2 : sp < cs.length ∧ 1000000000000000000 ≤ cell
      · refine ⟨cell.fmod m, sp + 1, cell.fdiv m, ?_, by omega, fm _ hm⟩
        obtain ⟨h2, h3⟩ := h2
        simp [runF, evSs, CS.ev, CE.ev, CE.evT, CEs.ev, CI.ev, CO.evI, CO.evC, CT.ev, CT.slots, tgNames, tgName, tgTup, tgCons, tgNil, evAnd, evOr, evAndT, evOrT, callE, gsSeq, gsNil, gsSet, gsTgt, gsPar, gsExp, gsRet, gsRetN, gsIf, gsPut, gBin, gUn, gVar, gCon, gB, gIf, gTru, gAndT, gOrT, gNotT, gAnd, gOr, gNot, gChain, gNil, gCons, gCall, gTup, gLst, gLstM, gDisp, gSl, gNoPart, gPart, gMeth, giVal, giRng1, giRng2, giZip, giEnu, srcOf, asInt, asBool, startR, COp.ev, BOp.ev, Blt.ev, Mth.ev, Mth.ty, lift2, lift1, liftC1, peek, toD, toDs, ixV, dctAt, ixL, ixT, give, Out.bind, bindS, OutS.then, finR, finV, addD, subD, cmpI, isaD, negD, absD, intD, lenV, lenD, tupleD, listD, PyData.isInt, PyData.isBool, PyData.isTuple, PyData.isList, PyData.isStr, itemsOf, truV, truD, PyData.truthy, sizeLine_eq, slD, putV, keyD, isNoneV, f13, hM, gp1, gp2, gp3, gp4, pp2, pp3, pp4, gs, tk, rdK_len, h1, rdC, hp, g1, g2, h2, pow18, h3, q0, q00]
      · refine ⟨((Int.fmod ((once + 4211 * (ca + 1) * (ca + 1)) ^ 5) 2147483587).fdiv 32).fmod m, sp + 1, re, ?_, by omega, fm _ hm⟩
        by_cases h4 : sp < cs.length
        · have h3 : ¬ 1000000000000000000 ≤ cell := fun h => h2 ⟨h4, h⟩
          simp [runF, evSs, CS.ev, CE.ev, CE.evT, CEs.ev, CI.ev, CO.evI, CO.evC, CT.ev, CT.slots, tgNames, tgName, tgTup, tgCons, tgNil, evAnd, evOr, evAndT, evOrT, callE, gsSeq, gsNil, gsSet, gsTgt, gsPar, gsExp, gsRet, gsRetN, gsIf, gsPut, gBin, gUn, gVar, gCon, gB, gIf, gTru, gAndT, gOrT, gNotT, gAnd, gOr, gNot, gChain, gNil, gCons, gCall, gTup, gLst, gLstM, gDisp, gSl, gNoPart, gPart, gMeth, giVal, giRng1, giRng2, giZip, giEnu, srcOf, asInt, asBool, startR, COp.ev, BOp.ev, Blt.ev, Mth.ev, Mth.ty, lift2, lift1, liftC1, peek, toD, toDs, ixV, dctAt, ixL, ixT, give, Out.bind, bindS, OutS.then, finR, finV, addD, subD, cmpI, isaD, negD, absD, intD, lenV, lenD, tupleD, listD, PyData.isInt, PyData.isBool, PyData.isTuple, PyData.isList, PyData.isStr, itemsOf, truV, truD, PyData.truthy, sizeLine_eq, slD, putV, keyD, isNoneV, f13, hM, gp1, gp2, gp3, gp4, pp2, pp3, pp4, gs, tk, rdK_len, h1, rdC, hp, g1, g2, h4, pow18, h3, q1, q2, q3, q4, q5, q6, q7, q8, q9, q10]
        · simp [runF, evSs, CS.ev, CE.ev, CE.evT, CEs.ev, CI.ev, CO.evI, CO.evC, CT.ev, CT.slots, tgNames, tgName, tgTup, tgCons, tgNil, evAnd, evOr, evAndT, evOrT, callE, gsSeq, gsNil, gsSet, gsTgt, gsPar, gsExp, gsRet, gsRetN, gsIf, gsPut, gBin, gUn, gVar, gCon, gB, gIf, gTru, gAndT, gOrT, gNotT, gAnd, gOr, gNot, gChain, gNil, gCons, gCall, gTup, gLst, gLstM, gDisp, gSl, gNoPart, gPart, gMeth, giVal, giRng1, giRng2, giZip, giEnu, srcOf, asInt, asBool, startR, COp.ev, BOp.ev, Blt.ev, Mth.ev, Mth.ty, lift2, lift1, liftC1, peek, toD, toDs, ixV, dctAt, ixL, ixT, give, Out.bind, bindS, OutS.then, finR, finV, addD, subD, cmpI, isaD, negD, absD, intD, lenV, lenD, tupleD, listD, PyData.isInt, PyData.isBool, PyData.isTuple, PyData.isList, PyData.isStr, itemsOf, truV, truD, PyData.truthy, sizeLine_eq, slD, putV, keyD, isNoneV, f13, hM, gp1, gp2, gp3, gp4, pp2, pp3, pp4, gs, tk, rdK_len, h1, rdC, hp, g1, g2, h4, q1, q2, q3, q4, q5, q6, q7, q8, q9, q10]
end Law

namespace Law
open PySem PySem.Spec Ev
/-- the reader at 0, c draws at most -/
def Rd (c : Int) (M : Sto) : Prop := ∃ cs sp re ca, M[0]? = some (rdC cs sp re ca) ∧ cs.length ≤ 63 ∧ 0 ≤ sp ∧ 0 ≤ ca ∧ ca ≤ c
def Up (M M' : Sto) : Prop := ∃ x, M' = M.set 0 x
theorem Up.len {M M' : Sto} (h : Up M M') : M'.length = M.length := by obtain ⟨x, rfl⟩ := h; exact List.length_set
theorem Up.trans {M M' M2 : Sto} (h : Up M M') (h' : Up M' M2) : Up M M2 := by
  obtain ⟨x, rfl⟩ := h
  obtain ⟨y, rfl⟩ := h'
  exact ⟨y, by rw [List.set_set]⟩
theorem Rd.pos {c : Int} {M : Sto} (h : Rd c M) : 0 < M.length := by
  obtain ⟨_, _, _, _, h, _⟩ := h
  exact (List.getElem?_eq_some_iff.mp h).1
theorem Rd.app {c : Int} {M : Sto} (h : Rd c M) (N : Sto) : Rd c (M ++ N) := by
  have hp := h.pos
  obtain ⟨cs, sp, re, ca, h, r⟩ := h
  exact ⟨cs, sp, re, ca, by rw [List.getElem?_append_left hp]; exact h, r⟩
theorem Rd.mono {c d : Int} {M : Sto} (h : Rd c M) (hd : c ≤ d) : Rd d M := by
  obtain ⟨cs, sp, re, ca, h, r1, r2, r3, r4⟩ := h
  exact ⟨cs, sp, re, ca, h, r1, r2, r3, by omega⟩
theorem Up.refl {c : Int} {M : Sto} (h : Rd c M) : Up M M := by
  have hp := h.pos
  exact ⟨M[0], by rw [List.set_getElem_self]⟩
theorem Up.app {S N M' : Sto} (hp : 0 < S.length) (h : Up (S ++ N) M') : ∃ S', M' = S' ++ N ∧ Up S S' := by
  obtain ⟨x, rfl⟩ := h
  exact ⟨S.set 0 x, by rw [List.set_append_left _ _ hp], x, rfl⟩
theorem Rd.left {c : Int} {S N : Sto} (hp : 0 < S.length) (h : Rd c (S ++ N)) : Rd c S := by
  obtain ⟨cs, sp, re, ca, h, r⟩ := h
  exact ⟨cs, sp, re, ca, by rw [List.getElem?_append_left hp] at h; exact h, r⟩
theorem d_draw (n : Nat) (M : Sto) {c : Int} (m : Int) (h : Rd c M) (hc : c < 100000) (hm : 0 < m) (hm2 : m.natAbs < 2 ^ 60) : ∃ v M', Ev.run tb (n + 1) 13 [.ref 0, I m] M = .ok (I v) M' ∧ Rd (c + 1) M' ∧ Up M M' ∧ 0 ≤ v ∧ v < m := by
  have hp := h.pos
  obtain ⟨cs, sp, re, ca, h1, h2, h3, h4, h5⟩ := h
  obtain ⟨v, sp', re', e, g1, g2, g3⟩ := s_draw n M 0 cs sp re ca m h1 h3 h4 (by omega) hm hm2 h2
  exact ⟨v, _, e, ⟨cs, sp', re', ca + 1, by simp [hp], h2, g1, by omega, by omega⟩, ⟨_, rfl⟩, g2, g3⟩
theorem d_part (n : Nat) (M : Sto) {c : Int} (h : Rd c M) (hc : c < 1000) : ∃ x M', Ev.run tb (n + 4) 14 [.ref 0] M = .ok (.d (F x)) M' ∧ Rd (c + 3) M' ∧ Up M M' ∧ Bx 60 x := by
  obtain ⟨v, M1, e1, r1, u1, v1, v2⟩ := d_draw (n + 2) M 41 h (by omega) (by decide) (by decide)
  obtain ⟨w, M2, e2, r2, u2, w1, w2⟩ := d_draw (n + 2) M1 30 r1 (by omega) (by decide) (by decide)
  obtain ⟨z, M3, e3, r3, u3, z1, z2⟩ := d_draw (n + 2) M2 3 r2 (by omega) (by decide) (by decide)
  have hl : ∃ q : Int, L2.atI [PyData.int (1 + w), .int (-7), .int 1000000000000037] z = some (.int q) ∧ q ≠ 0 ∧ q.natAbs < 2 ^ 60 := by
    have : z = 0 ∨ z = 1 ∨ z = 2 := by omega
    rcases this with rfl | rfl | rfl
    · exact ⟨1 + w, rfl, by omega, by omega⟩
    · exact ⟨-7, rfl, by decide, by decide⟩
    · exact ⟨1000000000000037, rfl, by decide, by decide⟩
  obtain ⟨q, q1, q2, q3⟩ := hl
  have pw : powD (.int 10) (.int 15) = some (.int (10 ^ 15)) := pow_ok (by decide) (by decide) (by decide)
  have hm := fun M => s_made n M (p := v - 20) (q := q) q2 (up_bd q3 (by decide))
  have hlen : M3.length = M.length := ((u1.trans u2).trans u3).len
  refine ⟨Rat.divInt (v - 20) q, M3, ?_, r3.mono (by omega), (u1.trans u2).trans u3, bx_div (by omega) q3 q2⟩
  rw [runS (n + 3) 14 f14.F rfl]
  simp [runF, evSs, CS.ev, CE.ev, CE.evT, CEs.ev, CI.ev, CO.evI, CO.evC, CT.ev, CT.slots, tgNames, tgName, tgTup, tgCons, tgNil, evAnd, evOr, evAndT, evOrT, callE, gsSeq, gsNil, gsSet, gsTgt, gsPar, gsExp, gsRet, gsRetN, gsIf, gsPut, gBin, gUn, gVar, gCon, gB, gIf, gTru, gAndT, gOrT, gNotT, gAnd, gOr, gNot, gChain, gNil, gCons, gCall, gTup, gLst, gLstM, gDisp, gSl, gNoPart, gPart, gMeth, giVal, giRng1, giRng2, giZip, giEnu, srcOf, asInt, asBool, startR, COp.ev, BOp.ev, Blt.ev, Mth.ev, Mth.ty, lift2, lift1, liftC1, peek, toD, toDs, ixV, dctAt, ixL, ixT, give, Out.bind, bindS, OutS.then, finR, finV, addD, subD, cmpI, isaD, negD, absD, intD, lenV, lenD, tupleD, listD, PyData.isInt, PyData.isBool, PyData.isTuple, PyData.isList, PyData.isStr, itemsOf, truV, truD, PyData.truthy, sizeLine_eq, slD, putV, keyD, isNoneV, f14, e1, e2, e3, pw, q1, hm]
  rw [← hlen, List.take_length]
/-! ### sums of products -/
def T (l : List Int) : PyData := .tuple (l.map .int)
def dot (a b : List Int) : Int := ((a.zip b).map fun p => p.1 * p.2).sum
theorem nums_ints : ∀ l : List Int, numsD (l.map PyData.int) = some l
  | [] => rfl
  | i :: l => by
    show (match numD (.int i), numsD (l.map PyData.int) with | some i, some is => some (i :: is) | _, _ => none) = _
    rw [nums_ints l]
    rfl
theorem sum_ints (l : List Int) : sumD (.list (l.map .int)) = some (.int l.sum) := by
  simp only [sumD, itemsOf, nums_ints]
theorem sum_T (l : List Int) : sumD (T l) = some (.int l.sum) := by
  simp only [sumD, T, itemsOf, nums_ints]
theorem walks_zip (a b : List Int) (h : a.length = b.length) (M : Sto) : Walks (.zipT (.d (T a)) (.d (T b))) M ((a.zip b).map fun p => Vl.d (.tuple [.int p.1, .int p.2])) := by
  refine ⟨fun i M' => ?_, by simp [ISrc.size, tpD, peek, T, h]⟩
  simp only [ISrc.step, tpD, peek, T, pairAt, List.getElem?_map, List.getElem?_zip_eq_some]
  cases ea : a[i]? with
  | none =>
    have : (a.zip b)[i]? = none := by
      rw [List.getElem?_eq_none_iff] at ea ⊢
      rw [List.length_zip]
      omega
    rw [this]
    rfl
  | some x =>
    have hi := (List.getElem?_eq_some_iff.mp ea).1
    have eb : b[i]? = some b[i] := List.getElem?_eq_getElem (by omega)
    have : (a.zip b)[i]? = some (x, b[i]) := by
      rw [List.getElem?_zip_eq_some]
      exact ⟨ea, eb⟩
    rw [this, eb]
    rfl
def Bl (l : List Int) : Prop := l.length ≤ 100 ∧ ∀ v ∈ l, v.natAbs < 2 ^ 30
theorem s_total (n : Nat) (M : Sto) {a b : List Int} (ha : Bl a) (hb : Bl b) (h : a.length = b.length) : Ev.run tb (n + 2) 11 [.d (T a), .d (T b)] M = .ok (I (dot a b)) M := by
  rw [runS (n + 1) 11 f11.F rfl]
  have e1 : eqD (.int (a.length : Nat)) (.int (b.length : Nat)) = some (.bool true) := by rw [eqI, h]; simp
  simp [runF, evSs, CS.ev, CE.ev, CE.evT, CEs.ev, CI.ev, CO.evI, CO.evC, CT.ev, CT.slots, tgNames, tgName, tgTup, tgCons, tgNil, evAnd, evOr, evAndT, evOrT, callE, gsSeq, gsNil, gsSet, gsTgt, gsPar, gsExp, gsRet, gsRetN, gsIf, gsPut, gBin, gUn, gVar, gCon, gB, gIf, gTru, gAndT, gOrT, gNotT, gAnd, gOr, gNot, gChain, gNil, gCons, gCall, gTup, gLst, gLstM, gDisp, gSl, gNoPart, gPart, gMeth, giVal, giRng1, giRng2, giZip, giEnu, srcOf, asInt, asBool, startR, COp.ev, BOp.ev, Blt.ev, Mth.ev, Mth.ty, lift2, lift1, liftC1, peek, toD, toDs, ixV, dctAt, ixL, ixT, give, Out.bind, bindS, OutS.then, finR, finV, addD, subD, cmpI, isaD, negD, absD, intD, lenV, lenD, tupleD, listD, PyData.isInt, PyData.isBool, PyData.isTuple, PyData.isList, PyData.isStr, itemsOf, truV, truD, PyData.truthy, sizeLine_eq, slD, putV, keyD, isNoneV, f11, T, e1, s_req]
  generalize hW : gLc _ _ _ _ _ _ _ _ = o
  obtain rfl := lcp_of hW (src := .zipT (.d (T a)) (.d (T b))) (by simp [runF, evSs, CS.ev, CE.ev, CE.evT, CEs.ev, CI.ev, CO.evI, CO.evC, CT.ev, CT.slots, tgNames, tgName, tgTup, tgCons, tgNil, evAnd, evOr, evAndT, evOrT, callE, gsSeq, gsNil, gsSet, gsTgt, gsPar, gsExp, gsRet, gsRetN, gsIf, gsPut, gBin, gUn, gVar, gCon, gB, gIf, gTru, gAndT, gOrT, gNotT, gAnd, gOr, gNot, gChain, gNil, gCons, gCall, gTup, gLst, gLstM, gDisp, gSl, gNoPart, gPart, gMeth, giVal, giRng1, giRng2, giZip, giEnu, srcOf, asInt, asBool, startR, COp.ev, BOp.ev, Blt.ev, Mth.ev, Mth.ty, lift2, lift1, liftC1, peek, toD, toDs, ixV, dctAt, ixL, ixT, give, Out.bind, bindS, OutS.then, finR, finV, addD, subD, cmpI, isaD, negD, absD, intD, lenV, lenD, tupleD, listD, PyData.isInt, PyData.isBool, PyData.isTuple, PyData.isList, PyData.isStr, itemsOf, truV, truD, PyData.truthy, sizeLine_eq, slD, putV, keyD, isNoneV, T]) (walks_zip a b h M) (by have := ha.1; simp [sizeLine_eq]; omega) (fun _ => true) (fun x => match x with
    | .d (.tuple [.int i, .int j]) => .int (i * j)
    | _ => .none) (fun y hy M' => by
    obtain ⟨p, hp, rfl⟩ := List.mem_map.mp hy
    have q := mul_ok (i := p.1) (j := p.2) (ha.2 _ (List.of_mem_zip hp).1) (hb.2 _ (List.of_mem_zip hp).2) (by decide)
    refine ⟨_, by simp [runF, evSs, CS.ev, CE.ev, CE.evT, CEs.ev, CI.ev, CO.evI, CO.evC, CT.ev, CT.slots, tgNames, tgName, tgTup, tgCons, tgNil, evAnd, evOr, evAndT, evOrT, callE, gsSeq, gsNil, gsSet, gsTgt, gsPar, gsExp, gsRet, gsRetN, gsIf, gsPut, gBin, gUn, gVar, gCon, gB, gIf, gTru, gAndT, gOrT, gNotT, gAnd, gOr, gNot, gChain, gNil, gCons, gCall, gTup, gLst, gLstM, gDisp, gSl, gNoPart, gPart, gMeth, giVal, giRng1, giRng2, giZip, giEnu, srcOf, asInt, asBool, startR, COp.ev, BOp.ev, Blt.ev, Mth.ev, Mth.ty, lift2, lift1, liftC1, peek, toD, toDs, ixV, dctAt, ixL, ixT, give, Out.bind, bindS, OutS.then, finR, finV, addD, subD, cmpI, isaD, negD, absD, intD, lenV, lenD, tupleD, listD, PyData.isInt, PyData.isBool, PyData.isTuple, PyData.isList, PyData.isStr, itemsOf, truV, truD, PyData.truthy, sizeLine_eq, slD, putV, keyD, isNoneV, wipeR]; rfl, rfl, fun _ => ?_⟩
    simp [runF, evSs, CS.ev, CE.ev, CE.evT, CEs.ev, CI.ev, CO.evI, CO.evC, CT.ev, CT.slots, tgNames, tgName, tgTup, tgCons, tgNil, evAnd, evOr, evAndT, evOrT, callE, gsSeq, gsNil, gsSet, gsTgt, gsPar, gsExp, gsRet, gsRetN, gsIf, gsPut, gBin, gUn, gVar, gCon, gB, gIf, gTru, gAndT, gOrT, gNotT, gAnd, gOr, gNot, gChain, gNil, gCons, gCall, gTup, gLst, gLstM, gDisp, gSl, gNoPart, gPart, gMeth, giVal, giRng1, giRng2, giZip, giEnu, srcOf, asInt, asBool, startR, COp.ev, BOp.ev, Blt.ev, Mth.ev, Mth.ty, lift2, lift1, liftC1, peek, toD, toDs, ixV, dctAt, ixL, ixT, give, Out.bind, bindS, OutS.then, finR, finV, addD, subD, cmpI, isaD, negD, absD, intD, lenV, lenD, tupleD, listD, PyData.isInt, PyData.isBool, PyData.isTuple, PyData.isList, PyData.isStr, itemsOf, truV, truD, PyData.truthy, sizeLine_eq, slD, putV, keyD, isNoneV, q])
  have hm : (List.map (fun x : Vl => match x with | .d (.tuple [.int i, .int j]) => PyData.int (i * j) | _ => .none) (List.map (fun p : Int × Int => Vl.d (.tuple [.int p.1, .int p.2])) (a.zip b))) = ((a.zip b).map fun p => p.1 * p.2).map .int := by
    rw [List.map_map, List.map_map]
    rfl
  have hf : ∀ l : List Vl, l.filter (fun _ => true) = l := fun l => by simp
  rw [hf, hm]
  have sm : sumD (.list (List.map (PyData.int ∘ fun p : Int × Int => p.1 * p.2) (a.zip b))) = some (.int (dot a b)) := by
    rw [← List.map_map]
    exact sum_ints _
  simp [runF, evSs, CS.ev, CE.ev, CE.evT, CEs.ev, CI.ev, CO.evI, CO.evC, CT.ev, CT.slots, tgNames, tgName, tgTup, tgCons, tgNil, evAnd, evOr, evAndT, evOrT, callE, gsSeq, gsNil, gsSet, gsTgt, gsPar, gsExp, gsRet, gsRetN, gsIf, gsPut, gBin, gUn, gVar, gCon, gB, gIf, gTru, gAndT, gOrT, gNotT, gAnd, gOr, gNot, gChain, gNil, gCons, gCall, gTup, gLst, gLstM, gDisp, gSl, gNoPart, gPart, gMeth, giVal, giRng1, giRng2, giZip, giEnu, srcOf, asInt, asBool, startR, COp.ev, BOp.ev, Blt.ev, Mth.ev, Mth.ty, lift2, lift1, liftC1, peek, toD, toDs, ixV, dctAt, ixL, ixT, give, Out.bind, bindS, OutS.then, finR, finV, addD, subD, cmpI, isaD, negD, absD, intD, lenV, lenD, tupleD, listD, PyData.isInt, PyData.isBool, PyData.isTuple, PyData.isList, PyData.isStr, itemsOf, truV, truD, PyData.truthy, sizeLine_eq, slD, putV, keyD, isNoneV, sm]
/-! ### lists of draws -/
theorem dl {own : List Nat} {gi : Ev0S} {ks : Nat} {e : Ev0 Vl} {ρ : Rho} {M : Sto} {N : Nat} {c : Int} (hgi : gi ρ M = .ok (.rng 0 N) M) (h0 : Rd c M) (hN : N ≤ 100)
    (he : ∀ x S c', Rd c' S → c' ≤ c + 100 → ∃ v S', e ((wipeR ρ own).set ks (some x)) S = .ok (I v) S' ∧ Rd (c' + 1) S' ∧ Up S S' ∧ v.natAbs < 2 ^ 20) :
    ∃ (l : List Int) (S' : Sto), gLc false own gi (tgName ks) gYes e ρ M = .ok (.d (.list (l.map .int))) S' ∧ l.length = N ∧ (∀ v ∈ l, v.natAbs < 2 ^ 20) ∧ Rd (c + N) S' ∧ Up M S' := by
  obtain ⟨S', ys, g1, l, g2, g3, gN, g4, g5, g6⟩ := lc_inv (own := own) (t := tgName ks) (c := gYes) (e := e) hgi (walks_rng 0 N M) (fun i S acc => ∃ l : List Int, acc = l.map .int ∧ l.length = i ∧ (i ≤ N) ∧ (∀ v ∈ l, v.natAbs < 2 ^ 20) ∧ Rd (c + i) S ∧ Up M S)
    ⟨[], rfl, rfl, Nat.zero_le _, by simp, by simpa using h0, Up.refl h0⟩
    (fun i S acc hP => by
      obtain ⟨l, rfl, g2, gN, g4, g5, g6⟩ := hP
      exact ⟨g6.len, by rw [List.length_map, sizeLine_eq]; omega⟩)
    (fun i x S acc hx hP => by
      obtain ⟨l, rfl, g2, gN, g4, g5, g6⟩ := hP
      have hi : i < N := by
        have := (List.getElem?_eq_some_iff.mp hx).1
        simpa using this
      obtain ⟨v, S2, q1, q2, q3, q4⟩ := he x (S ++ [.lst (l.map .int)]) (c + i) (g5.app _) (by omega)
      obtain ⟨S', rfl, q5⟩ := Up.app g5.pos q3
      refine ⟨_, rfl, .inr ⟨rfl, .int v, S', ?_, q1, l ++ [v], by simp, by simp [g2], hi, ?_, ?_, g6.trans q5⟩⟩
      · rw [q5.len, g6.len]
      · intro z hz
        rcases List.mem_append.mp hz with hz | hz
        · exact g4 z hz
        · rw [List.mem_singleton.mp hz]; exact q4
      · have := q2.left (by rw [q5.len]; exact g5.pos)
        rw [show c + ((i + 1 : Nat) : Int) = c + i + 1 by omega]
        exact this)
  have hlen : ((List.range N).map fun k => Vl.d (.int (0 + (k : Nat)))).length = N := by simp
  rw [hlen] at g5 g3
  subst g2
  exact ⟨l, S', g1, g3, g4, g5, g6⟩
theorem addI (i j : Int) : addD (.int i) (.int j) = some (.int (i + j)) := rfl
theorem subI (i j : Int) : subD (.int i) (.int j) = some (.int (i - j)) := rfl
theorem cmpII (p : Int → Int → Bool) (i j : Int) : cmpI p (.int i) (.int j) = some (.bool (p i j)) := rfl
theorem negI (i : Int) : negD (.int i) = some (.int (-i)) := rfl
theorem intI (i : Int) : intD (.int i) = some (.int i) := rfl
theorem intB (b : Bool) : intD (.bool b) = some (.int (if b then 1 else 0)) := rfl
theorem lenLi (xs : List PyData) : lenD (.list xs) = some (.int xs.length) := rfl
theorem lenTu (xs : List PyData) : lenD (.tuple xs) = some (.int xs.length) := rfl
theorem tupL (xs : List PyData) : tupleD (.list xs) = some (.tuple xs) := rfl
theorem tupT (xs : List PyData) : tupleD (.tuple xs) = some (.tuple xs) := rfl
theorem lisL (xs : List PyData) : listD (.list xs) = some (.list xs) := rfl
theorem lisT (xs : List PyData) : listD (.tuple xs) = some (.list xs) := rfl
def Bd (N : Nat) (l : List Int) : Prop := l.length = N ∧ ∀ v ∈ l, v.natAbs < 2 ^ 20
theorem dl2 {own : List Nat} {gi : Ev0S} {ks : Nat} {e : Ev0 Vl} {ρ : Rho} {M : Sto} {N : Nat} {c : Int} (hgi : gi ρ M = .ok (.rng 0 2) M) (h0 : Rd c M) (hN : N ≤ 20)
    (he : ∀ x S c', Rd c' S → c' ≤ c + 100 → ∃ (l : List Int) (S' : Sto), e ((wipeR ρ own).set ks (some x)) S = .ok (.d (T l)) S' ∧ Bd N l ∧ Rd (c' + N) S' ∧ Up S S') :
    ∃ (l l' : List Int) (S' : Sto), gLc false own gi (tgName ks) gYes e ρ M = .ok (.d (.list [T l, T l'])) S' ∧ Bd N l ∧ Bd N l' ∧ Rd (c + 2 * N) S' ∧ Up M S' := by
  obtain ⟨S', ys, g1, ls, g2, g3, gN, g4, g5, g6⟩ := lc_inv (own := own) (t := tgName ks) (c := gYes) (e := e) hgi (walks_rng 0 2 M) (fun i S acc => ∃ ls : List (List Int), acc = ls.map T ∧ ls.length = i ∧ (i ≤ 2) ∧ (∀ l ∈ ls, Bd N l) ∧ Rd (c + i * N) S ∧ Up M S)
    ⟨[], rfl, rfl, Nat.zero_le _, by simp, by simpa using h0, Up.refl h0⟩
    (fun i S acc hP => by
      obtain ⟨l, rfl, g2, gN, g4, g5, g6⟩ := hP
      exact ⟨g6.len, by rw [List.length_map, sizeLine_eq]; omega⟩)
    (fun i x S acc hx hP => by
      obtain ⟨ls, rfl, g2, gN, g4, g5, g6⟩ := hP
      have hi : i < 2 := by
        have := (List.getElem?_eq_some_iff.mp hx).1
        simpa using this
      have hb : (i : Int) * N ≤ 20 := by
        have : i = 0 ∨ i = 1 := by omega
        rcases this with rfl | rfl <;> omega
      obtain ⟨v, S2, q1, q2, q3, q4⟩ := he x (S ++ [.lst (ls.map T)]) (c + i * N) (g5.app _) (by omega)
      obtain ⟨S', rfl, q5⟩ := Up.app g5.pos q4
      refine ⟨_, rfl, .inr ⟨rfl, T v, S', ?_, q1, ls ++ [v], by simp, by simp [g2], hi, ?_, ?_, g6.trans q5⟩⟩
      · rw [q5.len, g6.len]
      · intro z hz
        rcases List.mem_append.mp hz with hz | hz
        · exact g4 z hz
        · rw [List.mem_singleton.mp hz]; exact q2
      · have := q3.left (by rw [q5.len]; exact g5.pos)
        rw [show c + ((i + 1 : Nat) : Int) * N = c + i * N + N by grind]
        exact this)
  have hlen : ((List.range 2).map fun k => Vl.d (.int (0 + (k : Nat)))).length = 2 := by simp
  rw [hlen] at g5 g3
  subst g2
  match ls, g3 with
  | [l, l'], _ => exact ⟨l, l', S', g1, g4 l (by simp), g4 l' (by simp), by simpa using g5, g6⟩
theorem zmap (op : Int → Int → Int) (a b : List Int) (N : Nat) (ha : a.length = N) (hb : b.length = N) :
    (((List.range N).map fun k => Vl.d (.int (0 + (k : Nat)))).map fun x => match x with | .d (.int k) => PyData.int (op (a.getD k.toNat 0) (b.getD k.toNat 0)) | _ => .none) = (List.zipWith op a b).map .int := by
  refine List.ext_getElem (by simp [ha, hb]) fun i h1 h2 => ?_
  have hi : i < N := by simpa using h1
  have h3 : i < a.length := by omega
  have h4 : i < b.length := by omega
  simp [h3, h4]
theorem ixTk {l : List Int} {N : Nat} (h : l.length = N) {k : Nat} (hk : k < N) : ixD (T l) (.int (k : Nat)) = some (.int (l.getD k 0)) := by
  show L2.atI (l.map PyData.int) (k : Nat) = _
  unfold L2.atI L2.ixN
  rw [if_pos (by omega), if_pos (by rw [List.length_map]; omega)]
  have h3 : k < l.length := by omega
  simp [h3]
theorem addT {a b : List Int} (h : a.length + b.length ≤ 1000) : addD (T a) (T b) = some (T (a ++ b)) := by
  simp [addD, T, sizeLine_eq]
  omega
theorem repT (x : Int) {N : Nat} (h1 : 1 ≤ N) (h2 : N ≤ 1000) : mulD (.tuple [.int x]) (.int (N : Nat)) = some (T (List.replicate N x)) := by
  have hr : repL N [PyData.int x] = (List.replicate N x).map .int := by
    unfold repL
    induction N with
    | zero => rfl
    | succ n ih =>
      rw [List.replicate_succ, List.flatten_cons, List.replicate_succ, List.map_cons]
      by_cases hn : n = 0
      · subst hn; rfl
      · rw [ih (by omega) (by omega)]; rfl
  by_cases h : 2 ≤ N
  · simp only [mulD]
    rw [if_pos ⟨by simp, by omega, by omega, by simp⟩]
    simp only [T]
    rw [← hr]
    rfl
  · have : N = 1 := by omega
    subst this
    rfl
theorem dot_add (a b c : List Int) (h : a.length = b.length) (h' : b.length = c.length) : dot a (List.zipWith (· + ·) b c) = dot a b + dot a c := by
  induction a generalizing b c with
  | nil => simp [dot]
  | cons x a ih =>
    match b, c, h, h' with
    | y :: b, z :: c, h, h' =>
      have := ih b c (by simpa using h) (by simpa using h')
      simp only [dot, List.zipWith_cons_cons, List.zip_cons_cons, List.map_cons, List.sum_cons] at this ⊢
      rw [this]
      grind
theorem dot_sub (a b c : List Int) (h : a.length = b.length) (h' : b.length = c.length) : dot (List.zipWith (· - ·) a b) c = dot a c - dot b c := by
  induction a generalizing b c with
  | nil =>
    match b, c, h, h' with
    | [], [], _, _ => rfl
  | cons x a ih =>
    match b, c, h, h' with
    | y :: b, z :: c, h, h' =>
      have := ih b c (by simpa using h) (by simpa using h')
      simp only [dot, List.zipWith_cons_cons, List.zip_cons_cons, List.map_cons, List.sum_cons] at this ⊢
      rw [this]
      grind
theorem dot_rep (x : Int) : ∀ (a : List Int), dot (List.replicate a.length x) a = x * a.sum
  | [] => by simp [dot]
  | y :: a => by
    have := dot_rep x a
    simp only [dot, List.length_cons, List.replicate_succ, List.zip_cons_cons, List.map_cons, List.sum_cons] at this ⊢
    rw [this]
    grind
theorem dot_app (a b c d : List Int) (h : a.length = c.length) : dot (a ++ b) (c ++ d) = dot a c + dot b d := by
  simp only [dot]
  rw [List.zip_append h, List.map_append, List.sum_append]
end Law

namespace Law
open PySem PySem.Spec Ev
theorem pos18 {N : Nat} (h : N ≤ 100) : (-(2 ^ 62) : Int) ≤ (N : Int) ∧ (N : Int) < 2 ^ 62 := ⟨by omega, by omega⟩
theorem rgN {ρ : Rho} {M : Sto} {i N : Nat} (h : ρ[i]? = some (some (I (N : Nat)))) (hN : N ≤ 100) : giRng1 (gCons (gVar i) gNil) ρ M = .ok (.rng 0 N) M := by
  simp only [giRng1, gCons, gVar, h, gNil, Out.bind, if_pos (pos18 hN), Int.toNat_natCast]
theorem rg2 {ρ : Rho} {M : Sto} : giRng1 (gCons (gCon (.int 2)) gNil) ρ M = .ok (.rng 0 2) M := by
  simp only [giRng1, gCons, gCon, gNil, Out.bind]
  rw [if_pos (by decide)]
  rfl
def zf (op : Int → Int → Int) (a b : List Int) : Vl → PyData
  | .d (.int k) => .int (op (a.getD k.toNat 0) (b.getD k.toNat 0))
  | _ => .none
theorem zmap2 (op : Int → Int → Int) (a b : List Int) (N : Nat) (ha : a.length = N) (hb : b.length = N) : ((List.range N).map fun k => Vl.d (.int (0 + (k : Nat)))).map (zf op a b) = (List.zipWith op a b).map .int := zmap op a b N ha hb
theorem tup_of {G : Ev0 Vl} {ρ : Rho} {S S' : Sto} {l : List Int} (h : G ρ S = .ok (.d (.list (l.map .int))) S') : gCall (liftC1 tupleD) (gCons G gNil) ρ S = .ok (.d (T l)) S' := by
  simp only [gCall, gCons, h, gNil, Out.bind, liftC1, lift1, peek, tupL, give, T]
theorem s_totals (n : Nat) (M : Sto) {c : Int} (h : Rd c M) (hc : c ≤ 1000) : ∃ M', Ev.run tb (n + 3) 17 [.ref 0] M = .ok (.d (.bool true)) M' ∧ Rd (c + 100) M' ∧ Up M M' := by
  obtain ⟨v, M1, e1, r1, u1, v1, v2⟩ := d_draw (n + 1) M 6 h (by omega) (by decide) (by decide)
  obtain ⟨N, hN⟩ : ∃ N : Nat, 1 + v = (N : Int) := ⟨(1 + v).toNat, by omega⟩
  have hN1 : 1 ≤ N := by omega
  have hN2 : N ≤ 6 := by omega
  -- the four lists
  have inner : ∀ (m d : Int) (ρ : Rho) (own own2 : List Nat) (k2 : Nat) (e : Ev0 Vl), True := fun _ _ _ _ _ _ _ => trivial
  let fn : Fn := some (Ev.run tb (n + 2))
  let ρ1 : Rho := [some (.ref 0), some (I (N : Nat)), none, none, none, none, none, none, none, none, none]
  obtain ⟨l1, l2, M2, g2, b1, b2, r2, u2⟩ := dl2 (own := [8, 9]) (gi := giRng1 (gCons (gCon (PyData.int 2)) gNil)) (ks := 9) (ρ := ρ1) (M := M1) (N := N) (c := c + 1)
    (e := gCall (liftC1 tupleD) (gCons (gLc false [8, 10] (giRng1 (gCons (gVar 1) gNil)) (tgName 10) gYes (gBin (lift2 subD) (gCall (Ev.run tb (n + 2) 13) (gCons (gVar 0) (gCons (gCon (PyData.int 19)) gNil))) (gCon (PyData.int 9)))) gNil))
    rg2 r1 (by omega) (fun x S c' hr hc' => by
      obtain ⟨l, S', q1, q2, q3, q4, q5⟩ := dl (own := [8, 10]) (gi := giRng1 (gCons (gVar 1) gNil)) (ks := 10) (M := S) (N := N) (c := c')
        (ρ := (wipeR ρ1 [8, 9]).set 9 (some x)) (e := gBin (lift2 subD) (gCall (Ev.run tb (n + 2) 13) (gCons (gVar 0) (gCons (gCon (PyData.int 19)) gNil))) (gCon (PyData.int 9)))
        (rgN rfl (by omega)) hr (by omega) (fun x2 S2 c2 hr2 hc2 => by
          obtain ⟨v, S3, e3, r3, u3, w1, w2⟩ := d_draw (n + 1) S2 19 hr2 (by omega) (by decide) (by decide)
          exact ⟨v - 9, S3, by simp [runF, evSs, CS.ev, CE.ev, CE.evT, CEs.ev, CI.ev, CO.evI, CO.evC, CT.ev, CT.slots, tgNames, tgName, tgTup, tgCons, tgNil, evAnd, evOr, evAndT, evOrT, callE, gsSeq, gsNil, gsSet, gsTgt, gsPar, gsExp, gsRet, gsRetN, gsIf, gsPut, gBin, gUn, gVar, gCon, gB, gIf, gTru, gAndT, gOrT, gNotT, gAnd, gOr, gNot, gChain, gNil, gCons, gCall, gTup, gLst, gLstM, gDisp, gSl, gNoPart, gPart, gMeth, giVal, giRng1, giRng2, giZip, giEnu, srcOf, asInt, asBool, startR, COp.ev, BOp.ev, Blt.ev, Mth.ev, Mth.ty, lift2, lift1, liftC1, peek, toD, toDs, ixV, dctAt, ixL, ixT, give, Out.bind, bindS, OutS.then, finR, finV, addI, subI, cmpII, isaD, negI, intI, intB, lenV, lenLi, lenTu, tupL, tupT, lisL, lisT, PyData.isInt, PyData.isBool, PyData.isTuple, PyData.isList, PyData.isStr, itemsOf, truV, truD, PyData.truthy, sizeLine_eq, slD, putV, keyD, isNoneV, wipeR, ρ1, e3], r3, u3, by omega⟩)
      exact ⟨l, S', tup_of q1, ⟨q2, q3⟩, q4, q5⟩)
  let ρ2 : Rho := [some (.ref 0), some (I (N : Nat)), some (.d (T l1)), some (.d (T l2)), none, none, none, none, none, none, none]
  obtain ⟨l3, l4, M3, g3, b3, b4, r3, u3⟩ := dl2 (own := [8, 9]) (gi := giRng1 (gCons (gCon (PyData.int 2)) gNil)) (ks := 9) (ρ := ρ2) (M := M2) (N := N) (c := c + 1 + 2 * N)
    (e := gCall (liftC1 tupleD) (gCons (gLc false [8, 10] (giRng1 (gCons (gVar 1) gNil)) (tgName 10) gYes (gCall (Ev.run tb (n + 2) 13) (gCons (gVar 0) (gCons (gCon (PyData.int 99)) gNil)))) gNil))
    rg2 r2 (by omega) (fun x S c' hr hc' => by
      obtain ⟨l, S', q1, q2, q3, q4, q5⟩ := dl (own := [8, 10]) (gi := giRng1 (gCons (gVar 1) gNil)) (ks := 10) (M := S) (N := N) (c := c')
        (ρ := (wipeR ρ2 [8, 9]).set 9 (some x)) (e := gCall (Ev.run tb (n + 2) 13) (gCons (gVar 0) (gCons (gCon (PyData.int 99)) gNil)))
        (rgN rfl (by omega)) hr (by omega) (fun x2 S2 c2 hr2 hc2 => by
          obtain ⟨v, S3, e3, r3, u3, w1, w2⟩ := d_draw (n + 1) S2 99 hr2 (by omega) (by decide) (by decide)
          exact ⟨v, S3, by simp [runF, evSs, CS.ev, CE.ev, CE.evT, CEs.ev, CI.ev, CO.evI, CO.evC, CT.ev, CT.slots, tgNames, tgName, tgTup, tgCons, tgNil, evAnd, evOr, evAndT, evOrT, callE, gsSeq, gsNil, gsSet, gsTgt, gsPar, gsExp, gsRet, gsRetN, gsIf, gsPut, gBin, gUn, gVar, gCon, gB, gIf, gTru, gAndT, gOrT, gNotT, gAnd, gOr, gNot, gChain, gNil, gCons, gCall, gTup, gLst, gLstM, gDisp, gSl, gNoPart, gPart, gMeth, giVal, giRng1, giRng2, giZip, giEnu, srcOf, asInt, asBool, startR, COp.ev, BOp.ev, Blt.ev, Mth.ev, Mth.ty, lift2, lift1, liftC1, peek, toD, toDs, ixV, dctAt, ixL, ixT, give, Out.bind, bindS, OutS.then, finR, finV, addI, subI, cmpII, isaD, negI, intI, intB, lenV, lenLi, lenTu, tupL, tupT, lisL, lisT, PyData.isInt, PyData.isBool, PyData.isTuple, PyData.isList, PyData.isStr, itemsOf, truV, truD, PyData.truthy, sizeLine_eq, slD, putV, keyD, isNoneV, wipeR, ρ2, e3], r3, u3, by omega⟩)
      exact ⟨l, S', tup_of q1, ⟨q2, q3⟩, q4, q5⟩)
  let ρ3 : Rho := [some (.ref 0), some (I (N : Nat)), some (.d (T l1)), some (.d (T l2)), some (.d (T l3)), some (.d (T l4)), none, none, none, none, none]
  have hf : ∀ l : List Vl, l.filter (fun _ => true) = l := fun l => by simp
  have both : gLc false [8, 10] (giRng1 (gCons (gVar 1) gNil)) (tgName 10) gYes (gBin (lift2 addD) (gBin ixV (gVar 4) (gVar 10)) (gBin ixV (gVar 5) (gVar 10))) ρ3 M3 = .ok (.d (.list ((List.zipWith (· + ·) l3 l4).map .int))) M3 := by
    have := lc_pure (own := [8, 10]) (ρ := ρ3) (M := M3) (t := tgName 10) (c := gYes) (e := gBin (lift2 addD) (gBin ixV (gVar 4) (gVar 10)) (gBin ixV (gVar 5) (gVar 10))) (rgN (i := 1) rfl (by omega)) (walks_rng 0 N M3) (by simp [sizeLine_eq]; omega) (fun _ => true) (zf (· + ·) l3 l4) (fun x hx M' => by
      obtain ⟨k, hk, rfl⟩ := List.mem_map.mp hx
      have hk : k < N := by simpa using hk
      exact ⟨_, rfl, rfl, fun _ => by simp [runF, evSs, CS.ev, CE.ev, CE.evT, CEs.ev, CI.ev, CO.evI, CO.evC, CT.ev, CT.slots, tgNames, tgName, tgTup, tgCons, tgNil, evAnd, evOr, evAndT, evOrT, callE, gsSeq, gsNil, gsSet, gsTgt, gsPar, gsExp, gsRet, gsRetN, gsIf, gsPut, gBin, gUn, gVar, gCon, gB, gIf, gTru, gAndT, gOrT, gNotT, gAnd, gOr, gNot, gChain, gNil, gCons, gCall, gTup, gLst, gLstM, gDisp, gSl, gNoPart, gPart, gMeth, giVal, giRng1, giRng2, giZip, giEnu, srcOf, asInt, asBool, startR, COp.ev, BOp.ev, Blt.ev, Mth.ev, Mth.ty, lift2, lift1, liftC1, peek, toD, toDs, ixV, dctAt, ixL, ixT, give, Out.bind, bindS, OutS.then, finR, finV, addI, subI, cmpII, isaD, negI, intI, intB, lenV, lenLi, lenTu, tupL, tupT, lisL, lisT, PyData.isInt, PyData.isBool, PyData.isTuple, PyData.isList, PyData.isStr, itemsOf, truV, truD, PyData.truthy, sizeLine_eq, slD, putV, keyD, isNoneV, wipeR, ρ3, ixTk b3.1 hk, ixTk b4.1 hk, zf]⟩)
    rw [hf, zmap2 (· + ·) l3 l4 N b3.1 b4.1] at this
    exact this
  let ρ4 : Rho := [some (.ref 0), some (I (N : Nat)), some (.d (T l1)), some (.d (T l2)), some (.d (T l3)), some (.d (T l4)), some (.d (T (List.zipWith (· + ·) l3 l4))), none, none, none, none]
  have sm : gLc false [8, 10] (giRng1 (gCons (gVar 1) gNil)) (tgName 10) gYes (gBin (lift2 subD) (gBin ixV (gVar 2) (gVar 10)) (gBin ixV (gVar 3) (gVar 10))) ρ4 M3 = .ok (.d (.list ((List.zipWith (· - ·) l1 l2).map .int))) M3 := by
    have := lc_pure (own := [8, 10]) (ρ := ρ4) (M := M3) (t := tgName 10) (c := gYes) (e := gBin (lift2 subD) (gBin ixV (gVar 2) (gVar 10)) (gBin ixV (gVar 3) (gVar 10))) (rgN (i := 1) rfl (by omega)) (walks_rng 0 N M3) (by simp [sizeLine_eq]; omega) (fun _ => true) (zf (· - ·) l1 l2) (fun x hx M' => by
      obtain ⟨k, hk, rfl⟩ := List.mem_map.mp hx
      have hk : k < N := by simpa using hk
      exact ⟨_, rfl, rfl, fun _ => by simp [runF, evSs, CS.ev, CE.ev, CE.evT, CEs.ev, CI.ev, CO.evI, CO.evC, CT.ev, CT.slots, tgNames, tgName, tgTup, tgCons, tgNil, evAnd, evOr, evAndT, evOrT, callE, gsSeq, gsNil, gsSet, gsTgt, gsPar, gsExp, gsRet, gsRetN, gsIf, gsPut, gBin, gUn, gVar, gCon, gB, gIf, gTru, gAndT, gOrT, gNotT, gAnd, gOr, gNot, gChain, gNil, gCons, gCall, gTup, gLst, gLstM, gDisp, gSl, gNoPart, gPart, gMeth, giVal, giRng1, giRng2, giZip, giEnu, srcOf, asInt, asBool, startR, COp.ev, BOp.ev, Blt.ev, Mth.ev, Mth.ty, lift2, lift1, liftC1, peek, toD, toDs, ixV, dctAt, ixL, ixT, give, Out.bind, bindS, OutS.then, finR, finV, addI, subI, cmpII, isaD, negI, intI, intB, lenV, lenLi, lenTu, tupL, tupT, lisL, lisT, PyData.isInt, PyData.isBool, PyData.isTuple, PyData.isList, PyData.isStr, itemsOf, truV, truD, PyData.truthy, sizeLine_eq, slD, putV, keyD, isNoneV, wipeR, ρ4, ixTk b1.1 hk, ixTk b2.1 hk, zf]⟩)
    rw [hf, zmap2 (· - ·) l1 l2 N b1.1 b2.1] at this
    exact this
  let ρ5 : Rho := [some (.ref 0), some (I (N : Nat)), some (.d (T l1)), some (.d (T l2)), some (.d (T l3)), some (.d (T l4)), some (.d (T (List.zipWith (· + ·) l3 l4))), some (.d (T (List.zipWith (· - ·) l1 l2))), none, none, none]
  -- sizes
  have B : ∀ {l : List Int}, Bd N l → Bl l := fun {l} h => ⟨by rw [h.1]; omega, fun v hv => Nat.lt_trans (h.2 v hv) (by decide)⟩
  have Bz : ∀ (op : Int → Int → Int), (∀ x y : Int, x.natAbs < 2 ^ 20 → y.natAbs < 2 ^ 20 → (op x y).natAbs < 2 ^ 30) → ∀ {a b : List Int}, Bd N a → Bd N b → Bl (List.zipWith op a b) ∧ (List.zipWith op a b).length = N := fun op hop {a b} ha hb => by
    refine ⟨⟨by rw [List.length_zipWith, ha.1, hb.1]; omega, fun v hv => ?_⟩, by rw [List.length_zipWith, ha.1, hb.1]; omega⟩
    rw [← List.map_uncurry_zip_eq_zipWith] at hv
    obtain ⟨p, hp, rfl⟩ := List.mem_map.mp hv
    exact hop _ _ (ha.2 _ (List.of_mem_zip hp).1) (hb.2 _ (List.of_mem_zip hp).2)
  have Z1 := Bz (· + ·) (fun x y hx hy => by omega) b3 b4
  have Z2 := Bz (· - ·) (fun x y hx hy => by omega) b1 b2
  have Br : ∀ x : Int, x.natAbs < 2 ^ 20 → Bd N (List.replicate N x) := fun x hx => ⟨by simp, fun v hv => by rw [(List.mem_replicate.mp hv).2]; exact hx⟩
  have Ba : ∀ {a b : List Int}, Bd N a → Bd N b → Bl (a ++ b) := fun {a b} ha hb => ⟨by rw [List.length_append, ha.1, hb.1]; omega, fun v hv => by
    rcases List.mem_append.mp hv with h | h
    · exact (B ha).2 v h
    · exact (B hb).2 v h⟩
  have t1 := fun M => s_total n M (B b1) Z1.1 (by rw [b1.1, Z1.2])
  have t2 := fun M => s_total n M (B b1) (B b3) (by rw [b1.1, b3.1])
  have t3 := fun M => s_total n M (B b1) (B b4) (by rw [b1.1, b4.1])
  have t4 := fun M => s_total n M Z2.1 (B b3) (by rw [Z2.2, b3.1])
  have t5 := fun M => s_total n M (B b2) (B b3) (by rw [b2.1, b3.1])
  have t6 := fun M => s_total n M (B (Br 0 (by decide))) (B b3) (by rw [b3.1, List.length_replicate])
  have t7 := fun M => s_total n M (B (Br 1 (by decide))) (B b3) (by rw [b3.1, List.length_replicate])
  have t8 := fun M => s_total n M (Ba b1 b2) (Ba b3 b4) (by rw [List.length_append, List.length_append, b1.1, b2.1, b3.1, b4.1])
  have t9 := fun M => s_total n M (B b2) (B b4) (by rw [b2.1, b4.1])
  rw [dot_add l1 l3 l4 (by rw [b1.1, b3.1]) (by rw [b3.1, b4.1])] at t1
  rw [dot_sub l1 l2 l3 (by rw [b1.1, b2.1]) (by rw [b2.1, b3.1])] at t4
  have d0 := dot_rep 0 l3
  have d1 := dot_rep 1 l3
  rw [b3.1] at d0 d1
  rw [d0, Int.zero_mul] at t6
  rw [d1, Int.one_mul] at t7
  rw [dot_app l1 l2 l3 l4 (by rw [b1.1, b3.1])] at t8
  have a1 := addT (a := l1) (b := l2) (by rw [b1.1, b2.1]; omega)
  have a2 := addT (a := l3) (b := l4) (by rw [b3.1, b4.1]; omega)
  have p0 := repT 0 hN1 (by omega)
  have p1 := repT 1 hN1 (by omega)
  have hlen : M3.length = M.length := ((u1.trans u2).trans u3).len
  refine ⟨M3, ?_, r3.mono (by omega), (u1.trans u2).trans u3⟩
  rw [runS (n + 2) 17 f17.F rfl, run_of rfl (o := .rt (.d (.bool true)) M3) ?_]
  · show Out.ok (Vl.d (PyData.bool true)) (M3.take M.length) = _
    rw [← hlen, List.take_length]
  refine ev_set (v := I (N : Nat)) (M1 := M1) ?_ ?_
  · simp [runF, evSs, CS.ev, CE.ev, CE.evT, CEs.ev, CI.ev, CO.evI, CO.evC, CT.ev, CT.slots, tgNames, tgName, tgTup, tgCons, tgNil, evAnd, evOr, evAndT, evOrT, callE, gsSeq, gsNil, gsSet, gsTgt, gsPar, gsExp, gsRet, gsRetN, gsIf, gsPut, gBin, gUn, gVar, gCon, gB, gIf, gTru, gAndT, gOrT, gNotT, gAnd, gOr, gNot, gChain, gNil, gCons, gCall, gTup, gLst, gLstM, gDisp, gSl, gNoPart, gPart, gMeth, giVal, giRng1, giRng2, giZip, giEnu, srcOf, asInt, asBool, startR, COp.ev, BOp.ev, Blt.ev, Mth.ev, Mth.ty, lift2, lift1, liftC1, peek, toD, toDs, ixV, dctAt, ixL, ixT, give, Out.bind, bindS, OutS.then, finR, finV, addI, subI, cmpII, isaD, negI, intI, intB, lenV, lenLi, lenTu, tupL, tupT, lisL, lisT, PyData.isInt, PyData.isBool, PyData.isTuple, PyData.isList, PyData.isStr, itemsOf, truV, truD, PyData.truthy, sizeLine_eq, slD, putV, keyD, isNoneV, f17, e1, hN]
  refine ev_tgt (v := .d (.list [T l1, T l2])) (M1 := M2) (ρ' := ρ2) g2 rfl ?_
  refine ev_tgt (v := .d (.list [T l3, T l4])) (M1 := M3) (ρ' := ρ3) g3 rfl ?_
  refine ev_set (v := .d (T (List.zipWith (· + ·) l3 l4))) (M1 := M3) (tup_of both) ?_
  refine ev_set (v := .d (T (List.zipWith (· - ·) l1 l2))) (M1 := M3) (tup_of sm) ?_
  show evSs fn _ ρ5 M3 = _
  refine ev_skip (M1 := M3) ?_ ?_
  · simp [runF, evSs, CS.ev, CE.ev, CE.evT, CEs.ev, CI.ev, CO.evI, CO.evC, CT.ev, CT.slots, tgNames, tgName, tgTup, tgCons, tgNil, evAnd, evOr, evAndT, evOrT, callE, gsSeq, gsNil, gsSet, gsTgt, gsPar, gsExp, gsRet, gsRetN, gsIf, gsPut, gBin, gUn, gVar, gCon, gB, gIf, gTru, gAndT, gOrT, gNotT, gAnd, gOr, gNot, gChain, gNil, gCons, gCall, gTup, gLst, gLstM, gDisp, gSl, gNoPart, gPart, gMeth, giVal, giRng1, giRng2, giZip, giEnu, srcOf, asInt, asBool, startR, COp.ev, BOp.ev, Blt.ev, Mth.ev, Mth.ty, lift2, lift1, liftC1, peek, toD, toDs, ixV, dctAt, ixL, ixT, give, Out.bind, bindS, OutS.then, finR, finV, addI, subI, cmpII, isaD, negI, intI, intB, lenV, lenLi, lenTu, tupL, tupT, lisL, lisT, PyData.isInt, PyData.isBool, PyData.isTuple, PyData.isList, PyData.isStr, itemsOf, truV, truD, PyData.truthy, sizeLine_eq, slD, putV, keyD, isNoneV, f17, ρ5, fn, t1, t2, t3, neI]
  refine ev_skip (M1 := M3) ?_ ?_
  · simp [runF, evSs, CS.ev, CE.ev, CE.evT, CEs.ev, CI.ev, CO.evI, CO.evC, CT.ev, CT.slots, tgNames, tgName, tgTup, tgCons, tgNil, evAnd, evOr, evAndT, evOrT, callE, gsSeq, gsNil, gsSet, gsTgt, gsPar, gsExp, gsRet, gsRetN, gsIf, gsPut, gBin, gUn, gVar, gCon, gB, gIf, gTru, gAndT, gOrT, gNotT, gAnd, gOr, gNot, gChain, gNil, gCons, gCall, gTup, gLst, gLstM, gDisp, gSl, gNoPart, gPart, gMeth, giVal, giRng1, giRng2, giZip, giEnu, srcOf, asInt, asBool, startR, COp.ev, BOp.ev, Blt.ev, Mth.ev, Mth.ty, lift2, lift1, liftC1, peek, toD, toDs, ixV, dctAt, ixL, ixT, give, Out.bind, bindS, OutS.then, finR, finV, addI, subI, cmpII, isaD, negI, intI, intB, lenV, lenLi, lenTu, tupL, tupT, lisL, lisT, PyData.isInt, PyData.isBool, PyData.isTuple, PyData.isList, PyData.isStr, itemsOf, truV, truD, PyData.truthy, sizeLine_eq, slD, putV, keyD, isNoneV, f17, ρ5, fn, t4, t2, t5, neI]
  refine ev_skip (M1 := M3) ?_ ?_
  · simp [runF, evSs, CS.ev, CE.ev, CE.evT, CEs.ev, CI.ev, CO.evI, CO.evC, CT.ev, CT.slots, tgNames, tgName, tgTup, tgCons, tgNil, evAnd, evOr, evAndT, evOrT, callE, gsSeq, gsNil, gsSet, gsTgt, gsPar, gsExp, gsRet, gsRetN, gsIf, gsPut, gBin, gUn, gVar, gCon, gB, gIf, gTru, gAndT, gOrT, gNotT, gAnd, gOr, gNot, gChain, gNil, gCons, gCall, gTup, gLst, gLstM, gDisp, gSl, gNoPart, gPart, gMeth, giVal, giRng1, giRng2, giZip, giEnu, srcOf, asInt, asBool, startR, COp.ev, BOp.ev, Blt.ev, Mth.ev, Mth.ty, lift2, lift1, liftC1, peek, toD, toDs, ixV, dctAt, ixL, ixT, give, Out.bind, bindS, OutS.then, finR, finV, addI, subI, cmpII, isaD, negI, intI, intB, lenV, lenLi, lenTu, tupL, tupT, lisL, lisT, PyData.isInt, PyData.isBool, PyData.isTuple, PyData.isList, PyData.isStr, itemsOf, truV, truD, PyData.truthy, sizeLine_eq, slD, putV, keyD, isNoneV, f17, ρ5, fn, t6, p0, neI]
  refine ev_skip (M1 := M3) ?_ ?_
  · simp [runF, evSs, CS.ev, CE.ev, CE.evT, CEs.ev, CI.ev, CO.evI, CO.evC, CT.ev, CT.slots, tgNames, tgName, tgTup, tgCons, tgNil, evAnd, evOr, evAndT, evOrT, callE, gsSeq, gsNil, gsSet, gsTgt, gsPar, gsExp, gsRet, gsRetN, gsIf, gsPut, gBin, gUn, gVar, gCon, gB, gIf, gTru, gAndT, gOrT, gNotT, gAnd, gOr, gNot, gChain, gNil, gCons, gCall, gTup, gLst, gLstM, gDisp, gSl, gNoPart, gPart, gMeth, giVal, giRng1, giRng2, giZip, giEnu, srcOf, asInt, asBool, startR, COp.ev, BOp.ev, Blt.ev, Mth.ev, Mth.ty, lift2, lift1, liftC1, peek, toD, toDs, ixV, dctAt, ixL, ixT, give, Out.bind, bindS, OutS.then, finR, finV, addI, subI, cmpII, isaD, negI, intI, intB, lenV, lenLi, lenTu, tupL, tupT, lisL, lisT, PyData.isInt, PyData.isBool, PyData.isTuple, PyData.isList, PyData.isStr, itemsOf, truV, truD, PyData.truthy, sizeLine_eq, slD, putV, keyD, isNoneV, f17, ρ5, fn, t7, p1, neI, sum_T]
  refine ev_ret ?_
  simp [runF, evSs, CS.ev, CE.ev, CE.evT, CEs.ev, CI.ev, CO.evI, CO.evC, CT.ev, CT.slots, tgNames, tgName, tgTup, tgCons, tgNil, evAnd, evOr, evAndT, evOrT, callE, gsSeq, gsNil, gsSet, gsTgt, gsPar, gsExp, gsRet, gsRetN, gsIf, gsPut, gBin, gUn, gVar, gCon, gB, gIf, gTru, gAndT, gOrT, gNotT, gAnd, gOr, gNot, gChain, gNil, gCons, gCall, gTup, gLst, gLstM, gDisp, gSl, gNoPart, gPart, gMeth, giVal, giRng1, giRng2, giZip, giEnu, srcOf, asInt, asBool, startR, COp.ev, BOp.ev, Blt.ev, Mth.ev, Mth.ty, lift2, lift1, liftC1, peek, toD, toDs, ixV, dctAt, ixL, ixT, give, Out.bind, bindS, OutS.then, finR, finV, addI, subI, cmpII, isaD, negI, intI, intB, lenV, lenLi, lenTu, tupL, tupT, lisL, lisT, PyData.isInt, PyData.isBool, PyData.isTuple, PyData.isList, PyData.isStr, itemsOf, truV, truD, PyData.truthy, sizeLine_eq, slD, putV, keyD, isNoneV, f17, ρ5, fn, t8, a1, a2, t2, t9, eqI]
end Law

namespace Law
open PySem PySem.Spec Ev
theorem parts {own : List Nat} {gi : Ev0S} {ks : Nat} {e : Ev0 Vl} {ρ : Rho} {M : Sto} {N : Nat} {c : Int} (hgi : gi ρ M = .ok (.rng 0 N) M) (h0 : Rd c M) (hN : N ≤ 100)
    (he : ∀ x S c', Rd c' S → c' ≤ c + 300 → ∃ (v : Rat) (S' : Sto), e ((wipeR ρ own).set ks (some x)) S = .ok (.d (F v)) S' ∧ Rd (c' + 3) S' ∧ Up S S' ∧ Bx 60 v) :
    ∃ (l : List Rat) (S' : Sto), gLc false own gi (tgName ks) gYes e ρ M = .ok (.d (.list (l.map F))) S' ∧ l.length = N ∧ (∀ v ∈ l, Bx 60 v) ∧ Rd (c + 3 * N) S' ∧ Up M S' := by
  obtain ⟨S', ys, g1, l, g2, g3, gN, g4, g5, g6⟩ := lc_inv (own := own) (t := tgName ks) (c := gYes) (e := e) hgi (walks_rng 0 N M) (fun i S acc => ∃ l : List Rat, acc = l.map F ∧ l.length = i ∧ (i ≤ N) ∧ (∀ v ∈ l, Bx 60 v) ∧ Rd (c + 3 * i) S ∧ Up M S)
    ⟨[], rfl, rfl, Nat.zero_le _, by simp, by simpa using h0, Up.refl h0⟩
    (fun i S acc hP => by
      obtain ⟨l, rfl, g2, gN, g4, g5, g6⟩ := hP
      exact ⟨g6.len, by rw [List.length_map, sizeLine_eq]; omega⟩)
    (fun i x S acc hx hP => by
      obtain ⟨l, rfl, g2, gN, g4, g5, g6⟩ := hP
      have hi : i < N := by
        have := (List.getElem?_eq_some_iff.mp hx).1
        simpa using this
      obtain ⟨v, S2, q1, q2, q3, q4⟩ := he x (S ++ [.lst (l.map F)]) (c + 3 * i) (g5.app _) (by omega)
      obtain ⟨S', rfl, q5⟩ := Up.app g5.pos q3
      refine ⟨_, rfl, .inr ⟨rfl, F v, S', ?_, q1, l ++ [v], by simp, by simp [g2], hi, ?_, ?_, g6.trans q5⟩⟩
      · rw [q5.len, g6.len]
      · intro z hz
        rcases List.mem_append.mp hz with hz | hz
        · exact g4 z hz
        · rw [List.mem_singleton.mp hz]; exact q4
      · have := q2.left (by rw [q5.len]; exact g5.pos)
        rw [show c + 3 * ((i + 1 : Nat) : Int) = c + 3 * i + 3 by omega]
        exact this)
  have hlen : ((List.range N).map fun k => Vl.d (.int (0 + (k : Nat)))).length = N := by simp
  rw [hlen] at g5 g3
  subst g2
  exact ⟨l, S', g1, g3, g4, g5, g6⟩
theorem ixLk {l : List Rat} {v : Int} (h0 : 0 ≤ v) (h1 : v < l.length) : ∃ x ∈ l, ixD (.list (l.map F)) (.int v) = some (F x) := by
  have h3 : v.toNat < l.length := by omega
  refine ⟨l[v.toNat], List.getElem_mem h3, ?_⟩
  show L2.atI (l.map F) v = _
  unfold L2.atI L2.ixN
  rw [if_pos h0, if_pos (by rw [List.length_map]; exact h1)]
  simp [h3]
theorem rg6 {ρ : Rho} {M : Sto} : giRng1 (gCons (gCon (.int 6)) gNil) ρ M = .ok (.rng 0 6) M := by
  simp only [giRng1, gCons, gCon, gNil, Out.bind]
  rw [if_pos (by decide)]
  rfl
def lvl : Nat := 5
theorem law_run : ∀ ns : List Int, ns.length ≤ 63 → ∃ M, Ev.run (ts.map (·.F)) lvl 18 [scriptD ns] [] = .ok (.d (.bool true)) M := by
  intro ns _
  have e0 := s_reader 3 [] ns
  have hR0 : Rd 0 ([] ++ [rdC (ns.take 63) 0 0 0]) := ⟨ns.take 63, 0, 0, 0, rfl, by rw [List.length_take]; omega, by omega, by omega, by omega⟩
  generalize ([] ++ [rdC (ns.take 63) 0 0 0] : Sto) = M1 at e0 hR0
  let fn : Fn := some (Ev.run tb 4)
  let ρ1 : Rho := [some (scriptD ns), some (.ref 0), none, none, none, none, none]
  obtain ⟨xs, M2, g1, g2, g3, r2, u2⟩ := parts (own := [5, 6]) (gi := giRng1 (gCons (gCon (PyData.int 6)) gNil)) (ks := 6) (ρ := ρ1) (M := M1) (N := 6) (c := 0) (e := gCall (Ev.run tb 4 14) (gCons (gVar 1) gNil))
    rg6 hR0 (by decide) (fun x S c' hr hc => by
      obtain ⟨v, S', q1, q2, q3, q4⟩ := d_part 0 S hr (by omega)
      exact ⟨v, S', by simp [runF, evSs, CS.ev, CE.ev, CE.evT, CEs.ev, CI.ev, CO.evI, CO.evC, CT.ev, CT.slots, tgNames, tgName, tgTup, tgCons, tgNil, evAnd, evOr, evAndT, evOrT, callE, gsSeq, gsNil, gsSet, gsTgt, gsPar, gsExp, gsRet, gsRetN, gsIf, gsPut, gBin, gUn, gVar, gCon, gB, gIf, gTru, gAndT, gOrT, gNotT, gAnd, gOr, gNot, gChain, gNil, gCons, gCall, gTup, gLst, gLstM, gDisp, gSl, gNoPart, gPart, gMeth, giVal, giRng1, giRng2, giZip, giEnu, srcOf, asInt, asBool, startR, COp.ev, BOp.ev, Blt.ev, Mth.ev, Mth.ty, lift2, lift1, liftC1, peek, toD, toDs, ixV, dctAt, ixL, ixT, give, Out.bind, bindS, OutS.then, finR, finV, addI, subI, cmpII, isaD, negI, intI, intB, lenV, lenLi, lenTu, tupL, tupT, lisL, lisT, PyData.isInt, PyData.isBool, PyData.isTuple, PyData.isList, PyData.isStr, itemsOf, truV, truD, PyData.truthy, sizeLine_eq, slD, putV, keyD, isNoneV, wipeR, ρ1, q1], q2, q3, q4⟩)
  let rs : List Rat := [0, 1, Rat.divInt (-1) 3] ++ xs
  have hrs : ∀ x ∈ rs, Bx 60 x := fun x hx => by
    rcases List.mem_append.mp hx with h | h
    · have h : x = 0 ∨ x = 1 ∨ x = Rat.divInt (-1) 3 := by simpa using h
      rcases h with rfl | rfl | rfl
      · exact bx0 (by decide)
      · exact bx1 (by decide)
      · exact bx_div (by decide) (by decide) (by decide)
    · exact g3 x h
  have hl : rs.length = 9 := by simp [rs, g2]
  have hF : F (Rat.divInt (-1) 3) = .tuple [.int (-1), .int 3] := rfl
  let lots : Vl := .d (.list (rs.map F))
  have hlots : addD (.list [.tuple [.int 0, .int 1], .tuple [.int 1, .int 1], .tuple [.int (-1), .int 3]]) (.list (xs.map F)) = some (.list (rs.map F)) := by
    simp only [addD]
    rw [if_pos (by simp [g2, sizeLine_eq])]
    rfl
  -- the loops
  have inner : ∀ (x : Rat), x ∈ rs → ∀ (vb : Option Vl) (M : Sto), ∃ vb', gsFor (giVal (gVar 2)) (tgName 4) (evSs fn [.ife (.not (.call 15 "_law_check_two" (.var 3 "_law_a" ⟨0, 0, 0, 0⟩) (.cons (.var 4 "_law_b" ⟨0, 0, 0, 0⟩) .nil) ⟨0, 0, 0, 0⟩ ⟨0, 0, 0, 0⟩) ⟨0, 0, 0, 0⟩) [.ret (.bl false 0 ⟨0, 0, 0, 0⟩) ⟨0, 0, 0, 0⟩] [] ⟨0, 0, 0, 0⟩])
      [some (scriptD ns), some (.ref 0), some lots, some (.d (F x)), vb, none, none] M = .nx [some (scriptD ns), some (.ref 0), some lots, some (.d (F x)), vb', none, none] M := by
    intro x hx vb M
    obtain ⟨ρ', M', q1, q2, rfl, rfl⟩ := for_inv (b := evSs fn [.ife (.not (.call 15 "_law_check_two" (.var 3 "_law_a" ⟨0, 0, 0, 0⟩) (.cons (.var 4 "_law_b" ⟨0, 0, 0, 0⟩) .nil) ⟨0, 0, 0, 0⟩ ⟨0, 0, 0, 0⟩) ⟨0, 0, 0, 0⟩) [.ret (.bl false 0 ⟨0, 0, 0, 0⟩) ⟨0, 0, 0, 0⟩] [] ⟨0, 0, 0, 0⟩]) (t := tgName 4) (gi := giVal (gVar 2)) (ρ := [some (scriptD ns), some (.ref 0), some lots, some (.d (F x)), vb, none, none]) (M := M) (src := .lst lots) (by simp [runF, evSs, CS.ev, CE.ev, CE.evT, CEs.ev, CI.ev, CO.evI, CO.evC, CT.ev, CT.slots, tgNames, tgName, tgTup, tgCons, tgNil, evAnd, evOr, evAndT, evOrT, callE, gsSeq, gsNil, gsSet, gsTgt, gsPar, gsExp, gsRet, gsRetN, gsIf, gsPut, gBin, gUn, gVar, gCon, gB, gIf, gTru, gAndT, gOrT, gNotT, gAnd, gOr, gNot, gChain, gNil, gCons, gCall, gTup, gLst, gLstM, gDisp, gSl, gNoPart, gPart, gMeth, giVal, giRng1, giRng2, giZip, giEnu, srcOf, asInt, asBool, startR, COp.ev, BOp.ev, Blt.ev, Mth.ev, Mth.ty, lift2, lift1, liftC1, peek, toD, toDs, ixV, dctAt, ixL, ixT, give, Out.bind, bindS, OutS.then, finR, finV, addI, subI, cmpII, isaD, negI, intI, intB, lenV, lenLi, lenTu, tupL, tupT, lisL, lisT, PyData.isInt, PyData.isBool, PyData.isTuple, PyData.isList, PyData.isStr, itemsOf, truV, truD, PyData.truthy, sizeLine_eq, slD, putV, keyD, isNoneV, lots]) (walks_lst (rs.map F) M)
      (fun i ρ M' => ∃ vb', ρ = [some (scriptD ns), some (.ref 0), some lots, some (.d (F x)), vb', none, none] ∧ M' = M) ⟨vb, rfl, rfl⟩
      (fun i y ρ M' hy hP => by
        obtain ⟨vb', rfl, rfl⟩ := hP
        have hy := List.mem_of_getElem? hy
        rw [List.map_map] at hy
        obtain ⟨z, hz, rfl⟩ := List.mem_map.mp hy
        have s2 := s_two 0 M' (hrs x hx) (hrs z hz)
        refine ⟨_, rfl, _, M', .inl ?_, some (.d (F z)), rfl, rfl⟩
        refine ev_skip (M1 := M') ?_ ev_nil
        simp [runF, evSs, CS.ev, CE.ev, CE.evT, CEs.ev, CI.ev, CO.evI, CO.evC, CT.ev, CT.slots, tgNames, tgName, tgTup, tgCons, tgNil, evAnd, evOr, evAndT, evOrT, callE, gsSeq, gsNil, gsSet, gsTgt, gsPar, gsExp, gsRet, gsRetN, gsIf, gsPut, gBin, gUn, gVar, gCon, gB, gIf, gTru, gAndT, gOrT, gNotT, gAnd, gOr, gNot, gChain, gNil, gCons, gCall, gTup, gLst, gLstM, gDisp, gSl, gNoPart, gPart, gMeth, giVal, giRng1, giRng2, giZip, giEnu, srcOf, asInt, asBool, startR, COp.ev, BOp.ev, Blt.ev, Mth.ev, Mth.ty, lift2, lift1, liftC1, peek, toD, toDs, ixV, dctAt, ixL, ixT, give, Out.bind, bindS, OutS.then, finR, finV, addI, subI, cmpII, isaD, negI, intI, intB, lenV, lenLi, lenTu, tupL, tupT, lisL, lisT, PyData.isInt, PyData.isBool, PyData.isTuple, PyData.isList, PyData.isStr, itemsOf, truV, truD, PyData.truthy, sizeLine_eq, slD, putV, keyD, isNoneV, fn, s2])
    exact ⟨q2, q1⟩
  have outer : ∃ ρ' M', gsFor (giVal (gVar 2)) (tgName 3) (evSs fn [.forr (.nm 4 "_law_b" ⟨0, 0, 0, 0⟩) (.val (.var 2 "_law_lots" ⟨0, 0, 0, 0⟩)) [.ife (.not (.call 15 "_law_check_two" (.var 3 "_law_a" ⟨0, 0, 0, 0⟩) (.cons (.var 4 "_law_b" ⟨0, 0, 0, 0⟩) .nil) ⟨0, 0, 0, 0⟩ ⟨0, 0, 0, 0⟩) ⟨0, 0, 0, 0⟩) [.ret (.bl false 0 ⟨0, 0, 0, 0⟩) ⟨0, 0, 0, 0⟩] [] ⟨0, 0, 0, 0⟩] ⟨0, 0, 0, 0⟩,
      .ife (.not (.call 16 "_law_check_three" (.var 3 "_law_a" ⟨0, 0, 0, 0⟩) (.cons (.ix (.var 2 "_law_lots" ⟨0, 0, 0, 0⟩) (.call 13 "_law_draw" (.var 1 "_law_reader_here" ⟨0, 0, 0, 0⟩) (.cons (.int 9 0 ⟨0, 0, 0, 0⟩) .nil) ⟨0, 0, 0, 0⟩ ⟨0, 0, 0, 0⟩) ⟨0, 0, 0, 0⟩) (.cons (.ix (.var 2 "_law_lots" ⟨0, 0, 0, 0⟩) (.call 13 "_law_draw" (.var 1 "_law_reader_here" ⟨0, 0, 0, 0⟩) (.cons (.int 9 0 ⟨0, 0, 0, 0⟩) .nil) ⟨0, 0, 0, 0⟩ ⟨0, 0, 0, 0⟩) ⟨0, 0, 0, 0⟩) .nil)) ⟨0, 0, 0, 0⟩ ⟨0, 0, 0, 0⟩) ⟨0, 0, 0, 0⟩) [.ret (.bl false 0 ⟨0, 0, 0, 0⟩) ⟨0, 0, 0, 0⟩] [] ⟨0, 0, 0, 0⟩])
      [some (scriptD ns), some (.ref 0), some lots, none, none, none, none] M2 = .nx ρ' M' ∧ ∃ va vb, ρ' = [some (scriptD ns), some (.ref 0), some lots, va, vb, none, none] ∧ Rd (18 + 2 * (9 : Nat)) M' := by
    have hlen : ((rs.map F).map Vl.d).length = 9 := by rw [List.length_map, List.length_map, hl]
    rw [← hlen]
    refine for_inv (src := .lst lots) (by simp [runF, evSs, CS.ev, CE.ev, CE.evT, CEs.ev, CI.ev, CO.evI, CO.evC, CT.ev, CT.slots, tgNames, tgName, tgTup, tgCons, tgNil, evAnd, evOr, evAndT, evOrT, callE, gsSeq, gsNil, gsSet, gsTgt, gsPar, gsExp, gsRet, gsRetN, gsIf, gsPut, gBin, gUn, gVar, gCon, gB, gIf, gTru, gAndT, gOrT, gNotT, gAnd, gOr, gNot, gChain, gNil, gCons, gCall, gTup, gLst, gLstM, gDisp, gSl, gNoPart, gPart, gMeth, giVal, giRng1, giRng2, giZip, giEnu, srcOf, asInt, asBool, startR, COp.ev, BOp.ev, Blt.ev, Mth.ev, Mth.ty, lift2, lift1, liftC1, peek, toD, toDs, ixV, dctAt, ixL, ixT, give, Out.bind, bindS, OutS.then, finR, finV, addI, subI, cmpII, isaD, negI, intI, intB, lenV, lenLi, lenTu, tupL, tupT, lisL, lisT, PyData.isInt, PyData.isBool, PyData.isTuple, PyData.isList, PyData.isStr, itemsOf, truV, truD, PyData.truthy, sizeLine_eq, slD, putV, keyD, isNoneV, lots]) (walks_lst (rs.map F) M2) (fun i ρ M' => ∃ va vb, ρ = [some (scriptD ns), some (.ref 0), some lots, va, vb, none, none] ∧ Rd (18 + 2 * (i : Nat)) M') ⟨none, none, rfl, by simpa using r2⟩ (fun i y ρ M' hy hP => ?_)
    obtain ⟨va, vb, rfl, hr⟩ := hP
    have hi := (List.getElem?_eq_some_iff.mp hy).1
    rw [hlen] at hi
    have hy := List.mem_of_getElem? hy
    rw [List.map_map] at hy
    obtain ⟨x, hx, rfl⟩ := List.mem_map.mp hy
    obtain ⟨vb', hin⟩ := inner x hx vb M'
    obtain ⟨v, Ma, ea, ra, ua, a1, a2⟩ := d_draw 3 M' 9 hr (by omega) (by decide) (by decide)
    obtain ⟨w, Mb, eb, rb, ub, w1, w2⟩ := d_draw 3 Ma 9 ra (by omega) (by decide) (by decide)
    obtain ⟨y, hy, ey⟩ := ixLk (l := rs) a1 (by rw [hl]; omega)
    obtain ⟨z, hz, ez⟩ := ixLk (l := rs) w1 (by rw [hl]; omega)
    have s3 := s_three 0 Mb (hrs x hx) (hrs y hy) (hrs z hz)
    refine ⟨_, rfl, _, Mb, .inl ?_, some (.d (F x)), vb', rfl, by rw [show (18 : Int) + 2 * ((i + 1 : Nat) : Int) = 18 + 2 * (i : Nat) + 1 + 1 by omega]; exact rb⟩
    refine ev_for hin (ev_skip (M1 := Mb) ?_ ev_nil)
    have ea' : Ev.run tb 4 13 [Vl.ref 0, I 9] M' = .ok (I v) Ma := ea
    have eb' : Ev.run tb 4 13 [Vl.ref 0, I 9] Ma = .ok (I w) Mb := eb
    have q1 : (gBin ixV (gVar 2) (gCall (Ev.run tb 4 13) (gCons (gVar 1) (gCons (gCon (PyData.int 9)) gNil)))) [some (scriptD ns), some (.ref 0), some lots, some (.d (F x)), vb', none, none] M' = .ok (.d (F y)) Ma := by
      simp only [gBin, gVar, gCall, gCons, gCon, gNil, List.getElem?_cons_succ, List.getElem?_cons_zero, Out.bind, ea', ixV, dctAt, lift2, peek, lots, ey, give]
    have q2 : (gBin ixV (gVar 2) (gCall (Ev.run tb 4 13) (gCons (gVar 1) (gCons (gCon (PyData.int 9)) gNil)))) [some (scriptD ns), some (.ref 0), some lots, some (.d (F x)), vb', none, none] Ma = .ok (.d (F z)) Mb := by
      simp only [gBin, gVar, gCall, gCons, gCon, gNil, List.getElem?_cons_succ, List.getElem?_cons_zero, Out.bind, eb', ixV, dctAt, lift2, peek, lots, ez, give]
    show gNotT (gTru (gCall (Ev.run tb 4 16) (gCons (gVar 3) (gCons (gBin ixV (gVar 2) (gCall (Ev.run tb 4 13) (gCons (gVar 1) (gCons (gCon (PyData.int 9)) gNil)))) (gCons (gBin ixV (gVar 2) (gCall (Ev.run tb 4 13) (gCons (gVar 1) (gCons (gCon (PyData.int 9)) gNil)))) gNil))))) _ M' = _
    generalize (gBin ixV (gVar 2) (gCall (Ev.run tb 4 13) (gCons (gVar 1) (gCons (gCon (PyData.int 9)) gNil)))) = G at q1 q2
    simp only [gNotT, gTru, gCall, gCons, gVar, gNil, List.getElem?_cons_succ, List.getElem?_cons_zero, Out.bind, q1, q2, s3, truV, peek, truD, PyData.truthy, Bool.not_true]
  obtain ⟨ρ', M3, o1, va, vb, rfl, r3⟩ := outer
  obtain ⟨M4, t1, r4, u4⟩ := s_totals 1 M3 r3 (by omega)
  obtain ⟨M5, t2, r5, u5⟩ := s_totals 1 M4 r4 (by omega)
  refine ⟨M5.take 0, ?_⟩
  show Ev.run tb (4 + 1) 18 [scriptD ns] [] = _
  rw [runS 4 18 f18.F rfl, run_of rfl (o := .rt (.d (.bool true)) M5) ?_]
  · rfl
  refine ev_set (v := .ref 0) (M1 := M1) ?_ ?_
  · show gCall (Ev.run tb 4 12) (gCons (gVar 0) gNil) [some (scriptD ns), none, none, none, none, none, none] [] = _
    simp only [gCall, gCons, gVar, gNil, List.getElem?_cons_zero, Out.bind, e0, List.length_nil]
  refine ev_set (v := lots) (M1 := M2) ?_ ?_
  · show gBin (lift2 addD) (gLst (gCons (gTup (gCons (gCon (.int 0)) (gCons (gCon (.int 1)) gNil))) (gCons (gTup (gCons (gCon (.int 1)) (gCons (gCon (.int 1)) gNil))) (gCons (gTup (gCons (gUn (lift1 negD) (gCon (.int 1))) (gCons (gCon (.int 3)) gNil))) gNil))))
      (gLc false [5, 6] (giRng1 (gCons (gCon (PyData.int 6)) gNil)) (tgName 6) gYes (gCall (Ev.run tb 4 14) (gCons (gVar 1) gNil))) ρ1 M1 = _
    have gl : gLst (gCons (gTup (gCons (gCon (.int 0)) (gCons (gCon (.int 1)) gNil))) (gCons (gTup (gCons (gCon (.int 1)) (gCons (gCon (.int 1)) gNil))) (gCons (gTup (gCons (gUn (lift1 negD) (gCon (.int 1))) (gCons (gCon (.int 3)) gNil))) gNil))) ρ1 M1 = .ok (.d (.list [.tuple [.int 0, .int 1], .tuple [.int 1, .int 1], .tuple [.int (-1), .int 3]])) M1 := by
      simp [runF, evSs, CS.ev, CE.ev, CE.evT, CEs.ev, CI.ev, CO.evI, CO.evC, CT.ev, CT.slots, tgNames, tgName, tgTup, tgCons, tgNil, evAnd, evOr, evAndT, evOrT, callE, gsSeq, gsNil, gsSet, gsTgt, gsPar, gsExp, gsRet, gsRetN, gsIf, gsPut, gBin, gUn, gVar, gCon, gB, gIf, gTru, gAndT, gOrT, gNotT, gAnd, gOr, gNot, gChain, gNil, gCons, gCall, gTup, gLst, gLstM, gDisp, gSl, gNoPart, gPart, gMeth, giVal, giRng1, giRng2, giZip, giEnu, srcOf, asInt, asBool, startR, COp.ev, BOp.ev, Blt.ev, Mth.ev, Mth.ty, lift2, lift1, liftC1, peek, toD, toDs, ixV, dctAt, ixL, ixT, give, Out.bind, bindS, OutS.then, finR, finV, addI, subI, cmpII, isaD, negI, intI, intB, lenV, lenLi, lenTu, tupL, tupT, lisL, lisT, PyData.isInt, PyData.isBool, PyData.isTuple, PyData.isList, PyData.isStr, itemsOf, truV, truD, PyData.truthy, sizeLine_eq, slD, putV, keyD, isNoneV]
    simp only [gBin, gl, Out.bind, g1, lift2, peek, hlots, give, lots]
  refine ev_for o1 ?_
  refine ev_ret ?_
  have t1' : Ev.run tb 4 17 [Vl.ref 0] M3 = .ok (.d (.bool true)) M4 := t1
  have t2' : Ev.run tb 4 17 [Vl.ref 0] M4 = .ok (.d (.bool true)) M5 := t2
  simp only [CE.ev, evAnd, CEs.ev, callE, gAnd, gCall, gCons, gVar, gNil, List.getElem?_cons_succ, List.getElem?_cons_zero, Out.bind, t1', t2', truV, peek, truD, PyData.truthy, if_true]
end Law

open PySem PySem.W PySem.Calls PyProof.Rows
theorem PySem.Challenge.cw_thinspans_k05_whole_fractions_holds : PySem.Challenge.rw_thinspans_k05_whole_fractions.Holds := by
  w_on; o_law
  refine HandSHeadRun.head_any (r := OpenLaw.row PySem.Challenge.rw_thinspans_k05_whole_fractions) (q := view (OpenLaw.row PySem.Challenge.rw_thinspans_k05_whole_fractions).prog [25]) (H := Law.hk) (ob := Law.ob) (M := 20000) (loose := Law.loose) (d := HandSHeadRun.topDef (OpenLaw.row PySem.Challenge.rw_thinspans_k05_whole_fractions).prog 25) (kwd := []) Law.ob_eq
    (by kernel_rfl) (fun s => by kernel_rfl) Law.run0 (by kernel_rfl) (by kernel_rfl) (by kernel_rfl) (by rfl) (by first | assumption | decide +kernel) (by decide +kernel) ⟨rfl, rfl, rfl, rfl, rfl, by decide +kernel⟩ ?hw ?hc
  case hw => w_witness2
  case hc =>
    refine L2.walk_ofE (l := PySem.Challenge.rw_thinspans_k05_whole_fractions) (n := 63) (k := Law.lvl + 1) (x := "_law_script") (CX := Ev.CXa) rfl (by decide) (by kernel_rfl) ⟨rfl, by decide, by decide⟩ ?F (fun _ _ _ _ z => by obtain ⟨_, _, _, z⟩ := z; exact z)
    intro w mg fa h Y G hmg0
    obtain ⟨K, KX, c⟩ := Y
    have hmg : mg ("law" : PySem.Str) = some (.ref fa) := by
      have e : (HandSHeadRun.topDef (OpenLaw.row PySem.Challenge.rw_thinspans_k05_whole_fractions).prog 25).name = ("law" : PySem.Str) := by kernel_rfl
      rw [← e]
      exact hmg0
    exact Ev.law_facts (P := (PySem.Challenge.rw_thinspans_k05_whole_fractions).prog) (w := w) KX G c Law.fn_eq rfl Law.okT Law.bs (j := 18) (F := Law.f18.F) rfl rfl hmg Law.law_run

