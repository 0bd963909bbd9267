import PyProof.Rows.All
import Wide.All
import OpenK.AllK
import Wide.FinOn
import HandS.ForMost
import HandS.Exc
import HandS.ExcOwn
import HandS.WordsExc
import HandS.Star
import HandS.IsInst
import HandS.Deep
import HandS.TupAny
import HandS.TupMul
import HandS.Conv
import HandS.Zip
import HandS.Flow
import HandS.Style
import HandS.HeadHook1
import HandS.HeadHook2
import KE.SortData
import KE.DataCmp
import KE.KeyNested
import HandS.TupSets
import KE.KDictKeyed
import HandS.SetFor
import HandS.ExcInit
import KE.KExcSuper
import KE.KExcInit
import KE.KSuper
import HandS.ExcIs
import HandS.ExcField
import KE.KDictPairs
import HandS.TryOnly
import KE.GoesMore
import KE.GoesZip
import KE.GoesEnum
import HandS.TryMany
import KE.KExcIs
import HandS.HeadHook3
import HandS.Head0
import HandS.Head1
import HandS.Head2
import HandS.HeadEnd
import PySem.Challenge.RW_blendworlds_k02_what_is_told_of_books
set_option Elab.async false
set_option linter.all false
set_option maxRecDepth 100000
namespace Mp
open PySem PySem.Spec PyProof.Rows L2

/-! ### values, memory, results -/
/-- a value at the outermost: data, a changing list, a dict that stands -/
inductive MV where
  | d (x : PyData)
  | c (k : Nat)
  | t (kvs : List (Int × PyData))
  | s (ns : List Int)
abbrev Mem := List (List PyData)
inductive Res (α : Type) where
  | ok (a : α) (m : Mem)
  | ex (c : Str) (x : Option PyData) (m : Mem)
  | bad
def Res.bind {α β : Type} (r : Res α) (k : α → Mem → Res β) : Res β := match r with
  | .ok a m => k a m
  | .ex c x m => .ex c x m
  | .bad => .bad
@[simp] theorem Res.bind_ok {α β : Type} (a : α) (m : Mem) (k : α → Mem → Res β) : (Res.ok a m).bind k = k a m := (rfl)
@[simp] theorem Res.bind_ex {α β : Type} (c : Str) (x : Option PyData) (m : Mem) (k : α → Mem → Res β) : (Res.ex c x m : Res α).bind k = .ex c x m := (rfl)
@[simp] theorem Res.bind_bad {α β : Type} (k : α → Mem → Res β) : (Res.bad : Res α).bind k = .bad := (rfl)

/-! ### data as it stands -/
theorem seqT {K : PySem.W.Frag} {H H' : Hp} {a : Addr} {xs : List V} (e : Same H H') (h : SqT K H a xs) : SqT K H' a xs := by
  rcases h with (h | ⟨o, h⟩) | h
  · exact .inl (.inl (e _ _ h))
  · exact .inl (.inr ⟨o, e _ _ h⟩)
  · exact .inr h
mutual
inductive Rp (K : PySem.W.Frag) (H : Hp) : V → PyData → Prop
  | non : Rp K H .non .none
  | bl (b : Bool) : Rp K H (.bl b) (.bool b)
  | int (i : Int) : Rp K H (.int i) (.int i)
  | str (x : Str) : Rp K H (.str x) (.str x)
  | lst {a : Addr} {xs : List V} {ds : List PyData} : H a = some (.lst xs) → RpAll K H xs ds → Rp K H (.ref a) (.list ds)
  | tup {a : Addr} {xs : List V} {ds : List PyData} : SqT K H a xs → RpAll K H xs ds → Rp K H (.ref a) (.tuple ds)
inductive RpAll (K : PySem.W.Frag) (H : Hp) : List V → List PyData → Prop
  | nil : RpAll K H [] []
  | cons {v : V} {vs : List V} {d : PyData} {ds : List PyData} : Rp K H v d → RpAll K H vs ds → RpAll K H (v :: vs) (d :: ds)
end
mutual
theorem Rp.dp {K : PySem.W.Frag} {H : Hp} : ∀ (d : PyData) (v : V), Rp K H v d → Dp K H v d
  | .none, _, h => by cases h; exact .non
  | .bool _, _, h => by cases h; exact .bl _
  | .int _, _, h => by cases h; exact .int _
  | .str _, _, h => by cases h; exact .str _
  | .list ds, _, h => by cases h with | lst a b => exact .lst (SqL.of a) (RpAll.dp ds _ b)
  | .tuple ds, _, h => by cases h with | tup a b => exact .tup a (RpAll.dp ds _ b)
  | .dict _, _, h => by cases h
theorem RpAll.dp {K : PySem.W.Frag} {H : Hp} : ∀ (ds : List PyData) (vs : List V), RpAll K H vs ds → DpAll K H vs ds
  | [], _, h => by cases h; exact .nil
  | d :: ds, _, h => by cases h with | cons a b => exact .cons (Rp.dp d _ a) (RpAll.dp ds _ b)
end
mutual
theorem dpUp {K : PySem.W.Frag} {H H' : Hp} (s : Same H H') : ∀ (d : PyData) (v : V), Rp K H v d → Rp K H' v d
  | .none, _, h => by cases h; exact .non
  | .bool _, _, h => by cases h; exact .bl _
  | .int _, _, h => by cases h; exact .int _
  | .str _, _, h => by cases h; exact .str _
  | .list ds, _, h => by cases h with | lst a b => exact .lst (s _ _ a) (daUp s ds _ b)
  | .tuple ds, _, h => by cases h with | tup a b => exact .tup (seqT s a) (daUp s ds _ b)
  | .dict _, _, h => by cases h
theorem daUp {K : PySem.W.Frag} {H H' : Hp} (s : Same H H') : ∀ (ds : List PyData) (vs : List V), RpAll K H vs ds → RpAll K H' vs ds
  | [], _, h => by cases h; exact .nil
  | d :: ds, _, h => by cases h with | cons a b => exact .cons (dpUp s d _ a) (daUp s ds _ b)
end
section
variable {K : PySem.W.Frag} {H : Hp}
theorem daLen : ∀ {vs : List V} {ds : List PyData}, RpAll K H vs ds → vs.length = ds.length
  | _, [], h => by cases h; rfl
  | _, d :: ds, h => by cases h with | cons a b => simp [daLen b]
theorem daApp : ∀ {vs ws : List V} {ds es : List PyData}, RpAll K H vs ds → RpAll K H ws es → RpAll K H (vs ++ ws) (ds ++ es)
  | _, _, [], _, h, g => by cases h; exact g
  | _, _, d :: ds, _, h, g => by cases h with | cons a b => exact .cons a (daApp b g)
theorem daGet : ∀ {vs : List V} {ds : List PyData} {i : Nat} {v : V}, RpAll K H vs ds → vs[i]? = some v → ∃ d, ds[i]? = some d ∧ Rp K H v d
  | _, [], _, _, h, e => by cases h; simp at e
  | _, d :: ds, 0, v, h, e => by cases h with | cons a b => simp at e; subst e; exact ⟨d, rfl, a⟩
  | _, d :: ds, i + 1, v, h, e => by cases h with | cons a b => simp at e; simpa using daGet b e
theorem daGetD : ∀ {vs : List V} {ds : List PyData} {i : Nat} {d : PyData}, RpAll K H vs ds → ds[i]? = some d → ∃ v, vs[i]? = some v ∧ Rp K H v d
  | _, [], _, _, h, e => by simp at e
  | _, d :: ds, 0, v, h, e => by cases h with | cons a b => simp at e; subst e; exact ⟨_, rfl, a⟩
  | _, d :: ds, i + 1, v, h, e => by cases h with | cons a b => simp at e; simpa using daGetD b e
theorem daTake : ∀ {vs : List V} {ds : List PyData} (n : Nat), RpAll K H vs ds → RpAll K H (vs.take n) (ds.take n)
  | _, [], n, h => by cases h; simp; exact .nil
  | _, d :: ds, 0, h => by simp; exact .nil
  | _, d :: ds, n + 1, h => by cases h with | cons a b => exact .cons a (daTake n b)
theorem daDrop : ∀ {vs : List V} {ds : List PyData} (n : Nat), RpAll K H vs ds → RpAll K H (vs.drop n) (ds.drop n)
  | _, [], n, h => by cases h; simp; exact .nil
  | _, d :: ds, 0, h => h
  | _, d :: ds, n + 1, h => by cases h with | cons a b => exact daDrop n b
theorem daSet : ∀ {vs : List V} {ds : List PyData} (i : Nat) {v : V} {d : PyData}, RpAll K H vs ds → Rp K H v d → RpAll K H (vs.set i v) (ds.set i d)
  | _, [], i, v, d, h, g => by cases h; exact .nil
  | _, e :: ds, 0, v, d, h, g => by cases h with | cons a b => exact .cons g b
  | _, e :: ds, i + 1, v, d, h, g => by cases h with | cons a b => exact .cons a (daSet i b g)
theorem daErase : ∀ {vs : List V} {ds : List PyData} (i : Nat), RpAll K H vs ds → RpAll K H (vs.eraseIdx i) (ds.eraseIdx i)
  | _, [], i, h => by cases h; exact .nil
  | _, e :: ds, 0, h => by cases h with | cons a b => exact b
  | _, e :: ds, i + 1, h => by cases h with | cons a b => exact .cons a (daErase i b)
theorem daOne {vs : List V} {d : PyData} (h : RpAll K H vs [d]) : ∃ v, vs = [v] ∧ Rp K H v d := by
  cases h with | cons a b => cases b; exact ⟨_, rfl, a⟩
theorem daOf : ∀ {vs : List V} {ds : List PyData}, vs.length = ds.length → (∀ (i : Nat) (v : V) (d : PyData), vs[i]? = some v → ds[i]? = some d → Rp K H v d) → RpAll K H vs ds
  | [], [], _, _ => .nil
  | v :: vs, d :: ds, e, h => .cons (h 0 v d rfl rfl) (daOf (by simpa using e) fun i v d a b => h (i + 1) v d (by simpa using a) (by simpa using b))
  | [], _ :: _, e, _ => by simp at e
  | _ :: _, [], e, _ => by simp at e
theorem dpInt {v : V} {i : Int} (h : Rp K H v (.int i)) : v = .int i := by cases h; rfl
theorem dpBool {v : V} {b : Bool} (h : Rp K H v (.bool b)) : v = .bl b := by cases h; rfl
theorem dpStr {v : V} {x : Str} (h : Rp K H v (.str x)) : v = .str x := by cases h; rfl
theorem dpNone {v : V} (h : Rp K H v .none) : v = .non := by cases h; rfl
theorem dpTup {v : V} {ds : List PyData} (h : Rp K H v (.tuple ds)) : ∃ a vs, v = .ref a ∧ SqT K H a vs ∧ RpAll K H vs ds := by
  cases h with | tup a b => exact ⟨_, _, rfl, a, b⟩
theorem dpLst {v : V} {ds : List PyData} (h : Rp K H v (.list ds)) : ∃ a vs, v = .ref a ∧ H a = some (.lst vs) ∧ RpAll K H vs ds := by
  cases h with | lst a b => exact ⟨_, _, rfl, a, b⟩
end

/-! ### relations: a value, a slot, the memory -/
def keyOf (i : Int) : Key := Sum.inl i
inductive VR (K : PySem.W.Frag) (ks : List Addr) (Hz : Hp) : V → MV → Prop
  | d {v : V} {x : PyData} : Rp K Hz v x → VR K ks Hz v (.d x)
  | c {a : Addr} {k : Nat} : ks[k]? = some a → VR K ks Hz (.ref a) (.c k)
  | t {a : Addr} {kvs : List (Int × PyData)} {vs : List V} : Hz a = some (.dK ((kvs.map fun p => keyOf p.1).zip vs)) → RpAll K Hz vs (kvs.map (·.2)) → (kvs.map (·.1)).Nodup → VR K ks Hz (.ref a) (.t kvs)
  | s {a : Addr} {ns : List Int} : SqL K Hz a (ns.map V.int) → VR K ks Hz (.ref a) (.s ns)
structure CR (K : PySem.W.Frag) (ks : List Addr) (m : Mem) (Hz H : Hp) : Prop where
  zh : Same Hz H
  len : ks.length = m.length
  nd : ks.Nodup
  at_ : ∀ (k : Nat) (a : Addr) (xs : List PyData), ks[k]? = some a → m[k]? = some xs → Hz a = none ∧ ∃ vs, H a = some (.lst vs) ∧ RpAll K Hz vs xs
structure Ext (ks : List Addr) (Hz H : Hp) (ks' : List Addr) (Hz' H' : Hp) : Prop where
  pre : ∃ t, ks' = ks ++ t
  zs : Same Hz Hz'
  fr : ∀ b o, H b = some o → b ∉ ks → H' b = some o
  nw : ∀ b, b ∈ ks' → b ∈ ks ∨ H b = none
  nz : ∀ b o, Hz' b = some o → Hz b = some o ∨ H b = none ∨ b ∈ ks
theorem Ext.refl (ks : List Addr) (Hz H : Hp) : Ext ks Hz H ks Hz H := ⟨⟨[], by simp⟩, Same.refl _, fun _ _ e _ => e, fun _ e => .inl e, fun _ _ e => .inl e⟩
theorem Ext.trans {ks ks1 ks2 : List Addr} {Hz H Hz1 H1 Hz2 H2 : Hp} (a : Ext ks Hz H ks1 Hz1 H1) (b : Ext ks1 Hz1 H1 ks2 Hz2 H2) : Ext ks Hz H ks2 Hz2 H2 where
  pre := by
    obtain ⟨t, rfl⟩ := a.pre
    obtain ⟨u, rfl⟩ := b.pre
    exact ⟨t ++ u, by simp⟩
  zs := a.zs.trans b.zs
  fr := fun c o e n => b.fr c o (a.fr c o e n) fun z => (a.nw c z).elim n fun q => by rw [e] at q; cases q
  nw := fun c z => by
    rcases b.nw c z with z | z
    · exact a.nw c z
    · by_cases q : c ∈ ks
      · exact .inl q
      · refine .inr ?_
        cases e : H c with
        | none => rfl
        | some o => rw [a.fr c o e q] at z; cases z
  nz := fun c o z => by
    rcases b.nz c o z with z | z | z
    · exact a.nz c o z
    · by_cases q : c ∈ ks
      · exact .inr (.inr q)
      · refine .inr (.inl ?_)
        cases e : H c with
        | none => rfl
        | some o => rw [a.fr c o e q] at z; cases z
    · rcases a.nw c z with q | q
      · exact .inr (.inr q)
      · exact .inr (.inl q)
theorem VR.up {K : PySem.W.Frag} {ks ks' : List Addr} {Hz Hz' H H' : Hp} (e : Ext ks Hz H ks' Hz' H') {v : V} {x : MV} (h : VR K ks Hz v x) : VR K ks' Hz' v x := by
  cases h with
  | d a => exact .d (dpUp e.zs _ _ a)
  | c a =>
    obtain ⟨t, rfl⟩ := e.pre
    refine .c ?_
    rw [List.getElem?_append_left (List.getElem?_eq_some_iff.mp a).1]
    exact a
  | t a b n => exact .t (e.zs _ _ a) (daUp e.zs _ _ b) n
  | s a => exact .s (e.zs.seq a)
/-- slots -/
inductive Slot where
  | un
  | v (x : MV)
  | own (xs : List PyData)
inductive SR (K : PySem.W.Frag) (ks : List Addr) (Hz H : Hp) : Slot → Option (Option V) → Prop
  | un (o : Option (Option V)) : SR K ks Hz H .un o
  | v {v : V} {x : MV} : VR K ks Hz v x → SR K ks Hz H (.v x) (some (some v))
  | own {p : Addr} {vs : List V} {xs : List PyData} : H p = some (.lst vs) → RpAll K Hz vs xs → Hz p = none → p ∉ ks → SR K ks Hz H (.own xs) (some (some (.ref p)))
abbrev Env' := List Slot
structure ER (K : PySem.W.Frag) (ks : List Addr) (Hz H : Hp) (r : Env') (σ : L2.St) : Prop where
  len : r.length = σ.length
  at_ : ∀ (i : Nat) (s : Slot), r[i]? = some s → SR K ks Hz H s σ[i]?
  ds : ∀ (i j : Nat) (xs ys : List PyData), i ≠ j → r[i]? = some (.own xs) → r[j]? = some (.own ys) → σ[i]? ≠ σ[j]?
theorem ER.up {K : PySem.W.Frag} {ks ks' : List Addr} {Hz Hz' H H' : Hp} (e : Ext ks Hz H ks' Hz' H') {r : Env'} {σ : L2.St} (h : ER K ks Hz H r σ) : ER K ks' Hz' H' r σ where
  len := h.len
  at_ := fun i s q => by
    have z := h.at_ i s q
    revert z
    generalize σ[i]? = o
    intro z
    cases z with
    | un o => exact .un _
    | v a => exact .v (a.up e)
    | own a b c d =>
      refine .own (e.fr _ _ a d) (daUp e.zs _ _ b) ?_ fun z => (e.nw _ z).elim d fun q => by rw [a] at q; cases q
      cases q : Hz' _ with
      | none => rfl
      | some o =>
        rcases e.nz _ _ q with z | z | z
        · rw [c] at z; cases z
        · rw [a] at z; cases z
        · exact (d z).elim
  ds := h.ds

/-! ### behind a piece of code -/
/-- what is wanted of an exception's own value -/
def XR (K : PySem.W.Frag) (Hz H : Hp) : Option PyData → Option Addr → Prop
  | none, o => o = none
  | some (.tuple [.str f, d]), o => ∃ (a : Addr) (v : V), o = some a ∧ H a = some (.xd [(f, v)]) ∧ Rp K Hz v d
  | some _, _ => False
abbrev WX := Value → Option Addr → L2.St → Hp → Prop
def Aft {α β : Type} (K : PySem.W.Frag) (R : List Addr → Hp → Hp → β → α → Prop) (W : WX) (ks : List Addr) (Hz H : Hp) (σ : L2.St) (Q : β → Hp → Prop) : Res α → Prop
  | .ok a m => ∀ ks' Hz' H' b, Ext ks Hz H ks' Hz' H' → CR K ks' m Hz' H' → R ks' Hz' H' b a → Q b H'
  | .ex c x m => ∀ ks' Hz' H' d, Ext ks Hz H ks' Hz' H' → CR K ks' m Hz' H' → XR K Hz' H' x d → W (.ref (He.ga K c)) d σ H'
  | .bad => False
section
variable {α β γ δ : Type} {K : PySem.W.Frag} {R : List Addr → Hp → Hp → β → α → Prop} {S : List Addr → Hp → Hp → δ → γ → Prop} {W : WX} {ks ks' : List Addr} {Hz H Hz' H' : Hp} {σ : L2.St}
theorem Aft.up {Q : β → Hp → Prop} {r : Res α} (e : Ext ks Hz H ks' Hz' H') (h : Aft K R W ks Hz H σ Q r) : Aft K R W ks' Hz' H' σ Q r := by
  cases r with
  | ok a m => exact fun k2 z2 h2 b e2 c q => h k2 z2 h2 b (e.trans e2) c q
  | ex c x m => exact fun k2 z2 h2 d e2 c q => h k2 z2 h2 d (e.trans e2) c q
  | bad => exact h
/-- one piece, then another -/
theorem Aft.bind {Q : δ → Hp → Prop} {Q' : β → Hp → Prop} {r : Res α} {k : α → Mem → Res γ} (h : Aft K S W ks Hz H σ Q (r.bind k))
    (f : ∀ a m ks' Hz' H' b, r = .ok a m → Ext ks Hz H ks' Hz' H' → CR K ks' m Hz' H' → R ks' Hz' H' b a → Aft K S W ks' Hz' H' σ Q (k a m) → Q' b H') : Aft K R W ks Hz H σ Q' r := by
  cases r with
  | ok a m => exact fun k2 z2 h2 b e c q => f a m k2 z2 h2 b rfl e c q (Aft.up e h)
  | ex c x m => exact h
  | bad => exact h
theorem Aft.mono {Q Q' : β → Hp → Prop} {r : Res α} (h : Aft K R W ks Hz H σ Q r) (f : ∀ b H', Q b H' → Q' b H') : Aft K R W ks Hz H σ Q' r := by
  cases r with
  | ok a m => exact fun k2 z2 h2 b e c q => f b h2 (h k2 z2 h2 b e c q)
  | ex c x m => exact h
  | bad => exact h
end
/-- a value's relation, a list's -/
abbrev RV (K : PySem.W.Frag) : List Addr → Hp → Hp → V → MV → Prop := fun ks Hz _ v x => VR K ks Hz v x
inductive VRs (K : PySem.W.Frag) (ks : List Addr) (Hz : Hp) : List V → List MV → Prop
  | nil : VRs K ks Hz [] []
  | cons {v : V} {vs : List V} {x : MV} {xs : List MV} : VR K ks Hz v x → VRs K ks Hz vs xs → VRs K ks Hz (v :: vs) (x :: xs)
abbrev RVs (K : PySem.W.Frag) : List Addr → Hp → Hp → List V → List MV → Prop := fun ks Hz _ v x => VRs K ks Hz v x
abbrev RB : List Addr → Hp → Hp → Bool → Bool → Prop := fun _ _ _ v x => v = x
theorem VRs.up {K : PySem.W.Frag} {ks ks' : List Addr} {Hz Hz' H H' : Hp} (e : Ext ks Hz H ks' Hz' H') : ∀ {v : List V} {x : List MV}, VRs K ks Hz v x → VRs K ks' Hz' v x
  | _, _, .nil => .nil
  | _, _, .cons a b => .cons (a.up e) (VRs.up e b)

/-! ### new things -/
section
variable {K : PySem.W.Frag} {ks : List Addr} {m : Mem} {Hz H : Hp} {p : Addr}
theorem CR.znone (c : CR K ks m Hz H) (n : H p = none) : Hz p = none := by
  cases q : Hz p with
  | none => rfl
  | some o => rw [c.zh p o q] at n; cases n
theorem CR.kin (c : CR K ks m Hz H) {k : Nat} {xs : List PyData} (h : m[k]? = some xs) : ∃ a vs, ks[k]? = some a ∧ Hz a = none ∧ H a = some (.lst vs) ∧ RpAll K Hz vs xs := by
  have hk : k < ks.length := by rw [c.len]; exact (List.getElem?_eq_some_iff.mp h).1
  obtain ⟨a, vs, b, d⟩ := c.at_ k ks[k] xs (List.getElem?_eq_getElem hk) h
  exact ⟨ks[k], vs, List.getElem?_eq_getElem hk, a, b, d⟩
theorem CR.tr (c : CR K ks m Hz H) {a : Addr} (h : a ∈ ks) : H a ≠ none := fun z => by
  obtain ⟨k, hk, e⟩ := List.mem_iff_getElem.mp h
  have e' : ks[k]? = some a := by rw [List.getElem?_eq_getElem hk, e]
  have hm : k < m.length := by rw [← c.len]; exact hk
  obtain ⟨_, vs, q, _⟩ := c.at_ k a m[k] e' (List.getElem?_eq_getElem hm)
  rw [q] at z; cases z
theorem CR.nin (c : CR K ks m Hz H) (n : H p = none) : p ∉ ks := fun z => c.tr z n
/-- a new object that stands still -/
theorem Ext.new (c : CR K ks m Hz H) (n : H p = none) (o : HO) : Ext ks Hz H ks (upd Hz p o) (upd H p o) where
  pre := ⟨[], by simp⟩
  zs := fun b u e => by
    rw [upd_ne (ne_of_none e (c.znone n))]; exact e
  fr := fun b u e _ => by rw [upd_ne (ne_of_none e n)]; exact e
  nw := fun _ e => .inl e
  nz := fun b u e => by
    by_cases q : b = p
    · subst q; exact .inr (.inl n)
    · rw [upd_ne q] at e; exact .inl e
theorem CR.new (c : CR K ks m Hz H) (n : H p = none) (o : HO) : CR K ks m (upd Hz p o) (upd H p o) where
  zh := fun b u e => by
    by_cases q : b = p
    · subst q; rw [upd_same] at e ⊢; exact e
    · rw [upd_ne q] at e ⊢; exact c.zh _ _ e
  len := c.len
  nd := c.nd
  at_ := fun k a xs h1 h2 => by
    obtain ⟨z, vs, q, r⟩ := c.at_ k a xs h1 h2
    have ne : a ≠ p := ne_of_none q n
    refine ⟨by rw [upd_ne ne]; exact z, vs, by rw [upd_ne ne]; exact q, daUp (Ext.new c n o).zs _ _ r⟩
/-- a new object that may change yet -/
theorem Ext.fresh (n : H p = none) (o : HO) : Ext ks Hz H ks Hz (upd H p o) where
  pre := ⟨[], by simp⟩
  zs := Same.refl _
  fr := fun b u e _ => by rw [upd_ne (ne_of_none e n)]; exact e
  nw := fun _ e => .inl e
  nz := fun b u e => .inl e
theorem CR.fresh (c : CR K ks m Hz H) (n : H p = none) (o : HO) : CR K ks m Hz (upd H p o) where
  zh := fun b u e => by rw [upd_ne (ne_of_none (c.zh _ _ e) n)]; exact c.zh _ _ e
  len := c.len
  nd := c.nd
  at_ := fun k a xs h1 h2 => by
    obtain ⟨z, vs, q, r⟩ := c.at_ k a xs h1 h2
    exact ⟨z, vs, by rw [upd_ne (ne_of_none q n)]; exact q, r⟩
/-- a new cell -/
theorem Ext.cell (n : H p = none) (o : HO) : Ext ks Hz H (ks ++ [p]) Hz (upd H p o) where
  pre := ⟨[p], rfl⟩
  zs := Same.refl _
  fr := fun b u e _ => by rw [upd_ne (ne_of_none e n)]; exact e
  nw := fun b e => by
    rcases List.mem_append.mp e with e | e
    · exact .inl e
    · rw [List.mem_singleton.mp e]; exact .inr n
  nz := fun b u e => .inl e
theorem CR.cell (c : CR K ks m Hz H) (n : H p = none) {vs : List V} {xs : List PyData} (d : RpAll K Hz vs xs) : CR K (ks ++ [p]) (m ++ [xs]) Hz (upd H p (.lst vs)) where
  zh := (c.fresh n _).zh
  len := by simp [c.len]
  nd := by
    rw [List.nodup_append]
    refine ⟨c.nd, by simp, fun a ha b hb e => ?_⟩
    rw [List.mem_singleton.mp hb] at e
    exact c.nin n (e ▸ ha)
  at_ := fun k a ys h1 h2 => by
    by_cases q : k < ks.length
    · rw [List.getElem?_append_left q] at h1
      rw [List.getElem?_append_left (by rw [← c.len]; exact q)] at h2
      exact (c.fresh n _).at_ k a ys h1 h2
    · have q1 : k = ks.length := by
        have := (List.getElem?_eq_some_iff.mp h1).1
        simp at this; omega
      have q2 : k = m.length := by rw [← c.len]; exact q1
      subst q1
      rw [List.getElem?_append_right (Nat.le_refl _)] at h1
      simp at h1; subst h1
      rw [q2, List.getElem?_append_right (Nat.le_refl _)] at h2
      simp at h2; subst h2
      exact ⟨c.znone n, vs, upd_same, d⟩
/-- a cell is stored to -/
theorem Ext.put {a : Addr} (h : a ∈ ks) (o : HO) : Ext ks Hz H ks Hz (upd H a o) where
  pre := ⟨[], by simp⟩
  zs := Same.refl _
  fr := fun b u e q => by
    have nb : b ≠ a := fun z => q (by rw [z]; exact h)
    rw [upd_ne nb]; exact e
  nw := fun _ e => .inl e
  nz := fun b u e => .inl e
theorem CR.put (c : CR K ks m Hz H) {k : Nat} {a : Addr} {ys : List PyData} (h : ks[k]? = some a) (hm : m[k]? = some ys) {vs : List V} {xs : List PyData} (d : RpAll K Hz vs xs) : CR K ks (m.set k xs) Hz (upd H a (.lst vs)) where
  zh := fun b u e => by
    have : b ≠ a := fun z => by
      obtain ⟨q, _⟩ := c.at_ k a ys h hm
      rw [z, q] at e; cases e
    rw [upd_ne this]; exact c.zh _ _ e
  len := by simp [c.len]
  nd := c.nd
  at_ := fun j b zs h1 h2 => by
    by_cases q : j = k
    · subst q
      rw [h] at h1; cases h1
      rw [List.getElem?_set_self (List.getElem?_eq_some_iff.mp hm).1] at h2
      cases h2
      exact ⟨(c.at_ j a ys h hm).1, vs, upd_same, d⟩
    · rw [List.getElem?_set_ne (Ne.symm q)] at h2
      have ne : b ≠ a := fun z => q (by
        subst z
        obtain ⟨i1, e1⟩ := List.getElem?_eq_some_iff.mp h1
        obtain ⟨i2, e2⟩ := List.getElem?_eq_some_iff.mp h
        exact (List.getElem_inj c.nd).mp (e1.trans e2.symm))
      obtain ⟨z, ws, w1, w2⟩ := c.at_ j b zs h1 h2
      exact ⟨z, ws, by rw [upd_ne ne]; exact w1, w2⟩
/-- a list that may change comes to stand still -/
theorem CR.still (c : CR K ks m Hz H) {o : HO} (h : H p = some o) (n : p ∉ ks) : CR K ks m (upd Hz p o) H where
  zh := fun b u e => by
    by_cases q : b = p
    · subst q; rw [upd_same] at e; cases e; exact h
    · rw [upd_ne q] at e; exact c.zh _ _ e
  len := c.len
  nd := c.nd
  at_ := fun k a xs h1 h2 => by
    obtain ⟨z, vs, q, r⟩ := c.at_ k a xs h1 h2
    have ne : a ≠ p := fun e => n (e ▸ List.mem_of_getElem? h1)
    refine ⟨by rw [upd_ne ne]; exact z, vs, q, daUp (fun b u e => ?_) _ _ r⟩
    by_cases q : b = p
    · subst q
      have := c.zh _ _ e
      rw [h] at this; cases this
      exact upd_same
    · rw [upd_ne q]; exact e
end
end Mp

set_option Elab.async false
set_option linter.all false
set_option maxRecDepth 100000
set_option maxHeartbeats 2000000
namespace Mp
open PySem PySem.Spec PyProof.Rows L2
/-! ### keys of numbers and tuples, nested -/
mutual
def noTxt : NestedKey → Bool
  | .none => true
  | .num _ => true
  | .text _ => false
  | .tup ks => noTxts ks
def noTxts : List NestedKey → Bool
  | [] => true
  | k :: ks => noTxt k && noTxts ks
end
/-- the tuple at b is the key k -/
def KAt (h : Heap) (k : NestedKey) (b : Addr) : Prop := NestedIs h k (.ref b) ∧ k.depth ≤ 8 ∧ noTxt k = true
section
variable {P : Program} {w : World} {A : Around} {E : Value → Shared → Prop} {s : Shared}
theorem KAt.mv {h h' : Heap} {k : NestedKey} {b : Addr} (x : KAt h k b) (f : ∀ c o vs n, h.get? c = some o → o.data = .seq vs n → h'.get? c = some o) : KAt h' k b := ⟨NestedIs.at f _ _ x.1, x.2⟩
theorem KAt.nd {h : Heap} {k j : NestedKey} {b : Addr} (x : KAt h k b) (y : KAt h j b) : k = j := NestedIs.inj _ _ _ x.1 y.1
abbrev kh (w : World) (k : NestedKey) : Int := k.hash w
theorem ofc_flat (n : Nat) {v : Value} (h : ∀ b, v ≠ .ref b) : ofAClassStatement n v = pure false := by
  cases v <;> first | rfl | (exact absurd rfl (h _)) | (cases n <;> rfl)
mutual
/-- nothing of a class statement stands in a key -/
theorem ofc_key : ∀ (k : NestedKey) (n : Nat) (v : Value) {Q : Bool → Shared → Prop}, NestedIs s.heap k v → k.depth ≤ n → Q false s → wpAny (model P w) A (ofAClassStatement n v) Q E s
  | .none, n, v, Q, x, _, q => by
    cases x
    rw [ofc_flat n (by intro _ e; cases e)]
    exact wpAny_pure q
  | .num i, n, v, Q, x, _, q => by
    cases x <;> (rw [ofc_flat n (by intro _ e; cases e)]; exact wpAny_pure q)
  | .text i, n, v, Q, x, _, q => by
    cases x
    rw [ofc_flat n (by intro _ e; cases e)]
    exact wpAny_pure q
  | .tup ks, n, v, Q, x, hn, q => by
    cases x with
    | @tup b o vs m _ ho hc hd hk =>
      cases n with
      | zero => simp [NestedKey.depth] at hn
      | succ n =>
        unfold ofAClassStatement
        refine wpAny_bind (wpAny_typeOf (⟨o, ho, hc⟩ : s.TypeIs (.ref b) "tuple") ?_)
        dsimp only
        rw [show (("tuple" : String) == "tuple") = true from rfl]
        simp only [if_true]
        refine wpAny_bind (wpAny_pure ?_)
        simp only [Bool.not_true, Bool.false_eq_true, if_false]
        refine wpAny_bind (wpAny_seqItems ho hd ?_)
        dsimp only
        refine wpAny_bind ?_
        rw [← Array.forIn_toList]
        simp only [NestedKey.depth] at hn
        exact ofc_keys ks n vs.toList hk (by omega) (wpAny_pure q)
theorem ofc_keys : ∀ (ks : List NestedKey) (n : Nat) (vs : List Value) {R : Option Bool × Unit → Shared → Prop}, NestedAll s.heap ks vs → NestedKey.depthAll ks ≤ n → R (none, ()) s →
    wpAny (model P w) A (forIn vs ((none, ()) : Option Bool × Unit) fun y r => do
      if ← ofAClassStatement n y then pure (ForInStep.done (some true, ())) else pure (ForInStep.yield (none, ()))) R E s
  | [], n, vs, Q, x, _, q => by
    cases x
    rw [List.forIn_nil]
    exact wpAny_pure q
  | k :: ks, n, vs, Q, x, hn, q => by
    cases x with
    | cons x1 x2 =>
      simp only [NestedKey.depthAll] at hn
      rw [List.forIn_cons]
      refine wpAny_bind (wpAny_bind (ofc_key k n _ x1 (by omega) ?_))
      simp only [Bool.false_eq_true, if_false]
      exact wpAny_pure (ofc_keys ks n _ x2 (by omega) q)
end
mutual
/-- a key hashes by its value -/
theorem hby_key : ∀ (k : NestedKey) (n : Nat) (v : Value) {Q : Bool → Shared → Prop}, NestedIs s.heap k v → k.depth ≤ n → noTxt k = true → Q true s → wpAny (model P w) A (hashByValue n v) Q E s
  | .none, n, v, Q, x, _, _, q => by
    cases x
    cases n <;> exact wpAny_pure q
  | .num i, n, v, Q, x, _, _, q => by
    cases x <;> (cases n <;> exact wpAny_pure q)
  | .text i, n, v, Q, x, _, t, q => by simp [noTxt] at t
  | .tup ks, n, v, Q, x, hn, t, q => by
    cases x with
    | @tup b o vs m _ ho hc hd hk =>
      cases n with
      | zero => simp [NestedKey.depth] at hn
      | succ n =>
        unfold hashByValue
        refine wpAny_bind (wpAny_specialOf (⟨o, ho, hc⟩ : s.TypeIs (.ref b) "tuple") F.slot_tuple_hash.lookup ?_)
        dsimp only
        refine wpAny_bind (wpAny_seqItems ho hd ?_)
        refine wpAny_bind ?_
        simp only [Option.getD_some]
        rw [← Array.forIn_toList]
        simp only [NestedKey.depth] at hn
        simp only [noTxt] at t
        exact hby_keys ks n vs.toList hk (by omega) t (wpAny_pure q)
theorem hby_keys : ∀ (ks : List NestedKey) (n : Nat) (vs : List Value) {R : Option Bool × Unit → Shared → Prop}, NestedAll s.heap ks vs → NestedKey.depthAll ks ≤ n → noTxts ks = true → R (none, ()) s →
    wpAny (model P w) A (forIn vs ((none, ()) : Option Bool × Unit) fun y r => do
      if !(← hashByValue n y) then pure (ForInStep.done (some false, ())) else pure (ForInStep.yield (none, ()))) R E s
  | [], n, vs, Q, x, _, _, q => by
    cases x
    rw [List.forIn_nil]
    exact wpAny_pure q
  | k :: ks, n, vs, Q, x, hn, t, q => by
    cases x with
    | cons x1 x2 =>
      simp only [NestedKey.depthAll] at hn
      simp only [noTxts, Bool.and_eq_true] at t
      rw [List.forIn_cons]
      refine wpAny_bind (wpAny_bind (hby_key k n _ x1 (by omega) t.1 ?_))
      simp only [Bool.not_true, Bool.false_eq_true, if_false]
      exact wpAny_pure (hby_keys ks n _ x2 (by omega) t.2 q)
end
/-- a search among such keys tells nothing -/
theorem quiet_srch {k : NestedKey} {b : Addr} {Q : Bool → Shared → Prop} (x : KAt s.heap k b) : ∀ {ys : List Value}, (∀ y ∈ ys, ∃ j c, y = Value.ref c ∧ KAt s.heap j c) → Q false s → wpAny (model P w) A (searchCouldBeSeen (.ref b) ys) Q E s := by
  intro ys hy q
  unfold searchCouldBeSeen
  refine wpAny_bind ?_
  revert hy
  induction ys with
  | nil =>
    intro _
    rw [List.forIn_nil]
    exact wpAny_pure (wpAny_pure q)
  | cons y ys ih =>
    intro hy
    obtain ⟨j, c, rfl, z⟩ := hy y List.mem_cons_self
    rw [List.forIn_cons]
    have go := ih fun u hu => hy u (List.mem_cons_of_mem _ hu)
    refine wpAny_bind ?_
    dsimp only
    by_cases hv : (b == c || (carriedByValue (.ref b) && carriedByValue (.ref c))) = true
    · rw [if_pos hv]
      exact wpAny_pure go
    · rw [if_neg hv]
      refine wpAny_bind (quiet_key k _ 8 s x.1 x.2.1 A E _ ?_)
      simp only [Bool.not_true, Bool.false_eq_true, if_false]
      refine wpAny_bind (quiet_key j _ 8 s z.1 z.2.1 A E _ ?_)
      simp only [Bool.not_true, Bool.false_eq_true, if_false]
      refine wpAny_bind (ofc_key k 8 _ x.1 x.2.1 ?_)
      simp only [Bool.false_eq_true, if_false]
      refine wpAny_bind (ofc_key j 8 _ z.1 z.2.1 ?_)
      simp only [Bool.false_eq_true, if_false]
      exact wpAny_pure go
theorem key_hash {k : NestedKey} {b : Addr} {Q : Int → Shared → Prop} (x : KAt s.heap k b) (hu : A.units + 8 < cLine) (q : Q (kh w k) { s with toks := s.toks + k.draws }) : wpAny (model P w) A (pyHash (.ref b)) Q E s :=
  pyHash_key k _ A s Q x.1 (by have := x.2.1; omega) q
theorem key_eq {k j : NestedKey} {b c : Addr} {Q : Bool → Shared → Prop} (x : KAt s.heap k b) (y : KAt s.heap j c) (hu : A.units + 8 < cLine) (q : Q (decide (k = j)) s) : wpAny (model P w) A (eqBool (.ref b) (.ref c)) Q E s :=
  (nestedKind P w).eqBool (show A.units + 8 < cLine from hu) ⟨x.1, x.2.1⟩ ⟨y.1, y.2.1⟩ q
end
end Mp

set_option Elab.async false
set_option linter.all false
set_option maxRecDepth 100000
set_option maxHeartbeats 2000000
namespace Mp
open PySem PySem.Spec PyProof.Rows L2
/-! ### a set of such keys -/
abbrev Row := Addr × NestedKey
def rws (w : World) (L : List Row) : List (Int × Value) := L.map fun e => (kh w e.2, Value.ref e.1)
abbrev hsh (w : World) (L : List Row) : List Int := L.map fun e => kh w e.2
structure NSet (w : World) (h : Heap) (a : Addr) (L : List Row) (es : Array (Int × Value)) (ep : Nat) (t : SetTable) : Prop where
  ob : ∃ o, h.get? a = some o ∧ o.ExactSet ∧ o.data = .set es ep t
  rw_ : es.toList = rws w L
  tb : TabOk t (hsh w L)
  nd : (L.map (·.2)).Nodup
  ks : ∀ e ∈ L, KAt h e.2 e.1
  pl : t.plain = true
  ld : w.params.followText "set-order" = true ∨ t.led = true
  rm : L.length * 5 < t.mask * 3
  fw : L.length < 64
theorem rwsLen {w : World} {L : List Row} {es : Array (Int × Value)} (h : es.toList = rws w L) : es.size = L.length := by
  have := congrArg List.length h
  simpa [rws] using this
theorem rwsAt {w : World} {L : List Row} {es : Array (Int × Value)} (h : es.toList = rws w L) {i : Nat} {e : Row} (hi : L[i]? = some e) : es[i]? = some (kh w e.2, Value.ref e.1) := by
  have : es.toList[i]? = some (kh w e.2, Value.ref e.1) := by simp [h, rws, hi]
  simpa using this
section
variable {P : Program} {w : World} {A : Around} {E : Value → Shared → Prop} {s : Shared} {a : Addr} {L : List Row} {es : Array (Int × Value)} {ep : Nat} {t : SetTable}
theorem NSet.n (R : NSet w s.heap a L es ep t) : es.size = L.length := rwsLen R.rw_
theorem NSet.psz (R : NSet w s.heap a L es ep t) : t.place.size = L.length := by
  have := R.tb.sz
  simpa using this
theorem fitsOf {n : Nat} (h1 : t.place.size = n) (h2 : t.dummies = #[]) (h3 : n ≤ t.mask) : t.fits n = true := by
  unfold SetTable.fits SetTable.fill
  simp [h1, h2, h3]
theorem NSet.ft (R : NSet w s.heap a L es ep t) : t.fits es.size = true := by
  rw [R.n]
  exact fitsOf R.psz R.tb.dm (by have := R.rm; omega)
theorem NSet.noWay (R : NSet w s.heap a L es ep t) : t.gaveWay = false := by
  unfold SetTable.gaveWay
  rw [mask_odd R.tb.mok]
  rfl
/-- where the search stands after c steps -/
abbrev stp (m : Nat) (h : Int) (c : Nat) : SetTable.Probe := nth m (runAt m (SetTable.bits h % (m + 1)) (SetTable.bits h)) c
theorem stpDummy (m : Nat) (h : Int) (c : Nat) : (stp m h c).dummy = none := by
  have : ∀ (c : Nat) (p : SetTable.Probe), p.dummy = none → (nth m p c).dummy = none := fun c => by
    induction c with
    | zero => exact fun p q => q
    | succ c ih =>
      intro p q
      apply ih
      unfold adv
      split <;> exact q
  exact this c _ rfl
theorem stpAdd (m : Nat) (h : Int) (c q : Nat) : nth m (stp m h c) q = stp m h (c + q) := (nth_add m c _ q).symm
/-- the search for a key -/
theorem nsearch (R : NSet w s.heap a L es ep t) {x : Addr} {k : NestedKey} (hx : KAt s.heap k x) (hu : A.units + 8 < cLine) {F : Nat} (hF : F < 10 * SetTable.turns t.mask)
    (h1 : way t.mask (kh w k) F ∉ t.place.toList) (h2 : ∀ c, c < F → way t.mask (kh w k) c ∈ t.place.toList) {Q : SetFound → Shared → Prop}
    (yes : k ∈ L.map (·.2) → Q (.there none) s) (no : k ∉ L.map (·.2) → Q (.free (way t.mask (kh w k) F) false) s) :
    ∀ (n c : Nat) (stand : Option SetTable.Probe), stand.getD (t.probeStart (kh w k)) = stp t.mask (kh w k) c → c ≤ F → F < n + c →
      (∀ (i : Nat) (e : Row), L[i]? = some e → e.2 = k → ∃ d, c ≤ d ∧ d < F ∧ t.place.toList[i]? = some (way t.mask (kh w k) d)) →
      wpAny (model P w) A (setSearchFrom a (.ref x) (kh w k) true n stand) Q E s := by
  intro n
  induction n with
  | zero => intro c stand _ q1 q2 _; omega
  | succ n ih =>
    intro c stand hst hc hn hpos
    obtain ⟨o, ho, hex, hd⟩ := R.ob
    have hat : ∀ (i : Nat) (e : Row), L[i]? = some e → (es[i]?.map (·.1)).getD 0 = kh w e.2 := fun i e q => by
      simp [rwsAt R.rw_ q]
    have spec := go_spec t R.tb.ris R.tb.dm (fun i => (es[i]?.map (·.1)).getD 0) (kh w k) (10 * SetTable.turns t.mask) (F - c) (stp t.mask (kh w k) c) (stpDummy _ _ _) (by omega)
      (fun q hq => by rw [stpAdd]; exact h2 (c + q) (by omega)) (by rw [stpAdd, Nat.add_sub_cancel' hc]; exact h1)
    have came : ∀ (q i : Nat), t.place.toList[i]? = some (nth t.mask (stp t.mask (kh w k) c) q).j → t.place.toList[i]? = some (way t.mask (kh w k) (c + q)) := fun q i z => by rw [stpAdd] at z; exact z
    rw [setSearchFrom_succ]
    refine wpAny_bind (wpAny_setState_of ho hd R.ft ?_)
    dsimp only
    rw [R.noWay]
    simp only [Bool.false_eq_true, if_false]
    rw [hst]
    rcases spec with ⟨q, i, hq, hi, hh, hno, hpr⟩ | ⟨hno, hpr⟩
    · have hpr2 : t.probe (fun i => (es[i]?.map (·.1)).getD 0) (kh w k) (stp t.mask (kh w k) c) = some (.candidate (nth t.mask (stp t.mask (kh w k) c) q).j i (nth t.mask (stp t.mask (kh w k) c) (q + 1))) := hpr
      rw [hpr2]
      dsimp only
      have hi2 := came q i hi
      have hil : i < L.length := by
        have := (List.getElem?_eq_some_iff.mp hi2).1
        rw [Array.length_toList, R.psz] at this
        exact this
      obtain ⟨e, he⟩ : ∃ e, L[i]? = some e := ⟨_, List.getElem?_eq_getElem hil⟩
      have hem : e ∈ L := List.mem_of_getElem? he
      have fin : wpAny (model P w) A (searchRest a (.ref x) (kh w k) true n es t (nth t.mask (stp t.mask (kh w k) c) q).j i (nth t.mask (stp t.mask (kh w k) c) (q + 1))) Q E s := by
        unfold searchRest
        rw [rwsAt R.rw_ he]
        dsimp only
        refine wpAny_bind (wpAny_holding (key_eq (R.ks e hem) hx hu ?_))
        refine wpAny_bind (wpAny_setState_of ho hd R.ft ?_)
        dsimp only
        by_cases hk : e.2 = k
        · rw [if_pos (by simp [hk])]
          exact wpAny_pure (yes (List.mem_map.mpr ⟨e, hem, hk⟩))
        · rw [if_neg (by simp [hk]), sameMem]
          have hsl : t.slot (nth t.mask (stp t.mask (kh w k) c) q).j = .live i := slot_live R.tb.ris hi
          simp only [if_true, hsl, rwsAt R.rw_ he]
          refine wpAny_bind (wpAny_isSame_ref_self (wpAny_bind (wpAny_pure ?_)))
          simp only [if_true, hk, decide_false, Bool.false_eq_true, if_false]
          refine ih (c + (q + 1)) _ (by rw [Option.getD_some]; exact stpAdd _ _ _ _) (by omega) (by omega) fun j f hj hf => ?_
          obtain ⟨d, d1, d2, d3⟩ := hpos j f hj hf
          refine ⟨d, ?_, d2, d3⟩
          -- such a key is not passed by
          by_cases z : d < c + q
          · have z1 := hno (d - c) j (by omega) (by rw [stpAdd, Nat.add_sub_cancel' d1]; exact d3)
            exact absurd ((hat j f hj).trans (by rw [hf])) z1
          · by_cases y : d = c + q
            · subst y
              have s0 := slot_live R.tb.ris d3
              rw [show way t.mask (kh w k) (c + q) = (nth t.mask (stp t.mask (kh w k) c) q).j by rw [stpAdd], hsl] at s0
              have : i = j := by injection s0
              subst this
              rw [he] at hj
              cases hj
              exact absurd hf hk
            · omega
      cases hl : t.led with
      | true => simpa using fin
      | false =>
        simp only [Bool.not_false, if_true]
        refine wpAny_bind (quiet_srch hx (fun y hy => ?_) ?_)
        · obtain ⟨g, hg, rfl⟩ := List.mem_map.mp hy
          have hg1 : g ∈ es := by
            have : g ∈ es.filter (fun x => x.1 == kh w k) := by simpa using hg
            exact (Array.mem_filter.mp this).1
          have hg2 : g ∈ rws w L := by rw [← R.rw_]; simpa using hg1
          obtain ⟨f, hf, rfl⟩ := List.mem_map.mp hg2
          exact ⟨f.2, f.1, rfl, R.ks f hf⟩
        · simpa using fin
    · have hpr2 : t.probe (fun i => (es[i]?.map (·.1)).getD 0) (kh w k) (stp t.mask (kh w k) c) = some (.empty (way t.mask (kh w k) F) none) := by
        have e2 : way t.mask (kh w k) F = (nth t.mask (stp t.mask (kh w k) c) (F - c)).j := by rw [stpAdd, Nat.add_sub_cancel' hc]
        rw [e2]
        exact hpr
      rw [hpr2]
      dsimp only
      refine wpAny_pure (no fun hm => ?_)
      obtain ⟨f, hf, hk⟩ := List.mem_map.mp hm
      obtain ⟨j, hj, ej⟩ := List.getElem_of_mem hf
      have hj2 : L[j]? = some f := by rw [List.getElem?_eq_getElem hj, ej]
      obtain ⟨d, d1, d2, d3⟩ := hpos j f hj2 hk
      exact absurd ((hat j f hj2).trans (by rw [hk])) (hno (d - c) j (by omega) (by rw [stpAdd, Nat.add_sub_cancel' d1]; exact d3))
theorem nsearch0 (R : NSet w s.heap a L es ep t) {x : Addr} {k : NestedKey} (hx : KAt s.heap k x) (hu : A.units + 8 < cLine) {Q : SetFound → Shared → Prop}
    (yes : k ∈ L.map (·.2) → Q (.there none) s)
    (no : ∀ F, k ∉ L.map (·.2) → way t.mask (kh w k) F ∉ t.place.toList → (∀ c, c < F → way t.mask (kh w k) c ∈ t.place.toList) → Q (.free (way t.mask (kh w k) F) false) s) :
    wpAny (model P w) A (setSearch a (.ref x) (kh w k) true) Q E s := by
  obtain ⟨F, f1, f2, f3⟩ := R.tb.first (by have := R.rm; simp; omega) (kh w k)
  have hF : F < 1500 := by
    have : 10 * SetTable.turns t.mask ≤ 1420 := by
      unfold SetTable.turns
      rcases R.tb.mok with e | e | e <;> omega
    omega
  unfold setSearch
  refine nsearch R hx hu f1 f2 f3 yes (fun z => no F z f2 f3) 100000 0 none rfl (Nat.zero_le _) (by omega) fun i e he hk => ?_
  have hil : i < t.place.toList.length := by
    rw [Array.length_toList, R.psz]
    exact (List.getElem?_eq_some_iff.mp he).1
  have hj := List.getElem?_eq_getElem hil
  obtain ⟨d, d1, d2⟩ := R.tb.before f2 (show (hsh w L)[i]? = some (kh w k) by simp [hsh, he, hk]) hj
  exact ⟨d, Nat.zero_le _, d1, by rw [hj, d2]⟩
end
end Mp

set_option Elab.async false
set_option linter.all false
set_option maxRecDepth 100000
set_option maxHeartbeats 2000000
namespace Mp
open PySem PySem.Spec PyProof.Rows L2
theorem KAt.but {h h' : Heap} {k : NestedKey} {a b : Addr} {o : Obj} {es : Array (Int × Value)} {ep : Nat} {t : SetTable} (x : KAt h k b) (ho : h.get? a = some o) (hd : o.data = .set es ep t) (sb : Heap.SameBut a h h') : KAt h' k b :=
  x.mv fun c u vs n q1 q2 => by
    refine (sb.2 c fun e => ?_).trans q1
    subst e
    rw [ho] at q1; cases q1
    rw [hd] at q2; cases q2
theorem rangeGet {α : Type} : ∀ (L : List α), (List.range L.length).filterMap (fun i => L[i]?) = L
  | [] => rfl
  | x :: r => by
    rw [List.length_cons, List.range_succ_eq_map, List.filterMap_cons_some (b := x) (by rfl), List.filterMap_map]
    congr 1
    exact rangeGet r
/-- rows put in another order -/
theorem rwsOrder {w : World} {L : List Row} {es : Array (Int × Value)} {order : Array Nat} (h : es.toList = rws w L) (hp : order.toList.Perm (List.range L.length)) :
    ∃ L2 : List Row, (order.filterMap (es[·]?)).toList = rws w L2 ∧ L2.Perm L ∧ hsh w L2 = order.toList.map fun i => (es.map (·.1)).getD i 0 := by
  have in_ : ∀ i ∈ order.toList, i < L.length := fun i hi => List.mem_range.mp (hp.mem_iff.mp hi)
  have step : ∀ l : List Nat, (∀ i ∈ l, i < L.length) → l.filterMap (fun i => es[i]?) = rws w (l.filterMap fun i => L[i]?) ∧ hsh w (l.filterMap fun i => L[i]?) = l.map fun i => (es.map (·.1)).getD i 0 := by
    intro l
    induction l with
    | nil => exact fun _ => ⟨rfl, rfl⟩
    | cons i l ih =>
      intro hl
      obtain ⟨e1, e2⟩ := ih fun j hj => hl j (List.mem_cons_of_mem _ hj)
      obtain ⟨g, hi⟩ : ∃ g, L[i]? = some g := ⟨_, List.getElem?_eq_getElem (hl i List.mem_cons_self)⟩
      have he := rwsAt h hi
      refine ⟨?_, ?_⟩
      · rw [List.filterMap_cons_some he, List.filterMap_cons_some hi, e1]
        rfl
      · rw [List.filterMap_cons_some hi, List.map_cons, ← e2]
        have : (es.map (·.1)).getD i 0 = kh w g.2 := by simp [Array.getD_eq_getD_getElem?, he]
        rw [this]
        rfl
  obtain ⟨e1, e2⟩ := step order.toList in_
  refine ⟨order.toList.filterMap fun i => L[i]?, by simpa using e1, ?_, e2⟩
  have all := rangeGet L
  have := hp.filterMap fun i => L[i]?
  rwa [all] at this
section
variable {P : Program} {w : World} {A : Around} {E : Value → Shared → Prop} {s : Shared} {a : Addr} {L : List Row} {es : Array (Int × Value)} {ep : Nat} {t : SetTable}
/-- what stands in the set but for its place -/
structure NPre (w : World) (h : Heap) (L : List Row) (es : Array (Int × Value)) (t : SetTable) : Prop where
  rw_ : es.toList = rws w L
  nd : (L.map (·.2)).Nodup
  ks : ∀ e ∈ L, KAt h e.2 e.1
  pl : t.plain = true
  ld : w.params.followText "set-order" = true ∨ t.led = true
  fw : L.length < 64
theorem nrelay {o : Obj} (ho : s.heap.get? a = some o) (hex : o.ExactSet) (hd : o.data = .set es ep t) (R : NPre w s.heap L es t) (hp : t.place.size = L.length) (hm : t.dummies = #[]) (hf : L.length ≤ t.mask) {n M : Nat}
    (h1 : SetTable.sizeAbove n - 1 = M) (h2 : MaskOk M) (h3 : SetTable.sizeAbove n ≤ 128) (h4 : L.length * 5 < M * 3) {Q : Unit → Shared → Prop}
    (q : ∀ h' L2 es2 ep2 t2, Heap.SameBut a s.heap h' → NSet w h' a L2 es2 ep2 t2 → L2.Perm L → Q () { s with heap := h' }) : wpAny (model P w) A (setRelay a n) Q E s := by
  have hl := rwsLen R.rw_
  obtain ⟨t2, order, e, pm, T, em, el, epl, _⟩ := relaid_ok t (hs := es.map (·.1)) (wanted := n) h1 h2 (by rw [Array.size_map, hl]; omega)
  rw [Array.size_map, hl] at pm
  obtain ⟨L2, r1, r2, r3⟩ := rwsOrder R.rw_ pm
  have sz : (order.filterMap (es[·]?)).size = es.size := by rw [rwsLen r1, r2.length_eq, hl]
  rw [setRelay_eq]
  refine wpAny_bind (wpAny_setState_of ho hd (by rw [hl]; exact fitsOf hp hm hf) ?_)
  dsimp only
  have hz : ¬ SetTable.sizeAbove n > sizeLine := by rw [sizeLine_eq]; omega
  rw [if_neg hz]
  refine wpAny_bind ?_
  rw [e]
  dsimp only
  rw [if_neg (by rw [sz]; simp)]
  refine wpAny_pure ?_
  refine wpAny_storeSet_of ho hd ?_ (by rw [sz, hl, sizeLine_eq]; have := R.fw; omega)
  have sb : Heap.SameBut a s.heap (s.heap.update a (Obj.putSet (order.filterMap (es[·]?)) t2)) := Heap.SameBut.update ..
  refine q _ L2 _ (ep + 1) t2 sb ⟨⟨_, store_at ho hd, ⟨hex.1, hex.2.1, hex.2.2⟩, rfl⟩, r1, ?_, (r2.map _).nodup_iff.mpr R.nd, fun f hf => (R.ks f (r2.mem_iff.mp hf)).but ho hd sb, by rw [epl]; exact R.pl, by rw [el]; exact R.ld, ?_, by rw [r2.length_eq]; exact R.fw⟩ r2
  · rw [r3]; exact T
  · rw [r2.length_eq, em]; exact h4
/-- a key is added -/
theorem nadd (R : NSet w s.heap a L es ep t) {x : Addr} {k : NestedKey} (hx : KAt s.heap k x) (hu : A.units + 8 < cLine) (few : L.length + 1 < 64) {Q : Bool → Shared → Prop}
    (q : ∀ b h' L2 es2 ep2 t2, Heap.SameBut a s.heap h' → NSet w h' a L2 es2 ep2 t2 → (k ∈ L.map (·.2) → L2 = L) → (k ∉ L.map (·.2) → L2.Perm ((x, k) :: L)) → Q b { s with heap := h' }) :
    wpAny (model P w) A (setAddHashed a (.ref x) (kh w k)) Q E s := by
  obtain ⟨o, ho, hex, hd⟩ := R.ob
  unfold setAddHashed
  refine wpAny_holding ?_
  rw [show (100000 : Nat) = 99999 + 1 from rfl, setAddHashedIn_succ]
  refine wpAny_bind (wpAny_setState_of ho hd R.ft ?_)
  dsimp only
  rw [if_neg (by simp [byScan, Value.scannable])]
  refine wpAny_bind (nsearch0 R hx hu (fun hm => ?_) fun F hm f1 f2 => ?_)
  · exact wpAny_pure (q false s.heap L es ep t (Heap.SameBut.refl a s.heap) R (fun _ => rfl) fun z => absurd hm z)
  · dsimp only
    refine wpAny_bind (wpAny_setState_of ho hd R.ft ?_)
    dsimp only
    obtain ⟨q1, q2, q3, q4, q5, q6, q7, q8, q9⟩ := R.tb.put f1 f2
    generalize hj : way t.mask (kh w k) F = j at q1 q2 q3 q4 q5 q6 q9 ⊢
    have pl1 : (t.put j).1.plain = true := by rw [q6]; exact R.pl
    have ins := SetTable.toList_insertAt es (SetTable.below t.place j) (kh w k, Value.ref x)
    rw [R.rw_] at ins
    have hln : (hsh w L).length = L.length := by simp [hsh]
    generalize hB : SetTable.below t.place j = B at q1 q2 q3 ins ⊢
    have hpt : t.put j = ((t.put j).1, B) := by rw [← q1]
    rw [hpt]
    generalize (t.put j).1 = t1 at q3 q4 q5 q6 q9 pl1 ⊢
    dsimp only
    rw [if_pos pl1]
    refine wpAny_bind (hby_key k 8 _ hx.1 hx.2.1 hx.2.2 ?_)
    simp only [if_true]
    generalize SetTable.insertAt es B (kh w k, Value.ref x) = es1 at ins ⊢
    have L1e : rws w (L.take B ++ (x, k) :: L.drop B) = (rws w L).take B ++ (kh w k, Value.ref x) :: (rws w L).drop B := by simp [rws]
    have L1h : hsh w (L.take B ++ (x, k) :: L.drop B) = (hsh w L).take B ++ kh w k :: (hsh w L).drop B := by simp [hsh]
    rw [← L1e] at ins
    rw [← L1h] at q3
    have pm := put_perm L B (x, k)
    generalize L.take B ++ (x, k) :: L.drop B = L1 at pm ins q3
    have hl1 : L1.length = L.length + 1 := by rw [pm.length_eq]; rfl
    have hs1 := rwsLen ins
    refine wpAny_bind (wpAny_storeSet_of ho hd ?_ (by rw [hs1, hl1, sizeLine_eq]; omega))
    have sb : Heap.SameBut a s.heap (s.heap.update a (Obj.putSet es1 t1)) := Heap.SameBut.update ..
    have ho1 := store_at (es' := es1) (t' := t1) ho hd
    generalize s.heap.update a (Obj.putSet es1 t1) = g at sb ho1 ⊢
    have pre : NPre w g L1 es1 t1 := ⟨ins, (pm.map _).nodup_iff.mpr (by rw [List.map_cons]; exact List.nodup_cons.mpr ⟨hm, R.nd⟩), fun e he => by
      rcases List.mem_cons.mp (pm.mem_iff.mp he) with z | z
      · rw [z]; exact hx.but ho hd sb
      · exact (R.ks e z).but ho hd sb, pl1, by rw [q5]; exact R.ld, by rw [hl1]; exact few⟩
    rw [hln] at q9
    have rm := R.rm
    have psz : t1.place.size = L1.length := by have := q3.sz; simpa [hsh] using this
    cases hf : t1.tooFull with
    | true =>
      simp only [Bool.not_false, Bool.and_self, if_true]
      rw [R.n]
      have full : (L.length + 1) * 5 ≥ t1.mask * 3 := by
        unfold SetTable.tooFull at hf
        rw [decide_eq_true_eq, q9] at hf
        exact hf
      rw [q4] at full
      have put : ∀ M, SetTable.sizeAbove (SetTable.grown (L.length + 1)) - 1 = M → MaskOk M → SetTable.sizeAbove (SetTable.grown (L.length + 1)) ≤ 128 → (L.length + 1) * 5 < M * 3 → L.length + 1 ≤ t.mask →
          wpAny (model P w) A (setRelay a (SetTable.grown (L.length + 1))) (fun _ s' => wpAny (model P w) A (pure true) Q E s') E { s with heap := g } := fun M m1 m2 m3 m4 m5 =>
        nrelay (s := { s with heap := g }) ho1 ⟨hex.1, hex.2.1, hex.2.2⟩ rfl pre psz q3.dm (by rw [hl1, q4]; exact m5) m1 m2 m3 (by rw [hl1]; exact m4) fun h' L2 es2 ep2 t2 sb2 R2 p2 => wpAny_pure (q true h' L2 es2 ep2 t2 (sb.trans sb2) R2 (fun z => absurd z hm) fun _ => p2.trans pm)
      refine wpAny_bind ?_
      rcases R.tb.mok with z | z | z
      · have hL : L.length = 4 := by rw [z] at full rm; omega
        exact put 31 (by rw [hL, size_20]) (.inr (.inl rfl)) (by rw [hL, size_20]; decide) (by rw [hL]; decide) (by omega)
      · have hL : L.length = 18 := by rw [z] at full rm; omega
        exact put 127 (by rw [hL, size_76]) (.inr (.inr rfl)) (by rw [hL, size_76]; decide) (by rw [hL]; decide) (by omega)
      · exfalso; rw [z] at full; omega
    | false =>
      simp only [Bool.not_false, Bool.and_false, Bool.false_eq_true, if_false]
      refine wpAny_pure ?_
      refine q true g L1 es1 (ep + 1) t1 sb ⟨⟨_, ho1, ⟨hex.1, hex.2.1, hex.2.2⟩, rfl⟩, ins, q3, pre.nd, pre.ks, pl1, pre.ld, ?_, pre.fw⟩ (fun z => absurd z hm) fun _ => pm
      unfold SetTable.tooFull at hf
      rw [decide_eq_false_iff_not, q9] at hf
      rw [hl1]
      omega
end
end Mp

set_option Elab.async false
set_option linter.all false
set_option maxRecDepth 100000
set_option maxHeartbeats 3200000
namespace Mp
open PySem PySem.Spec PyProof.Rows L2
/-- the rows L hold what the first i of ks hold -/
structure Has (ks : List Row) (i : Nat) (L : List Row) : Prop where
  sub : ∀ e ∈ L, e ∈ ks.take i
  all : ∀ e ∈ ks.take i, e.2 ∈ L.map (·.2)
  few : L.length ≤ i
theorem Has.none (ks : List Row) : Has ks 0 [] := ⟨by simp, by simp, by simp⟩
theorem Has.next {ks L L2 : List Row} {i : Nat} {e : Row} (g : Has ks i L) (h : ks[i]? = some e) (h1 : e.2 ∈ L.map (·.2) → L2 = L) (h2 : e.2 ∉ L.map (·.2) → L2.Perm ((e.1, e.2) :: L)) : Has ks (i + 1) L2 := by
  have tk : ks.take (i + 1) = ks.take i ++ [e] := by rw [List.take_succ, h]; rfl
  by_cases c : e.2 ∈ L.map (·.2)
  · rw [h1 c]
    refine ⟨fun f hf => by rw [tk]; exact List.mem_append_left _ (g.sub f hf), fun f hf => ?_, by have := g.few; omega⟩
    rw [tk] at hf
    rcases List.mem_append.mp hf with z | z
    · exact g.all f z
    · rw [List.mem_singleton.mp z]; exact c
  · have pm := h2 c
    refine ⟨fun f hf => ?_, fun f hf => ?_, by rw [pm.length_eq]; have := g.few; simp; omega⟩
    · rw [tk]
      rcases List.mem_cons.mp (pm.mem_iff.mp hf) with z | z
      · rw [z]; simp
      · exact List.mem_append_left _ (g.sub f z)
    · rw [(pm.map (·.2)).mem_iff]
      rw [tk] at hf
      rcases List.mem_append.mp hf with z | z
      · exact List.mem_cons_of_mem _ (g.all f z)
      · rw [List.mem_singleton.mp z]; simp
section
variable {P : Program} {w : World} {A : Around} {E : Value → Shared → Prop} {s : Shared}
theorem NSet.mv {h h' : Heap} {a : Addr} {L : List Row} {es : Array (Int × Value)} {ep : Nat} {t : SetTable} (R : NSet w h a L es ep t) (ha : ∀ o, h.get? a = some o → h'.get? a = some o) (hk : ∀ e ∈ L, KAt h' e.2 e.1) : NSet w h' a L es ep t := by
  obtain ⟨o, ho, z⟩ := R.ob
  exact ⟨⟨o, ha o ho, z⟩, R.rw_, R.tb, R.nd, hk, R.pl, R.ld, R.rm, R.fw⟩
abbrev setObj (w : World) : Obj := { cls := .type "set", dict := none, data := .set #[] 0 (.fresh 0 0 (!w.params.followText "set-order")) }
theorem nset0 {h : Heap} {a : Addr} (ho : h.get? a = some (setObj w)) : NSet w h a [] #[] 0 (.fresh 0 0 (!w.params.followText "set-order")) where
  ob := ⟨_, ho, ⟨rfl, rfl, rfl⟩, rfl⟩
  rw_ := rfl
  tb := ⟨List.Pairwise.nil, rfl, rfl, .inl rfl, fun x hx => (by cases hx), fun i h j hi => (by simp at hi)⟩
  nd := List.nodup_nil
  ks := fun _ h => (by cases h)
  pl := rfl
  ld := by
    show _ ∨ (!w.params.followText "set-order") = true
    cases w.params.followText "set-order" <;> simp
  rm := by show 0 * 5 < 7 * 3; omega
  fw := by show 0 < 64; omega
/-- the loop that fills a set -/
theorem nfill {I S : Addr} {fp wr : List Addr} {G : Array GenState → Array GenState → Prop} {n : Nat} {Pv : Nat → Value → Prop} {St : Nat → Shared → Prop} {R : Result → Shared → Prop} (W : WalksS P w A.in1 I fp wr G n Pv St) (hS : S ∉ fp) {ks : List Row} (few : n < 64)
    (val : ∀ i v, Pv i v → ∃ e, ks[i]? = some e ∧ v = .ref e.1) {h0 : Heap} (hk : ∀ e ∈ ks, KAt h0 e.2 e.1) (hS0 : h0.get? S = none) (hw0 : ∀ b ∈ wr, h0.get? b = none) (hu : A.in1.units + 8 < cLine) :
    ∀ (m i : Nat) (s : Shared), n = i + m → St i s → (∀ b o, h0.get? b = some o → s.heap.get? b = some o) → (∃ L es ep t, NSet w s.heap S L es ep t ∧ Has ks i L) →
      (∀ s' L es ep t, Moved (S :: wr) G s s' → NSet w s'.heap S L es ep t → Has ks n L → (∀ b o, h0.get? b = some o → s'.heap.get? b = some o) → R (.ok (.ret .none)) s') →
      codeAny (model P w) A (.builtin "set.update.loop" ⟨[.ref S, .ref I], []⟩) R s := by
  have hSw : S ∉ wr := fun h => hS (W.sub _ h)
  have wide : ∀ b ∈ wr, b ∈ S :: wr := fun b hb => List.mem_cons_of_mem _ hb
  have on : ∀ {s s' : Shared}, Moved wr G s s' → (∀ b o, h0.get? b = some o → s.heap.get? b = some o) → ∀ b o, h0.get? b = some o → s'.heap.get? b = some o := fun mv kp b o e => mv.heap b o (fun hb => by rw [hw0 b hb] at e; cases e) (kp b o e)
  have keyAt : ∀ {h : Heap} {L : List Row} {i : Nat}, Has ks i L → (∀ b o, h0.get? b = some o → h.get? b = some o) → ∀ e ∈ L, KAt h e.2 e.1 := fun g kp e he => (hk e (List.mem_of_mem_take (g.sub e he))).mv fun c u _ _ q _ => kp c u q
  intro m
  induction m with
  | zero =>
    intro i s hn st kp ⟨L, es, ep, t, N, g⟩ hR
    obtain rfl : n = i := hn
    refine codeAny_builtin F.entry_set_update_loop ?_
    rw [Around.under_plainId F.plain_set_update_loop _]
    show wpAny _ A.in1 (pyNext (.ref I) >>= _) _ _ s
    refine wpAny_bind (W.done s _ _ st fun s' mv => ?_)
    show wpAny _ A.in1 (ret Value.none) _ _ s'
    exact wpAny_pure (hR s' L es ep t (mv.mono wide) (N.mv (fun o e => mv.heap S o hSw e) (keyAt g (on mv kp))) g (on mv kp))
  | succ m ih =>
    intro i s hn st kp ⟨L, es, ep, t, N, g⟩ hR
    refine codeAny_builtin F.entry_set_update_loop ?_
    rw [Around.under_plainId F.plain_set_update_loop _]
    show wpAny _ A.in1 (pyNext (.ref I) >>= _) _ _ s
    refine wpAny_bind (W.item i s _ _ (by omega) st fun v s' pv st' mv => ?_)
    obtain ⟨e, he, rfl⟩ := val i v pv
    have kp' := on mv kp
    have hx : KAt s'.heap e.2 e.1 := (hk e (List.mem_of_getElem? he)).mv fun c u _ _ q _ => kp' c u q
    show wpAny _ A.in1 (holding [Value.ref e.1] (setAdd S (.ref e.1)) >>= _) _ _ s'
    refine wpAny_bind (wpAny_holding ?_)
    unfold setAdd
    refine wpAny_holding (wpAny_bind (key_hash hx hu ?_))
    refine nadd (s := { s' with toks := s'.toks + e.2.draws }) (N.mv (fun o q => mv.heap S o hSw q) (keyAt g kp')) hx hu (by have := g.few; omega) fun b h' L2 es2 ep2 t2 sb N2 c1 c2 => ?_
    have kp2 : ∀ b o, h0.get? b = some o → h'.get? b = some o := fun b o q => (sb.2 b (fun z => by rw [z, hS0] at q; cases q)).trans (kp' b o q)
    have fr := W.frame _ s' h' (s'.toks + e.2.draws) st' (Nat.le_add_right _ _) fun b hb o q => by rw [sb.2 b (fun z : b = S => hS (by rw [← z]; exact hb))]; exact q
    refine wpAny_pure ⟨plainId_quiet F.plain_set_update_loop _, ih (i + 1) { s' with heap := h', toks := s'.toks + e.2.draws } (by omega) fr kp2 ⟨L2, es2, ep2, t2, N2, g.next he c1 c2⟩ fun s2 L3 es3 ep3 t3 mv3 N3 g3 kp3 => ?_⟩
    refine hR s2 L3 es3 ep3 t3 (Moved.trans W.gtrans ((mv.mono wide).then_heap (Nat.le_add_right _ _) fun b o hb q => ?_) mv3) N3 g3 kp3
    rw [sb.2 b (fun z : b = S => hb (by rw [z]; exact List.mem_cons_self))]
    exact q
/-- set(xs), xs a list of keys -/
theorem ncall {l : Addr} {items : Array Value} {ks : List Row} {Q : Value → Shared → Prop} (hh : A.handled = none) (hl : s.heap.IsList l items) (hi : items.toList = ks.map fun e => Value.ref e.1) (hk : ∀ e ∈ ks, KAt s.heap e.2 e.1) (few : ks.length < 64) (hu : A.units + 16 < cLine)
    (q : ∀ (h' : Heap) (tk : Nat) L es ep t, NSet w h' s.heap.objs.size L es ep t → Has ks ks.length L → (∀ b o, s.heap.get? b = some o → h'.get? b = some o) → Q (.ref s.heap.objs.size) { s with heap := h', toks := tk }) :
    wpAny (model P w) A (call (.type "set") [.ref l]) Q E s := by
  have n : items.size = ks.length := by simpa using congrArg List.length hi
  generalize hS : s.heap.objs.size = S at q
  have hS0 : ∀ b, S ≤ b → s.heap.get? b = none := fun b hb => by
    cases z : s.heap.get? b with
    | none => rfl
    | some o => exact absurd (Nat.lt_of_lt_of_le (hS ▸ Heap.lt_size z) hb) (Nat.lt_irrefl _)
  obtain ⟨c, tl, hmro⟩ := F.called_set.mro
  have hmade := F.called_set.made
  have hsub := F.called_set.sub
  refine wpAny_call (codeAny_of_tree ?_)
  show wpAny _ _ (callAny (.type "set") _) _ _ _
  refine wpAny_pure ⟨Code.quiet_builtin _ (by decide +kernel), codeAny_builtin F.entry_type_call ?_⟩
  rw [Around.under_plain (weight_type_call_type "set" [.ref l] []) rfl]
  have k1 := F.called_set.notType
  have k2 := F.called_set.canCreate
  have k3 := F.typeCall_set_1 (.ref l)
  repeat (any_goals (first | assumption | wp_step))
  refine codeAny_mono (code_set_led1 (.ref l) (E := E) (Q₁ := fun obj s1 => obj = .ref S ∧ s1 = { s with heap := s.heap.push (setObj w) }) ⟨by rw [hS], rfl⟩) fun r s1 hr => ?_
  cases r with
  | error e => exact hr
  | ok fl =>
    cases fl with
    | ret obj =>
      obtain ⟨rfl, rfl⟩ := hr
      have gS : (s.heap.push (setObj w)).get? S = some (setObj w) := by rw [← hS]; exact Heap.get?_push_size _ rfl
      have hT : Shared.TypeIs { s with heap := s.heap.push (setObj w) } (.ref S) "set" := ⟨_, gS, rfl⟩
      have k4 := F.called_set.init.lookup
      have k5 := F.called_set.init.bind (.ref S)
      repeat (any_goals (first | assumption | wp_step))
      refine codeAny_mono (codeAny_call_builtin (R := wants (fun r s2 => r = .none ∧ ∃ h' tk L es ep t, s2 = { s with heap := h', toks := tk } ∧ NSet w h' S L es ep t ∧ Has ks ks.length L ∧ ∀ b o, s.heap.get? b = some o → h'.get? b = some o) E) F.called_set.init.plain F.entry_set_init (check_set_init_1 hT ?_)) fun r2 s2 hr2 => ?_
      · obtain ⟨⟨oc, od, dt, osl⟩, g1, g2, nl, g3⟩ := hl
        simp only at g2 g3
        subst g2 g3
        have gl : (s.heap.push (setObj w)).get? l = some { cls := .type "list", dict := od, data := .seq items nl, slots := osl } := Heap.get?_push_of_some _ g1
        have k6 := F.sub_list_set
        have k7 := F.sub_list_frozenset
        have k8 : (Value.type "list" == Value.type "dict") = false := by decide
        have gL : (s.heap.push (setObj w)).IsList l items := ⟨_, gl, rfl, nl, rfl⟩
        unfold Builtin.«set.__init__» noKeywords Builtin.Frozenset.updateFrom
        generalize hPI : pyIter = PI
        wp_walk
        subst hPI
        refine wpAny_pyIter_list gL (wpAny_bind (wpAny_runValue ?_))
        have lS : l < S := by rw [← hS]; exact Heap.lt_size g1
        have z1 : (s.heap.push (setObj w)).objs.size = S + 1 := by rw [Heap.size_push, hS]
        have hh3 : A.in1.in1.in1.handled = none := by simp [hh]
        refine nfill ((Walks.list hh3 (s.heap.push (setObj w)).objs.size l (Nat.ne_of_lt (by rw [z1]; exact Nat.lt_succ_of_lt lS)) items).toS) (S := S) (ks := ks) (h0 := s.heap) (fun z => by
          rw [z1] at z
          rcases List.mem_cons.mp z with z | z
          · exact absurd z (Nat.ne_of_lt (Nat.lt_succ_self S))
          · exact absurd (List.mem_singleton.mp z) (Nat.ne_of_gt lS)) (by omega) (fun i v hv => ?_) hk (hS0 S (Nat.le_refl _)) (fun b hb => ?_) (by simp only [Around.in1_units]; omega) items.size 0 _ (by omega)
          ⟨⟨_, Heap.get?_push_size _ rfl, rfl, rfl⟩, gL.push _⟩ (fun b o e => Heap.get?_push_of_some _ (Heap.get?_push_of_some _ e)) ⟨[], #[], 0, _, nset0 (Heap.get?_push_of_some _ gS), Has.none ks⟩ fun s' L es ep t mv N g kp => ?_
        · have e1 : items.toList[i]? = some v := by rw [Array.getElem?_toList]; exact hv
          rw [hi, List.getElem?_map] at e1
          cases e2 : ks[i]? with
          | none => rw [e2] at e1; cases e1
          | some e => rw [e2] at e1; exact ⟨e, rfl, (Option.some.inj e1).symm⟩
        · rw [List.mem_singleton.mp hb, z1]
          exact hS0 _ (Nat.le_succ _)
        · obtain ⟨h', g', d', tk', os'⟩ := s'
          have e1 : g' = s.gens := mv.gens
          have e2 : d' = s.drawn := mv.drawn
          have e3 : os' = s.os := mv.os
          subst e1 e2 e3
          rw [n] at g
          show wpAny _ _ _ _ _ _
          refine wpAny_pure ?_
          show wpAny _ _ (ret Value.none) _ _ _
          exact wpAny_pure ⟨rfl, h', tk', L, es, ep, t, rfl, N, g, kp⟩
      · cases r2 with
        | error e => exact hr2
        | ok fl2 =>
          cases fl2 with
          | ret r =>
            obtain ⟨rfl, h', tk, L, es, ep, t, rfl, N, g, kp⟩ := hr2
            repeat (any_goals (first | assumption | wp_step))
            exact q _ _ _ _ _ _ N g kp
          | _ => exact hr2.elim
    | _ => exact hr.elim
end
end Mp

set_option Elab.async false
set_option linter.all false
set_option maxRecDepth 100000
set_option maxHeartbeats 3200000
namespace Mp
open PySem PySem.Spec PyProof.Rows L2
section
variable {P : Program} {w : World} {A : Around} {E : Value → Shared → Prop} {s : Shared}
/-- set(xs), xs a tuple of keys -/
theorem ncallT {l : Addr} {items : Array Value} {ks : List Row} {Q : Value → Shared → Prop} (hh : A.handled = none) (hl : s.heap.IsTuple l items) (hi : items.toList = ks.map fun e => Value.ref e.1) (hk : ∀ e ∈ ks, KAt s.heap e.2 e.1) (few : ks.length < 64) (hu : A.units + 16 < cLine)
    (q : ∀ (h' : Heap) (tk : Nat) L es ep t, NSet w h' s.heap.objs.size L es ep t → Has ks ks.length L → (∀ b o, s.heap.get? b = some o → h'.get? b = some o) → Q (.ref s.heap.objs.size) { s with heap := h', toks := tk }) :
    wpAny (model P w) A (call (.type "set") [.ref l]) Q E s := by
  have n : items.size = ks.length := by simpa using congrArg List.length hi
  generalize hS : s.heap.objs.size = S at q
  have hS0 : ∀ b, S ≤ b → s.heap.get? b = none := fun b hb => by
    cases z : s.heap.get? b with
    | none => rfl
    | some o => exact absurd (Nat.lt_of_lt_of_le (hS ▸ Heap.lt_size z) hb) (Nat.lt_irrefl _)
  obtain ⟨c, tl, hmro⟩ := F.called_set.mro
  have hmade := F.called_set.made
  have hsub := F.called_set.sub
  refine wpAny_call (codeAny_of_tree ?_)
  show wpAny _ _ (callAny (.type "set") _) _ _ _
  refine wpAny_pure ⟨Code.quiet_builtin _ (by decide +kernel), codeAny_builtin F.entry_type_call ?_⟩
  rw [Around.under_plain (weight_type_call_type "set" [.ref l] []) rfl]
  have k1 := F.called_set.notType
  have k2 := F.called_set.canCreate
  have k3 := F.typeCall_set_1 (.ref l)
  repeat (any_goals (first | assumption | wp_step))
  refine codeAny_mono (code_set_led1 (.ref l) (E := E) (Q₁ := fun obj s1 => obj = .ref S ∧ s1 = { s with heap := s.heap.push (setObj w) }) ⟨by rw [hS], rfl⟩) fun r s1 hr => ?_
  cases r with
  | error e => exact hr
  | ok fl =>
    cases fl with
    | ret obj =>
      obtain ⟨rfl, rfl⟩ := hr
      have gS : (s.heap.push (setObj w)).get? S = some (setObj w) := by rw [← hS]; exact Heap.get?_push_size _ rfl
      have hT : Shared.TypeIs { s with heap := s.heap.push (setObj w) } (.ref S) "set" := ⟨_, gS, rfl⟩
      have k4 := F.called_set.init.lookup
      have k5 := F.called_set.init.bind (.ref S)
      repeat (any_goals (first | assumption | wp_step))
      refine codeAny_mono (codeAny_call_builtin (R := wants (fun r s2 => r = .none ∧ ∃ h' tk L es ep t, s2 = { s with heap := h', toks := tk } ∧ NSet w h' S L es ep t ∧ Has ks ks.length L ∧ ∀ b o, s.heap.get? b = some o → h'.get? b = some o) E) F.called_set.init.plain F.entry_set_init (check_set_init_1 hT ?_)) fun r2 s2 hr2 => ?_
      · obtain ⟨⟨oc, od, dt, osl⟩, g1, g2, nl, g3⟩ := hl
        simp only at g2 g3
        subst g2 g3
        have gl : (s.heap.push (setObj w)).get? l = some { cls := .type "tuple", dict := od, data := .seq items nl, slots := osl } := Heap.get?_push_of_some _ g1
        have k6 := F.sub_tuple_set
        have k7 := F.sub_tuple_frozenset
        have k8 : (Value.type "tuple" == Value.type "dict") = false := by decide
        have gL : (s.heap.push (setObj w)).IsTuple l items := ⟨_, gl, rfl, nl, rfl⟩
        unfold Builtin.«set.__init__» noKeywords Builtin.Frozenset.updateFrom
        generalize hPI : pyIter = PI
        wp_walk
        subst hPI
        refine wpAny_pyIter_tuple gL (wpAny_bind (wpAny_runValue ?_))
        have lS : l < S := by rw [← hS]; exact Heap.lt_size g1
        have z1 : (s.heap.push (setObj w)).objs.size = S + 1 := by rw [Heap.size_push, hS]
        have hh3 : A.in1.in1.in1.handled = none := by simp [hh]
        refine nfill ((Walks.tuple hh3 (s.heap.push (setObj w)).objs.size l (Nat.ne_of_lt (by rw [z1]; exact Nat.lt_succ_of_lt lS)) items).toS) (S := S) (ks := ks) (h0 := s.heap) (fun z => by
          rw [z1] at z
          rcases List.mem_cons.mp z with z | z
          · exact absurd z (Nat.ne_of_lt (Nat.lt_succ_self S))
          · exact absurd (List.mem_singleton.mp z) (Nat.ne_of_gt lS)) (by omega) (fun i v hv => ?_) hk (hS0 S (Nat.le_refl _)) (fun b hb => ?_) (by simp only [Around.in1_units]; omega) items.size 0 _ (by omega)
          ⟨⟨_, Heap.get?_push_size _ rfl, rfl, rfl⟩, gL.push _⟩ (fun b o e => Heap.get?_push_of_some _ (Heap.get?_push_of_some _ e)) ⟨[], #[], 0, _, nset0 (Heap.get?_push_of_some _ gS), Has.none ks⟩ fun s' L es ep t mv N g kp => ?_
        · have e1 : items.toList[i]? = some v := by rw [Array.getElem?_toList]; exact hv
          rw [hi, List.getElem?_map] at e1
          cases e2 : ks[i]? with
          | none => rw [e2] at e1; cases e1
          | some e => rw [e2] at e1; exact ⟨e, rfl, (Option.some.inj e1).symm⟩
        · rw [List.mem_singleton.mp hb, z1]
          exact hS0 _ (Nat.le_succ _)
        · obtain ⟨h', g', d', tk', os'⟩ := s'
          have e1 : g' = s.gens := mv.gens
          have e2 : d' = s.drawn := mv.drawn
          have e3 : os' = s.os := mv.os
          subst e1 e2 e3
          rw [n] at g
          show wpAny _ _ _ _ _ _
          refine wpAny_pure ?_
          show wpAny _ _ (ret Value.none) _ _ _
          exact wpAny_pure ⟨rfl, h', tk', L, es, ep, t, rfl, N, g, kp⟩
      · cases r2 with
        | error e => exact hr2
        | ok fl2 =>
          cases fl2 with
          | ret r =>
            obtain ⟨rfl, h', tk, L, es, ep, t, rfl, N, g, kp⟩ := hr2
            repeat (any_goals (first | assumption | wp_step))
            exact q _ _ _ _ _ _ N g kp
          | _ => exact hr2.elim
    | _ => exact hr.elim
end
end Mp

set_option Elab.async false
set_option linter.all false
set_option maxRecDepth 100000
set_option maxHeartbeats 3200000
namespace Mp
open PySem PySem.Spec PyProof.Rows L2
section
variable {P : Program} {w : World} {A : Around} {E : Value → Shared → Prop} {s : Shared}
/-- set(xs), xs a list of ints -/
theorem icall {l : Addr} {items : Array Value} {ns : List Int} {Q : Value → Shared → Prop} (hh : A.handled = none) (hl : s.heap.IsList l items) (hi : IntsAre items.toList ns) (few : ns.length < 64)
    (q : ∀ (h' : Heap) (tk c : Nat), c ≤ ns.length → SetR w h' s.heap.objs.size (fun j => decide (j ∈ ns)) c → (∀ b o, s.heap.get? b = some o → h'.get? b = some o) → Q (.ref s.heap.objs.size) { s with heap := h', toks := tk }) :
    wpAny (model P w) A (call (.type "set") [.ref l]) Q E s := by
  have n : items.size = ns.length := by simpa using hi.length
  generalize hS : s.heap.objs.size = S at q
  obtain ⟨c, tl, hmro⟩ := F.called_set.mro
  have hmade := F.called_set.made
  have hsub := F.called_set.sub
  refine wpAny_call (codeAny_of_tree ?_)
  show wpAny _ _ (callAny (.type "set") _) _ _ _
  refine wpAny_pure ⟨Code.quiet_builtin _ (by decide +kernel), codeAny_builtin F.entry_type_call ?_⟩
  rw [Around.under_plain (weight_type_call_type "set" [.ref l] []) rfl]
  have k1 := F.called_set.notType
  have k2 := F.called_set.canCreate
  have k3 := F.typeCall_set_1 (.ref l)
  repeat (any_goals (first | assumption | wp_step))
  refine codeAny_mono (code_set_led1 (.ref l) (E := E) (Q₁ := fun obj s1 => obj = .ref S ∧ s1 = { s with heap := s.heap.push (setObj w) }) ⟨by rw [hS], rfl⟩) fun r s1 hr => ?_
  cases r with
  | error e => exact hr
  | ok fl =>
    cases fl with
    | ret obj =>
      obtain ⟨rfl, rfl⟩ := hr
      have gS : (s.heap.push (setObj w)).get? S = some (setObj w) := by rw [← hS]; exact Heap.get?_push_size _ rfl
      have hT : Shared.TypeIs { s with heap := s.heap.push (setObj w) } (.ref S) "set" := ⟨_, gS, rfl⟩
      have k4 := F.called_set.init.lookup
      have k5 := F.called_set.init.bind (.ref S)
      repeat (any_goals (first | assumption | wp_step))
      refine codeAny_mono (codeAny_call_builtin (R := wants (fun r s2 => r = .none ∧ ∃ h' tk c, s2 = { s with heap := h', toks := tk } ∧ c ≤ ns.length ∧ SetR w h' S (fun j => decide (j ∈ ns)) c ∧ ∀ b o, s.heap.get? b = some o → h'.get? b = some o) E) F.called_set.init.plain F.entry_set_init (check_set_init_1 hT ?_)) fun r2 s2 hr2 => ?_
      · obtain ⟨⟨oc, od, dt, osl⟩, g1, g2, nl, g3⟩ := hl
        simp only at g2 g3
        subst g2 g3
        have gl : (s.heap.push (setObj w)).get? l = some { cls := .type "list", dict := od, data := .seq items nl, slots := osl } := Heap.get?_push_of_some _ g1
        have k6 := F.sub_list_set
        have k7 := F.sub_list_frozenset
        have k8 : (Value.type "list" == Value.type "dict") = false := by decide
        have gL : (s.heap.push (setObj w)).IsList l items := ⟨_, gl, rfl, nl, rfl⟩
        unfold Builtin.«set.__init__» noKeywords Builtin.Frozenset.updateFrom
        generalize hPI : pyIter = PI
        wp_walk
        subst hPI
        refine wpAny_pyIter_list gL (wpAny_bind (wpAny_runValue ?_))
        have lS : l < S := by rw [← hS]; exact Heap.lt_size g1
        have z1 : (s.heap.push (setObj w)).objs.size = S + 1 := by rw [Heap.size_push, hS]
        have hh3 : A.in1.in1.in1.handled = none := by simp [hh]
        have no : S ∉ [(s.heap.push (setObj w)).objs.size, l] := fun z => by
          rw [z1] at z
          rcases List.mem_cons.mp z with z | z
          · exact absurd z (Nat.ne_of_lt (Nat.lt_succ_self S))
          · exact absurd (List.mem_singleton.mp z) (Nat.ne_of_gt lS)
        refine set_update_ints ((Walks.list hh3 (s.heap.push (setObj w)).objs.size l (Nat.ne_of_lt (by rw [z1]; exact Nat.lt_succ_of_lt lS)) items).toS) S no ns n (by unfold scanBound; omega) (fun i v hv => ?_) (items.size - 0) 0 _ (by omega) (Nat.zero_le _)
          ⟨⟨_, Heap.get?_push_size _ rfl, rfl, rfl⟩, gL.push _⟩ ⟨0, Nat.le_refl _, setR_new_at (Heap.get?_push_of_some _ gS)⟩ fun s' c mv hc N => ?_
        · obtain ⟨tt, ht⟩ := hi.int_at i v (by rw [Array.getElem?_toList]; exact hv)
          have : i < ns.length := by
            have := (Array.getElem?_eq_some_iff.mp hv).1
            omega
          exact ⟨ns[i], tt, List.getElem?_eq_getElem this, by rw [ht]; simp [List.getD_eq_getElem?_getD, List.getElem?_eq_getElem this]⟩
        · obtain ⟨h', g', d', tk', os'⟩ := s'
          have e1 : g' = s.gens := mv.gens
          have e2 : d' = s.drawn := mv.drawn
          have e3 : os' = s.os := mv.os
          subst e1 e2 e3
          rw [n] at hc
          have kp : ∀ b o, s.heap.get? b = some o → h'.get? b = some o := fun b o e => by
            have hb := Heap.lt_size e
            rw [hS] at hb
            refine mv.heap b o (fun z => ?_) (Heap.get?_push_of_some _ (Heap.get?_push_of_some _ e))
            rcases List.mem_cons.mp z with z | z
            · exact absurd z (Nat.ne_of_lt hb)
            · rw [List.mem_singleton.mp z, z1] at hb
              exact absurd hb (Nat.not_lt.mpr (Nat.le_succ _))
          show wpAny _ _ _ _ _ _
          refine wpAny_pure ?_
          show wpAny _ _ (ret Value.none) _ _ _
          exact wpAny_pure ⟨rfl, h', tk', c, rfl, hc, N, kp⟩
      · cases r2 with
        | error e => exact hr2
        | ok fl2 =>
          cases fl2 with
          | ret r =>
            obtain ⟨rfl, h', tk, c, rfl, hc, N, kp⟩ := hr2
            repeat (any_goals (first | assumption | wp_step))
            exact q _ _ _ hc N kp
          | _ => exact hr2.elim
    | _ => exact hr.elim
/-- set(xs), xs a tuple of ints -/
theorem icallT {l : Addr} {items : Array Value} {ns : List Int} {Q : Value → Shared → Prop} (hh : A.handled = none) (hl : s.heap.IsTuple l items) (hi : IntsAre items.toList ns) (few : ns.length < 64)
    (q : ∀ (h' : Heap) (tk c : Nat), c ≤ ns.length → SetR w h' s.heap.objs.size (fun j => decide (j ∈ ns)) c → (∀ b o, s.heap.get? b = some o → h'.get? b = some o) → Q (.ref s.heap.objs.size) { s with heap := h', toks := tk }) :
    wpAny (model P w) A (call (.type "set") [.ref l]) Q E s := by
  have n : items.size = ns.length := by simpa using hi.length
  generalize hS : s.heap.objs.size = S at q
  obtain ⟨c, tl, hmro⟩ := F.called_set.mro
  have hmade := F.called_set.made
  have hsub := F.called_set.sub
  refine wpAny_call (codeAny_of_tree ?_)
  show wpAny _ _ (callAny (.type "set") _) _ _ _
  refine wpAny_pure ⟨Code.quiet_builtin _ (by decide +kernel), codeAny_builtin F.entry_type_call ?_⟩
  rw [Around.under_plain (weight_type_call_type "set" [.ref l] []) rfl]
  have k1 := F.called_set.notType
  have k2 := F.called_set.canCreate
  have k3 := F.typeCall_set_1 (.ref l)
  repeat (any_goals (first | assumption | wp_step))
  refine codeAny_mono (code_set_led1 (.ref l) (E := E) (Q₁ := fun obj s1 => obj = .ref S ∧ s1 = { s with heap := s.heap.push (setObj w) }) ⟨by rw [hS], rfl⟩) fun r s1 hr => ?_
  cases r with
  | error e => exact hr
  | ok fl =>
    cases fl with
    | ret obj =>
      obtain ⟨rfl, rfl⟩ := hr
      have gS : (s.heap.push (setObj w)).get? S = some (setObj w) := by rw [← hS]; exact Heap.get?_push_size _ rfl
      have hT : Shared.TypeIs { s with heap := s.heap.push (setObj w) } (.ref S) "set" := ⟨_, gS, rfl⟩
      have k4 := F.called_set.init.lookup
      have k5 := F.called_set.init.bind (.ref S)
      repeat (any_goals (first | assumption | wp_step))
      refine codeAny_mono (codeAny_call_builtin (R := wants (fun r s2 => r = .none ∧ ∃ h' tk c, s2 = { s with heap := h', toks := tk } ∧ c ≤ ns.length ∧ SetR w h' S (fun j => decide (j ∈ ns)) c ∧ ∀ b o, s.heap.get? b = some o → h'.get? b = some o) E) F.called_set.init.plain F.entry_set_init (check_set_init_1 hT ?_)) fun r2 s2 hr2 => ?_
      · obtain ⟨⟨oc, od, dt, osl⟩, g1, g2, nl, g3⟩ := hl
        simp only at g2 g3
        subst g2 g3
        have gl : (s.heap.push (setObj w)).get? l = some { cls := .type "tuple", dict := od, data := .seq items nl, slots := osl } := Heap.get?_push_of_some _ g1
        have k6 := F.sub_tuple_set
        have k7 := F.sub_tuple_frozenset
        have k8 : (Value.type "tuple" == Value.type "dict") = false := by decide
        have gL : (s.heap.push (setObj w)).IsTuple l items := ⟨_, gl, rfl, nl, rfl⟩
        unfold Builtin.«set.__init__» noKeywords Builtin.Frozenset.updateFrom
        generalize hPI : pyIter = PI
        wp_walk
        subst hPI
        refine wpAny_pyIter_tuple gL (wpAny_bind (wpAny_runValue ?_))
        have lS : l < S := by rw [← hS]; exact Heap.lt_size g1
        have z1 : (s.heap.push (setObj w)).objs.size = S + 1 := by rw [Heap.size_push, hS]
        have hh3 : A.in1.in1.in1.handled = none := by simp [hh]
        have no : S ∉ [(s.heap.push (setObj w)).objs.size, l] := fun z => by
          rw [z1] at z
          rcases List.mem_cons.mp z with z | z
          · exact absurd z (Nat.ne_of_lt (Nat.lt_succ_self S))
          · exact absurd (List.mem_singleton.mp z) (Nat.ne_of_gt lS)
        refine set_update_ints ((Walks.tuple hh3 (s.heap.push (setObj w)).objs.size l (Nat.ne_of_lt (by rw [z1]; exact Nat.lt_succ_of_lt lS)) items).toS) S no ns n (by unfold scanBound; omega) (fun i v hv => ?_) (items.size - 0) 0 _ (by omega) (Nat.zero_le _)
          ⟨⟨_, Heap.get?_push_size _ rfl, rfl, rfl⟩, gL.push _⟩ ⟨0, Nat.le_refl _, setR_new_at (Heap.get?_push_of_some _ gS)⟩ fun s' c mv hc N => ?_
        · obtain ⟨tt, ht⟩ := hi.int_at i v (by rw [Array.getElem?_toList]; exact hv)
          have : i < ns.length := by
            have := (Array.getElem?_eq_some_iff.mp hv).1
            omega
          exact ⟨ns[i], tt, List.getElem?_eq_getElem this, by rw [ht]; simp [List.getD_eq_getElem?_getD, List.getElem?_eq_getElem this]⟩
        · obtain ⟨h', g', d', tk', os'⟩ := s'
          have e1 : g' = s.gens := mv.gens
          have e2 : d' = s.drawn := mv.drawn
          have e3 : os' = s.os := mv.os
          subst e1 e2 e3
          rw [n] at hc
          have kp : ∀ b o, s.heap.get? b = some o → h'.get? b = some o := fun b o e => by
            have hb := Heap.lt_size e
            rw [hS] at hb
            refine mv.heap b o (fun z => ?_) (Heap.get?_push_of_some _ (Heap.get?_push_of_some _ e))
            rcases List.mem_cons.mp z with z | z
            · exact absurd z (Nat.ne_of_lt hb)
            · rw [List.mem_singleton.mp z, z1] at hb
              exact absurd hb (Nat.not_lt.mpr (Nat.le_succ _))
          show wpAny _ _ _ _ _ _
          refine wpAny_pure ?_
          show wpAny _ _ (ret Value.none) _ _ _
          exact wpAny_pure ⟨rfl, h', tk', c, rfl, hc, N, kp⟩
      · cases r2 with
        | error e => exact hr2
        | ok fl2 =>
          cases fl2 with
          | ret r =>
            obtain ⟨rfl, h', tk, c, rfl, hc, N, kp⟩ := hr2
            repeat (any_goals (first | assumption | wp_step))
            exact q _ _ _ hc N kp
          | _ => exact hr2.elim
    | _ => exact hr.elim
end
end Mp

set_option Elab.async false
set_option linter.all false
set_option maxRecDepth 100000
namespace Mp
open PySem PySem.Spec PyProof.Rows L2

/-! ### a small language -/
inductive Bop where
  | add | sub | mul | mod | fdiv | pow
  deriving DecidableEq
inductive Cop where
  | eq | ne | lt | le | gt | ge | in_ | nin | isN | notN
  deriving DecidableEq
inductive B1 where
  | len | tup | lst | srt | all | any | int | abs | sum | max | min | lrg | trg | sset
  deriving DecidableEq
mutual
inductive CE where
  | var (i : Nat)
  | kn | kb (b : Bool) | ki (i : Int) | ks (x : Str)
  | bin (op : Bop) (a b : CE)
  | neg (a : CE)
  | cmp (op : Cop) (a b : CE)
  | chain (o1 o2 : Cop) (a b c : CE)
  | band (es : CL) | bor (es : CL) | not_ (a : CE)
  | orT (a b : CE)
  | ite (t a b : CE)
  | tup (es : CL) | lst (es : CL)
  | idx (a i : CE)
  | no
  | slc (a lo hi : CE)
  | rev (a : CE)
  | newc (es : CL)
  | call (f : Nat) (es : CL)
  | callk (f : Nat) (es ks : CL) (ns : List Nat)
  | kg (x : Str) (i : Int)
  | kz (x z : Str)
  | kdx (x : Str) (ps : List (Str × Str)) (e : CE)
  | dctT (f : Nat) (a : CE)
  | b1 (op : B1) (a : CE)
  | isin (a : CE) (ts : List String)
  | index (a b : CE)
  | comp (t : CT) (it : CI) (c e : CE) (own : List (Str × Nat))
  | comp2 (t : CT) (it : CI) (c : CE) (t1 : CT) (it1 : CI) (c1 e : CE) (own : List (Str × Nat)) (vs1 : List Nat)
  | mm (mx : Bool) (a b : CE)
  | lenO (i : Nat)
  | idxO (i : Nat) (e : CE)
inductive CL where
  | nil
  | cons (e : CE) (es : CL)
  | star (e : CE) (es : CL)
inductive CT where
  | nm (i : Nat)
  | tp (ts : CTs)
inductive CTs where
  | nil
  | cons (t : CT) (ts : CTs)
inductive CI where
  | dat (e : CE)
  | rg1 (e : CE)
  | rg2 (a b : CE)
  | zip (a b : CE)
  | enum (a : CE)
end
inductive Flow' where
  | nx (r : Env') | rt (x : MV) | bk (r : Env') | ct (r : Env')
inductive SRes where
  | nx (r : Env') (m : Mem)
  | rt (x : MV) (m : Mem)
  | bk (r : Env') (m : Mem)
  | ct (r : Env') (m : Mem)
  | ex (c : Str) (x : Option PyData) (r : Env') (m : Mem)
  | bad
/-- what a handler tells -/
inductive HE where
  | str (x : Str)
  | isv
/-- what a clause tells: a text, isinstance of the base, the field -/
inductive HF where
  | str (x : Str)
  | isv
  | isl
  | num (f : Str)
/-- a clause: its class, its name's slot, the slot where what it tells is stored (none: it is returned) -/
structure Clz where
  c : Str
  i : Nat
  k : Option Nat
  hs : List HF
mutual
inductive CS where
  | asg (i : Nat) (e : CE)
  | asgO (i : Nat) (e : CE)
  | asgT (t : CTs) (e : CE)
  | par (l : List Nat) (bs : List Bool) (es : CL)
  | setC (i : Nat) (k e : CE)
  | setO (i : Nat) (k e : CE)
  | app (i : Nat) (e : CE)
  | appPop (i j : Nat) (e : CE)
  | ext (i : Nat) (e : CE)
  | do_ (e : CE)
  | whl (t : CE) (b : CSs)
  | ret (e : CE)
  | retF (e : CE)
  | retC (i : Nat)
  | retN
  | if_ (t : CE) (a b : CSs)
  | for_ (t : CT) (it : CI) (b : CSs)
  | pas
  | raise (c : Str) (e : CE)
  | try1 (b : CSs) (c : Str) (i : Nat) (xs : List Str) (k : Option Nat) (hs : List HE)
  | tryN (b : CSs) (qs : List Clz) (xs : List Str)
  | dead
inductive CSs where
  | nil
  | cons (s : CS) (ss : CSs)
  | frz (i : Nat) (ss : CSs)
end

/-! ### what the operators do to data -/
abbrev D := PyData
def bigOk (i j : Int) : Bool := decide ((-(2 ^ 64) < i ∧ i < 2 ^ 64) ∨ (-(2 ^ 64) < j ∧ j < 2 ^ 64))
def binD : Bop → D → D → Option D
  | .add, .int i, .int j => some (.int (i + j))
  | .add, .tuple xs, .tuple ys => if xs.length + ys.length ≤ sizeLine then some (.tuple (xs ++ ys)) else none
  | .add, .list xs, .list ys => if xs.length + ys.length ≤ sizeLine then some (.list (xs ++ ys)) else none
  | .sub, .int i, .int j => some (.int (i - j))
  | .mul, .int i, .int j => if bigOk i j then some (.int (i * j)) else none
  | .mul, .tuple xs, .int k => if xs ≠ [] ∧ 1 ≤ k ∧ k ≤ 1000 ∧ xs.length ≤ 1000 then some (.tuple (List.replicate k.toNat xs).flatten) else none
  | .mul, .list xs, .int k => if -(2 ^ 63) ≤ k ∧ k < 2 ^ 63 ∧ xs.length * k.toNat ≤ sizeLine then some (.list (List.replicate k.toNat xs).flatten) else none
  | .mod, .int i, .int j => if 0 < j then some (.int (i % j)) else none
  | .fdiv, .int i, .int j => if 0 < j ∧ j < 1073741824 then some (.int (i / j)) else none
  | .pow, .int i, .int j => if 0 ≤ j ∧ j ≤ 1000000 ∧ i.natAbs < 2 ^ 64 then some (.int (i ^ j.toNat)) else none
  | _, _, _ => none
def plain (d : D) : Bool := SeqAt.shaped d
def itemsOf : D → Option (List D)
  | .list xs => some xs
  | .tuple xs => some xs
  | _ => none
def ordD (t : Bool) (a b : D) : Option Bool := if PySem.W.alike a b = true ∧ plain a = true ∧ plain b = true then some t else none
def cmpD : Cop → D → D → Option Bool
  | .eq, a, b => if plain a = true ∧ plain b = true then some (PyData.eqv a b) else none
  | .ne, a, b => if plain a = true ∧ plain b = true then some (!PyData.eqv a b) else none
  | .lt, .int i, .int j => some (decide (i < j))
  | .lt, .tuple xs, .tuple ys => ordD (PySem.W.dataLt (.tuple xs) (.tuple ys)) (.tuple xs) (.tuple ys)
  | .le, .int i, .int j => some (decide (i ≤ j))
  | .le, .tuple xs, .tuple ys => ordD (!PySem.W.dataLt (.tuple ys) (.tuple xs)) (.tuple xs) (.tuple ys)
  | .gt, .int i, .int j => some (decide (j < i))
  | .ge, .int i, .int j => some (decide (j ≤ i))
  | .in_, a, .list ys => if plain a = true ∧ plain (.list ys) = true then some (ys.any fun z => PyData.eqv z a) else none
  | .in_, a, .tuple ys => if plain a = true ∧ plain (.tuple ys) = true then some (ys.any fun z => PyData.eqv z a) else none
  | .nin, a, .list ys => if plain a = true ∧ plain (.list ys) = true then some (!ys.any fun z => PyData.eqv z a) else none
  | .nin, a, .tuple ys => if plain a = true ∧ plain (.tuple ys) = true then some (!ys.any fun z => PyData.eqv z a) else none
  | .isN, .none, .none => some true
  | .isN, _, .none => some false
  | .notN, .none, .none => some false
  | .notN, _, .none => some true
  | _, _, _ => none
def boolsOf : List D → Option (List Bool)
  | [] => some []
  | .bool b :: r => (boolsOf r).map (b :: ·)
  | _ => none
def intsOf : List D → Option (List Int)
  | [] => some []
  | .int b :: r => (intsOf r).map (b :: ·)
  | _ => none
def allAlike (ds : List D) : Bool := ds.all fun a => ds.all fun b => PySem.W.alike a b
def sortable (ds : List D) : Bool := (ds.all fun d => match d with | .tuple (_ :: _) => true | _ => false) || (ds.all fun d => match d with | .tuple _ => false | .none => false | _ => true)
section
variable {α : Type} (le : α → α → Bool)
def mrgK : Nat → List α → List α → List α
  | 0, xs, ys => xs ++ ys
  | _ + 1, [], ys => ys
  | _ + 1, x :: xs, [] => x :: xs
  | n + 1, x :: xs, y :: ys => if le x y = true then x :: mrgK n xs (y :: ys) else y :: mrgK n (x :: xs) ys
theorem mrgK_eq : ∀ (n : Nat) (xs ys : List α), xs.length + ys.length ≤ n → mrgK le n xs ys = List.merge xs ys le
  | 0, xs, ys, h => by
    have h1 : xs = [] := List.length_eq_zero_iff.mp (by omega)
    have h2 : ys = [] := List.length_eq_zero_iff.mp (by omega)
    subst h1 h2
    simp [mrgK]
  | n + 1, [], ys, _ => by simp [mrgK]
  | n + 1, x :: xs, [], _ => by simp [mrgK]
  | n + 1, x :: xs, y :: ys, h => by
    simp only [List.length_cons] at h
    have h1 := mrgK_eq n xs (y :: ys) (by simp only [List.length_cons]; omega)
    have h2 := mrgK_eq n (x :: xs) ys (by simp only [List.length_cons]; omega)
    simp only [mrgK, h1, h2]
    rw [List.merge]
def srtK : Nat → List α → List α
  | 0, xs => xs
  | _ + 1, [] => []
  | _ + 1, [a] => [a]
  | n + 1, a :: b :: xs => mrgK le (xs.length + 2) (srtK n ((a :: b :: xs).take ((xs.length + 3) / 2))) (srtK n ((a :: b :: xs).drop ((xs.length + 3) / 2)))
theorem srtK_len : ∀ (n : Nat) (xs : List α), xs.length ≤ n → srtK le n xs = xs.mergeSort le
  | 0, xs, h => by
    have h1 : xs = [] := List.length_eq_zero_iff.mp (by omega)
    subst h1
    simp [srtK]
  | n + 1, [], _ => by simp [srtK]
  | n + 1, [a], _ => by simp [srtK]
  | n + 1, a :: b :: xs, h => by
    simp only [List.length_cons] at h
    have h1 := srtK_len n ((a :: b :: xs).take ((xs.length + 3) / 2)) (by simp only [List.length_take, List.length_cons]; omega)
    have h2 := srtK_len n ((a :: b :: xs).drop ((xs.length + 3) / 2)) (by simp only [List.length_drop, List.length_cons]; omega)
    simp only [srtK, h1, h2]
    rw [mrgK_eq, List.mergeSort]
    · simp only [List.MergeSort.Internal.splitInTwo_fst, List.MergeSort.Internal.splitInTwo_snd]
      rfl
    · simp only [List.length_mergeSort, List.length_take, List.length_drop, List.length_cons]
      omega
end
def sortD (ds : List D) : List D := srtK (PySem.W.dataLe false fun x => x) ds.length ds
theorem sortD_eq (ds : List D) : sortD ds = ds.mergeSort (PySem.W.dataLe false fun x => x) := srtK_len _ _ _ (Nat.le_refl _)
def maxI : List Int → Int
  | [] => 0
  | x :: r => r.foldl (fun a b => if a < b then b else a) x
def minI : List Int → Int
  | [] => 0
  | x :: r => r.foldl (fun a b => if b < a then b else a) x
def rangeD (a b : Int) : List D := (List.range (b - a).toNat).map fun (i : Nat) => PyData.int (a + (i : Int))
def rgOk (a b : Int) : Bool := decide (-(2 ^ 62) ≤ a ∧ a < 2 ^ 62 ∧ -(2 ^ 62) ≤ b ∧ b < 2 ^ 62 ∧ (b - a).toNat ≤ sizeLine)
def dedupD : List D → List D
  | [] => []
  | x :: r => x :: (dedupD r).filter fun y => !PyData.eqv y x
/-! ### data of ints and tuples -/
mutual
def flatD : PyData → Bool
  | .int _ => true
  | .tuple xs => flatDs xs
  | _ => false
def flatDs : List PyData → Bool
  | [] => true
  | x :: xs => flatD x && flatDs xs
end
mutual
def nkey : PyData → NestedKey
  | .int i => .num i
  | .tuple xs => .tup (nkeys xs)
  | _ => .none
def nkeys : List PyData → List NestedKey
  | [] => []
  | x :: xs => nkey x :: nkeys xs
end
/-! ### sorted(set(..)) of data -/
def insD (x : PyData) : List PyData → List PyData
  | [] => [x]
  | y :: r => if PySem.W.dataLt x y then x :: y :: r else if PySem.W.dataLt y x then y :: insD x r else y :: r
def uniqD (xs : List PyData) : List PyData := xs.foldr insD []
def strictB : List PyData → Bool
  | [] => true
  | x :: r => !PySem.W.dataLt x x && (r.all fun y => PySem.W.dataLt x y && !PySem.W.dataLt y x) && strictB r
def isTupD : PyData → Bool
  | .tuple (_ :: _) => true
  | _ => false
def keyB (d : PyData) : Bool := isTupD d && flatD d && decide ((nkey d).depth ≤ 8) && plain d
def ssetOk (xs o : List PyData) : Bool := xs.all keyB && o.all keyB && decide (xs.length < 64) && strictB o && allAlike o && (xs.all fun x => (o.map nkey).contains (nkey x)) && o.all fun x => (xs.map nkey).contains (nkey x)
def ssetD (xs : List PyData) : Option PyData := if ssetOk xs (uniqD xs) then some (.list (uniqD xs)) else none
def insI (x : Int) : List Int → List Int
  | [] => [x]
  | y :: r => if x < y then x :: y :: r else if y < x then y :: insI x r else y :: r
def uniqI (ns : List Int) : List Int := ns.foldr insI []
def ssetI (ns : List Int) : Option PyData := if ns.length < 64 ∧ (uniqI ns).Pairwise (· < ·) ∧ (∀ k ∈ ns, k ∈ uniqI ns) ∧ ∀ k ∈ uniqI ns, k ∈ ns then some (.list ((uniqI ns).map .int)) else none
def ssetOf (xs : List PyData) : Option PyData := match intsOf xs with
  | some ns => ssetI ns
  | none => ssetD xs
def prsOf : List D → Option (List (Int × D))
  | [] => some []
  | .tuple [.int k, v] :: r => (prsOf r).map ((k, v) :: ·)
  | _ => none
def getT : List (Int × D) → Int → Option D
  | [], _ => none
  | p :: r, i => if p.1 = i then some p.2 else getT r i
def inT : Cop → D → List (Int × D) → Option Bool
  | .in_, .int i, kvs => some (getT kvs i).isSome
  | .nin, .int i, kvs => some (!(getT kvs i).isSome)
  | _, _, _ => none
def isSeq : D → Bool
  | .list _ => true
  | .tuple _ => true
  | _ => false
def b1D : B1 → D → Option D
  | .len, .list xs => some (.int xs.length)
  | .len, .tuple xs => some (.int xs.length)
  | .tup, .list xs => some (.tuple xs)
  | .tup, .tuple xs => some (.tuple xs)
  | .lst, .list xs => some (.list xs)
  | .lst, .tuple xs => some (.list xs)
  | .srt, .list xs => if allAlike xs = true ∧ sortable xs = true ∧ xs.all plain = true then some (.list (sortD xs)) else none
  | .srt, .tuple xs => if allAlike xs = true ∧ sortable xs = true ∧ xs.all plain = true then some (.list (sortD xs)) else none
  | .all, .list xs => (boolsOf xs).map fun bs => .bool (bs.all id)
  | .any, .list xs => (boolsOf xs).map fun bs => .bool (bs.any id)
  | .int, .int i => some (.int i)
  | .int, .bool b => some (.int (if b then 1 else 0))
  | .abs, .int i => some (.int (if i < 0 then -i else i))
  | .sum, .list xs => (intsOf xs).map fun ns => .int ns.sum
  | .max, .list xs => (intsOf xs).bind fun ns => if 0 < ns.length then some (.int (maxI ns)) else none
  | .min, .list xs => (intsOf xs).bind fun ns => if 0 < ns.length then some (.int (minI ns)) else none
  | .lrg, .int n => if rgOk 0 n = true then some (.list (rangeD 0 n)) else none
  | .trg, .int n => if rgOk 0 n = true then some (.tuple (rangeD 0 n)) else none
  | .sset, .list xs => ssetOf xs
  | .sset, .tuple xs => ssetOf xs
  | _, _ => none
def isD : D → String → Bool
  | .none, t => t == "NoneType"
  | .bool _, t => t == "bool" || t == "int"
  | .int _, t => t == "int"
  | .str _, t => t == "str"
  | .list _, t => t == "list"
  | .tuple _, t => t == "tuple"
  | .dict _, t => t == "dict"
def cutD (xs : List D) (lo hi : Option Int) : List D := (xs.drop (HT.sIx xs.length 0 lo)).take (HT.sIx xs.length xs.length hi - HT.sIx xs.length 0 lo)
def slcD : D → Option Int → Option Int → Option D
  | .list xs, lo, hi => some (.list (cutD xs lo hi))
  | .tuple xs, lo, hi => some (.tuple (cutD xs lo hi))
  | _, _, _ => none
def findD (ys : List D) (x : D) : Option Nat := ys.findIdx? fun z => PyData.eqv z x

/-! ### running it -/
/-- the program's defs: parameters, slots, body -/
structure Def where
  name : Str
  ps : List Str
  ns : List Str
  body : CSs
/-- the program: its defs, its names of ints -/
structure Tab where
  fs : List Def
  ks : List (Str × Int)
  xs : List Str
  zs : List (Str × Str)
  ds : List (Str × List (Str × Str))
  tp : List Nat
  fx : List (Str × Str)
/-- all classes of its own -/
def Tab.cs (T : Tab) : List Str := T.xs ++ T.fx.map (·.1)
abbrev Calls := Nat → List MV → Mem → Res MV
def dOf : MV → Option D
  | .d x => some x
  | _ => none
def asD {β : Type} (k : D → Mem → Res β) : MV → Mem → Res β
  | .d x, m => k x m
  | _, _ => .bad
def optD (o : Option D) (m : Mem) : Res MV := match o with
  | some d => .ok (.d d) m
  | none => .bad
def optB (o : Option Bool) (m : Mem) : Res MV := match o with
  | some b => .ok (.d (.bool b)) m
  | none => .bad
def idxM : MV → D → Mem → Res MV
  | .d (.list xs), .int i, m => optD (atI xs i) m
  | .d (.tuple xs), .int i, m => optD (atI xs i) m
  | .c k, .int i, m => (match m[k]? with
    | some xs => optD (atI xs i) m
    | _ => .bad)
  | .t kvs, .int i, m => optD (getT kvs i) m
  | _, _, _ => .bad
def noEx {α : Type} : Res α → Res α
  | .ok a m => .ok a m
  | _ => .bad
/-- items of a walk, one by one -/
def mapM' (f : MV → Mem → Res (Option D)) : List MV → Mem → Res (List D)
  | [], m => .ok [] m
  | x :: xs, m => (noEx (f x m)).bind fun o m1 => (mapM' f xs m1).bind fun r m2 => .ok (match o with | some d => d :: r | none => r) m2
/-- a list grows, item by item -/
def foldA (f : MV → List PyData → Mem → Res (List PyData)) : List MV → List PyData → Mem → Res (List PyData)
  | [], acc, m => .ok acc m
  | x :: xs, acc, m => (noEx (f x acc m)).bind fun acc1 m1 => foldA f xs acc1 m1
mutual
/-- a target takes a value -/
def tgt : CT → MV → Env' → Option Env'
  | .nm i, v, r => if i < r.length then some (r.set i (.v v)) else none
  | .tp ts, .d (.tuple xs), r => tgts ts xs r
  | .tp ts, .d (.list xs), r => tgts ts xs r
  | .tp _, _, _ => none
termination_by structural x => x
def tgts : CTs → List D → Env' → Option Env'
  | .nil, [], r => some r
  | .cons t ts, x :: xs, r => (tgt t (.d x) r).bind fun r1 => tgts ts xs r1
  | _, _, _ => none
termination_by structural x => x
end
def wipeE (r : Env') : List Nat → Env'
  | [] => r
  | v :: vs => (wipeE r vs).set v .un
def zipD : List D → List D → List D
  | x :: xs, y :: ys => .tuple [x, y] :: zipD xs ys
  | _, _ => []
def enumD : Nat → List D → List D
  | _, [] => []
  | i, x :: xs => .tuple [.int (i : Int), x] :: enumD (i + 1) xs
def noB : CE → Bool
  | .no => true
  | _ => false
def partO (e : CE) (ev : Env' → Mem → Res MV) (r : Env') (m : Mem) : Res (Option Int) := if noB e then .ok none m else (ev r m).bind fun x m1 => (match x with
  | .d (.int i) => .ok (some i) m1
  | _ => .bad)
mutual
def evE (cl : Calls) : CE → Env' → Mem → Res MV
  | .var i, r, m => (match r[i]? with
    | some (.v x) => .ok x m
    | _ => .bad)
  | .kn, _, m => .ok (.d .none) m
  | .kb b, _, m => .ok (.d (.bool b)) m
  | .ki i, _, m => .ok (.d (.int i)) m
  | .ks x, _, m => .ok (.d (.str x)) m
  | .bin op a b, r, m => (evE cl a r m).bind fun x m1 => (evE cl b r m1).bind fun y m2 => (match x, y with
    | .d x, .d y => optD (binD op x y) m2
    | _, _ => .bad)
  | .neg a, r, m => (evE cl a r m).bind fun x m1 => (match x with
    | .d (.int i) => .ok (.d (.int (-i))) m1
    | _ => .bad)
  | .cmp op a b, r, m => (evE cl a r m).bind fun x m1 => (evE cl b r m1).bind fun y m2 => (match x, y with
    | .d x, .d y => optB (cmpD op x y) m2
    | .d x, .t kvs => optB (inT op x kvs) m2
    | _, _ => .bad)
  | .chain o1 o2 a b c, r, m => (evE cl a r m).bind fun x m1 => (evE cl b r m1).bind fun y m2 => (match x, y with
    | .d x, .d y => (match cmpD o1 x y with
      | some true => (evE cl c r m2).bind fun z m3 => (match z with
        | .d z => optB (cmpD o2 y z) m3
        | _ => .bad)
      | some false => .ok (.d (.bool false)) m2
      | none => .bad)
    | _, _ => .bad)
  | .band es, r, m => evAnd cl es r m
  | .bor es, r, m => evOr cl es r m
  | .not_ a, r, m => (evE cl a r m).bind fun x m1 => (match x with
    | .d (.bool c) => .ok (.d (.bool (!c))) m1
    | _ => .bad)
  | .orT a b, r, m => (evE cl a r m).bind fun x m1 => (match x with
    | .d (.list []) => evE cl b r m1
    | .d (.list (x :: xs)) => .ok (.d (.list (x :: xs))) m1
    | _ => .bad)
  | .ite t a b, r, m => (evE cl t r m).bind fun x m1 => (match x with
    | .d (.bool true) => evE cl a r m1
    | .d (.bool false) => evE cl b r m1
    | _ => .bad)
  | .tup es, r, m => (evL cl es r m).bind fun xs m1 => if xs.length ≤ sizeLine then .ok (.d (.tuple xs)) m1 else .bad
  | .lst es, r, m => (evL cl es r m).bind fun xs m1 => if xs.length ≤ sizeLine then .ok (.d (.list xs)) m1 else .bad
  | .idx a i, r, m => (evE cl a r m).bind fun x m1 => (evE cl i r m1).bind fun y m2 => (match y with
    | .d y => idxM x y m2
    | _ => .bad)
  | .newc es, r, m => (evL cl es r m).bind fun xs m1 => if xs.length ≤ sizeLine then .ok (.c m1.length) (m1 ++ [xs]) else .bad
  | .no, _, _ => .bad
  | .slc a lo hi, r, m => (evE cl a r m).bind fun x m1 => (partO lo (evE cl lo) r m1).bind fun l m2 => (partO hi (evE cl hi) r m2).bind fun h m3 => (match x with
    | .d x => optD (slcD x l h) m3
    | .s ns => optD (slcD (.list (ns.map .int)) l h) m3
    | _ => .bad)
  | .rev a, r, m => (evE cl a r m).bind fun x m1 => (match x with
    | .d (.list xs) => .ok (.d (.list xs.reverse)) m1
    | .d (.tuple xs) => .ok (.d (.tuple xs.reverse)) m1
    | _ => .bad)
  | .call f es, r, m => (evA cl es r m).bind fun xs m1 => cl f xs m1
  | .callk f es ks ns, r, m => (evA cl es r m).bind fun xs m1 => (evA cl ks r m1).bind fun ys m2 => cl f (ns.filterMap fun i => (xs ++ ys)[i]?) m2
  | .kg _ i, _, m => .ok (.d (.int i)) m
  | .kz _ z, _, m => .ok (.d (.str z)) m
  | .dctT f a, r, m => (evE cl a r m).bind fun x m1 => (match x with
    | .d x => if isSeq x = true then (cl f [.d x] m1).bind fun y m2 => (match y with
      | .d (.tuple ds) => (match prsOf ds with
        | some kvs => if (kvs.map (·.1)).Nodup then .ok (.t kvs) m2 else .bad
        | none => .bad)
      | _ => .bad) else .bad
    | _ => .bad)
  | .kdx _ ps e, r, m => (evE cl e r m).bind fun y m1 => (match y with
    | .d (.str z) => optD ((ps.lookup z).map .str) m1
    | _ => .bad)
  | .b1 op a, r, m => (evE cl a r m).bind fun x m1 => (match x with
    | .d x => optD (b1D op x) m1
    | _ => .bad)
  | .isin a ts, r, m => (evE cl a r m).bind fun x m1 => (match x with
    | .d x => .ok (.d (.bool (ts.any fun t => isD x t))) m1
    | _ => .bad)
  | .index a b, r, m => (evE cl a r m).bind fun x m1 => (match x with
    | .d (.list xs) => (evE cl b r m1).bind fun y m2 => (match y with
      | .d y => if plain y = true ∧ plain (.list xs) = true then (match findD xs y with
        | some i => .ok (.d (.int (i : Int))) m2
        | none => .bad) else .bad
      | _ => .bad)
    | _ => .bad)
  | .comp t it c e own, r, m => (evI cl it r m).bind fun xs m1 =>
      (mapM' (fun x m => match tgt t x (wipeE r (own.map (·.2))) with
        | some r1 => (evE cl c r1 m).bind fun b m2 => (match b with
          | .d (.bool true) => (evE cl e r1 m2).bind fun y m3 => (match y with
            | .d y => .ok (some y) m3
            | _ => .bad)
          | .d (.bool false) => .ok none m2
          | _ => .bad)
        | none => .bad) xs m1).bind fun ys m2 => .ok (.d (.list ys)) m2
  | .comp2 t it c t1 it1 c1 e own vs1, r, m => (evI cl it r m).bind fun xs m1 =>
      (foldA (fun x acc m => match tgt t x (wipeE r (own.map (·.2))) with
        | some r1 => (evE cl c r1 m).bind fun b m2 => (match b with
          | .d (.bool true) => (evI cl it1 r1 m2).bind fun ys m3 => foldA (fun y acc m => match tgt t1 y (wipeE r1 vs1) with
            | some r2 => (evE cl c1 r2 m).bind fun b m2 => (match b with
              | .d (.bool true) => (evE cl e r2 m2).bind fun z m3 => (match z with
                | .d z => if acc.length < sizeLine then .ok (acc ++ [z]) m3 else .bad
                | _ => .bad)
              | .d (.bool false) => .ok acc m2
              | _ => .bad)
            | none => .bad) ys acc m3
          | .d (.bool false) => .ok acc m2
          | _ => .bad)
        | none => .bad) xs [] m1).bind fun ys m2 => .ok (.d (.list ys)) m2
  | .mm mx a b, r, m => (evE cl a r m).bind fun x m1 => (evE cl b r m1).bind fun y m2 => (match x, y with
    | .d (.int i), .d (.int j) => .ok (.d (.int (if mx then (if j > i then j else i) else (if j < i then j else i)))) m2
    | _, _ => .bad)
  | .lenO i, r, m => (match r[i]? with
    | some (.own xs) => .ok (.d (.int xs.length)) m
    | _ => .bad)
  | .idxO i e, r, m => (match r[i]? with
    | some (.own xs) => (evE cl e r m).bind fun y m1 => (match y with
      | .d (.int j) => optD (atI xs j) m1
      | _ => .bad)
    | _ => .bad)
termination_by structural x => x
def evAnd (cl : Calls) : CL → Env' → Mem → Res MV
  | .cons e .nil, r, m => evE cl e r m
  | .cons e (.cons e2 es), r, m => (evE cl e r m).bind fun x m1 => (match x with
    | .d (.bool true) => evAnd cl (.cons e2 es) r m1
    | .d (.bool false) => .ok (.d (.bool false)) m1
    | _ => .bad)
  | _, _, _ => .bad
termination_by structural x => x
def evOr (cl : Calls) : CL → Env' → Mem → Res MV
  | .cons e .nil, r, m => evE cl e r m
  | .cons e (.cons e2 es), r, m => (evE cl e r m).bind fun x m1 => (match x with
    | .d (.bool false) => evOr cl (.cons e2 es) r m1
    | .d (.bool true) => .ok (.d (.bool true)) m1
    | _ => .bad)
  | _, _, _ => .bad
termination_by structural x => x
def evL (cl : Calls) : CL → Env' → Mem → Res (List D)
  | .nil, _, m => .ok [] m
  | .cons e es, r, m => (evE cl e r m).bind fun x m1 => (match x with
    | .d x => (evL cl es r m1).bind fun xs m2 => .ok (x :: xs) m2
    | _ => .bad)
  | .star e es, r, m => (evE cl e r m).bind fun x m1 => (match x with
    | .d (.list ys) => (evL cl es r m1).bind fun xs m2 => .ok (ys ++ xs) m2
    | .d (.tuple ys) => (evL cl es r m1).bind fun xs m2 => .ok (ys ++ xs) m2
    | _ => .bad)
termination_by structural x => x
def evA (cl : Calls) : CL → Env' → Mem → Res (List MV)
  | .nil, _, m => .ok [] m
  | .cons e es, r, m => (evE cl e r m).bind fun x m1 => (evA cl es r m1).bind fun xs m2 => .ok (x :: xs) m2
  | .star _ _, _, _ => .bad
termination_by structural x => x
def evI (cl : Calls) : CI → Env' → Mem → Res (List MV)
  | .dat e, r, m => (evE cl e r m).bind fun x m1 => (match x with
    | .d (.list xs) => .ok (xs.map .d) m1
    | .d (.tuple xs) => .ok (xs.map .d) m1
    | _ => .bad)
  | .rg1 e, r, m => (evE cl e r m).bind fun x m1 => (match x with
    | .d (.int n) => if rgOk 0 n then .ok ((rangeD 0 n).map .d) m1 else .bad
    | _ => .bad)
  | .rg2 a b, r, m => (evE cl a r m).bind fun x m1 => (evE cl b r m1).bind fun y m2 => (match x, y with
    | .d (.int i), .d (.int n) => if rgOk i n then .ok ((rangeD i n).map .d) m2 else .bad
    | _, _ => .bad)
  | .zip a b, r, m => (evE cl a r m).bind fun x m1 => (evE cl b r m1).bind fun y m2 => (match x, y with
    | .d (.list xs), .d (.list ys) => .ok ((zipD xs ys).map .d) m2
    | .d (.tuple xs), .d (.tuple ys) => .ok ((zipD xs ys).map .d) m2
    | .d (.list xs), .d (.tuple ys) => .ok ((zipD xs ys).map .d) m2
    | .d (.tuple xs), .d (.list ys) => .ok ((zipD xs ys).map .d) m2
    | _, _ => .bad)
  | .enum a, r, m => (evE cl a r m).bind fun x m1 => (match x with
    | .d (.list xs) => .ok ((enumD 0 xs).map .d) m1
    | .d (.tuple xs) => .ok ((enumD 0 xs).map .d) m1
    | _ => .bad)
termination_by structural x => x
end
def SRes.of {α : Type} (x : Res α) (r : Env') (k : α → Mem → SRes) : SRes := match x with
  | .ok a m => k a m
  | .ex c x m => .ex c x r m
  | .bad => .bad
/-- a loop's turns -/
def forS (f : MV → Env' → Mem → SRes) : List MV → Env' → Mem → SRes
  | [], r, m => .nx r m
  | x :: xs, r, m => match f x r m with
    | .nx r1 m1 => forS f xs r1 m1
    | .ct r1 m1 => forS f xs r1 m1
    | .bk r1 m1 => .nx r1 m1
    | .rt v m1 => .rt v m1
    | .ex c x r1 m1 => .ex c x r1 m1
    | .bad => .bad
/-- a while's turns -/
def whlS (c : Env' → Mem → Res MV) (b : Env' → Mem → SRes) : Nat → Env' → Mem → SRes
  | 0, _, _ => .bad
  | n + 1, r, m => .of (c r m) r fun x m1 => (match x with
    | .d (.bool true) => (match b r m1 with
      | .nx r1 m2 => whlS c b n r1 m2
      | .ct r1 m2 => whlS c b n r1 m2
      | .bk r1 m2 => .nx r1 m2
      | .rt v m2 => .rt v m2
      | .ex c x r1 m2 => .ex c x r1 m2
      | .bad => .bad)
    | .d (.bool false) => .nx r m1
    | _ => .bad)
def fuel : Nat := 100000
def ownOf : MV → Mem → Res (List D)
  | .d (.list xs), m => .ok xs m
  | _, _ => .bad
/-- a cell that a call has made -/
def ownCell (n : Nat) : MV → Mem → Res (List D)
  | .c k, m => if n ≤ k then (match m[k]? with
    | some xs => .ok xs (m.take n)
    | none => .bad) else .bad
  | _, _ => .bad
/-- a list that nobody else holds: of an expression, of a call that gives a cell of its own -/
def ownE (cl : Calls) : CE → Env' → Mem → Res (List D)
  | .call f es, r, m => (evE cl (.call f es) r m).bind (ownCell m.length)
  | .callk f es ks ns, r, m => (evE cl (.callk f es ks ns) r m).bind (ownCell m.length)
  | .ite t a b, r, m => (evE cl t r m).bind fun x m1 => (match x with
    | .d (.bool true) => ownE cl a r m1
    | .d (.bool false) => ownE cl b r m1
    | _ => .bad)
  | e, r, m => (evE cl e r m).bind ownOf
termination_by structural x => x
def setAll : List Nat → List Slot → Env' → Option Env'
  | [], [], r => some r
  | i :: l, x :: xs, r => if i < r.length then setAll l xs (r.set i x) else none
  | _, _, _ => none
/-- several things, some of them lists that nobody else holds -/
def evP (cl : Calls) : CL → List Bool → Env' → Mem → Res (List Slot)
  | .nil, [], _, m => .ok [] m
  | .cons e es, false :: bs, r, m => (evE cl e r m).bind fun x m1 => (evP cl es bs r m1).bind fun ss m2 => .ok (.v x :: ss) m2
  | .cons e es, true :: bs, r, m => (ownE cl e r m).bind fun x m1 => (evP cl es bs r m1).bind fun ss m2 => .ok (.own x :: ss) m2
  | _, _, _, _ => .bad
def heD : HE → D
  | .str x => .str x
  | .isv => .bool true
/-- an except suite -/
def hndS (i : Nat) (k : Option Nat) (hs : List HE) (x : Option PyData) (r : Env') (m : Mem) : SRes := match x with
  | some _ => .bad
  | none => match k with
    | none => if i < r.length then .rt (.d (.list (hs.map heD))) m else .bad
    | some j => if j < r.length ∧ i < r.length ∧ i ≠ j then .nx ((r.set j (.v (.d (.list (hs.map heD))))).set i .un) m else .bad
def exS (c : Str) (i : Nat) (xs : List Str) (k : Option Nat) (hs : List HE) (z : SRes) : SRes := match z with
  | .ex c' x r1 m1 => if xs.contains c' = true then (if (c' == c) = true then hndS i k hs x r1 m1 else .ex c' x r1 m1) else .bad
  | z => z
/-- what a clause tells of a payload (a field's name and its value) -/
def hfD (x : Option PyData) : HF → Option PyData
  | .str s => some (.str s)
  | .isv => some (.bool true)
  | .isl => some (.bool true)
  | .num f => match x with
    | some (.tuple [.str g, d]) => if g = f then some d else none
    | _ => none
def hfDs (x : Option PyData) : List HF → Option (List PyData)
  | [] => some []
  | h :: hs => match hfD x h, hfDs x hs with
    | some d, some ds => some (d :: ds)
    | _, _ => none
def hndN (q : Clz) (x : Option PyData) (r : Env') (m : Mem) : SRes := match hfDs x q.hs with
  | none => .bad
  | some ds => match q.k with
    | none => if q.i < r.length then .rt (.d (.list ds)) m else .bad
    | some j => if j < r.length ∧ q.i < r.length ∧ q.i ≠ j then .nx ((r.set j (.v (.d (.list ds)))).set q.i .un) m else .bad
def clsN : List Clz → Str → Option Clz
  | [], _ => none
  | q :: qs, c => if (c == q.c) = true then some q else clsN qs c
def exN (xs : List Str) (qs : List Clz) (z : SRes) : SRes := match z with
  | .ex c x r1 m1 => if xs.contains c = true then (match clsN qs c with
    | some q => hndN q x r1 m1
    | none => .ex c x r1 m1) else .bad
  | z => z
mutual
def evS (cl : Calls) : CS → Env' → Mem → SRes
  | .asg i e, r, m => .of (evE cl e r m) r fun x m1 => if i < r.length then .nx (r.set i (.v x)) m1 else .bad
  | .asgO i e, r, m => .of (ownE cl e r m) r fun xs m1 => if i < r.length then .nx (r.set i (.own xs)) m1 else .bad
  | .asgT t e, r, m => .of (evE cl e r m) r fun x m1 => (match x with
    | .d (.tuple xs) => (match tgts t xs r with
      | some r1 => .nx r1 m1
      | none => .bad)
    | .d (.list xs) => (match tgts t xs r with
      | some r1 => .nx r1 m1
      | none => .bad)
    | _ => .bad)
  | .par l bs es, r, m => .of (evP cl es bs r m) r fun xs m1 => (match setAll l xs r with
    | some r1 => .nx r1 m1
    | none => .bad)
  | .setC i k e, r, m => .of (evE cl e r m) r fun x m1 => (match x, r[i]? with
    | .d x, some (.v (.c a)) => .of (evE cl k r m1) r fun j m2 => (match j, m2[a]? with
      | .d (.int j), some xs => (match ixN xs.length j with
        | some q => .nx r (m2.set a (xs.set q x))
        | none => .bad)
      | _, _ => .bad)
    | _, _ => .bad)
  | .setO i k e, r, m => .of (evE cl e r m) r fun x m1 => (match x, r[i]? with
    | .d x, some (.own xs) => .of (evE cl k r m1) r fun j m2 => (match j with
      | .d (.int j) => (match ixN xs.length j with
        | some q => .nx (r.set i (.own (xs.set q x))) m2
        | none => .bad)
      | _ => .bad)
    | _, _ => .bad)
  | .app i e, r, m => (match r[i]? with
    | some (.own xs) => .of (evE cl e r m) r fun x m1 => (match x with
      | .d x => if xs.length < sizeLine then .nx (r.set i (.own (xs ++ [x]))) m1 else .bad
      | _ => .bad)
    | _ => .bad)
  | .appPop i j e, r, m => (match r[i]?, r[j]? with
    | some (.own xs), some (.own ys) => .of (evE cl e r m) r fun x m1 => (match x with
      | .d (.int k) => if 0 ≤ k ∧ k < 2 ^ 62 ∧ i ≠ j ∧ xs.length < sizeLine then (match ys[k.toNat]? with
        | some y => .nx ((r.set j (.own (ys.eraseIdx k.toNat))).set i (.own (xs ++ [y]))) m1
        | none => .bad) else .bad
      | _ => .bad)
    | _, _ => .bad)
  | .ext i e, r, m => (match r[i]? with
    | some (.own xs) => .of (evE cl e r m) r fun x m1 => (match x with
      | .d (.list ys) => if xs.length + ys.length ≤ sizeLine then .nx (r.set i (.own (xs ++ ys))) m1 else .bad
      | _ => .bad)
    | _ => .bad)
  | .do_ e, r, m => .of (evE cl e r m) r fun _ m1 => .nx r m1
  | .ret e, r, m => .of (evE cl e r m) r fun x m1 => .rt x m1
  | .retF e, r, m => .of (ownE cl e r m) r fun xs m1 => .rt (.c m1.length) (m1 ++ [xs])
  | .retC i, r, m => (match r[i]? with
    | some (.own xs) => .rt (.c m.length) (m ++ [xs])
    | _ => .bad)
  | .retN, _, m => .rt (.d .none) m
  | .if_ t a b, r, m => .of (evE cl t r m) r fun x m1 => (match x with
    | .d (.bool true) => evSs cl a r m1
    | .d (.bool false) => evSs cl b r m1
    | _ => .bad)
  | .for_ t it b, r, m => .of (evI cl it r m) r fun xs m1 => forS (fun x r m => match tgt t x r with
      | some r1 => evSs cl b r1 m
      | none => .bad) xs r m1
  | .whl t b, r, m => whlS (fun r m => evE cl t r m) (fun r m => evSs cl b r m) fuel r m
  | .pas, r, m => .nx r m
  | .raise c e, r, m => (match e with
    | .no => .ex c none r m
    | e => .of (evE cl e r m) r fun x m1 => (match x with
      | .d x => .ex c (some x) r m1
      | _ => .bad))
  | .try1 b c i xs k hs, r, m => exS c i xs k hs (evSs cl b r m)
  | .tryN b qs xs, r, m => exN xs qs (evSs cl b r m)
  | .dead, _, _ => .bad
termination_by structural x => x
def evSs (cl : Calls) : CSs → Env' → Mem → SRes
  | .nil, r, m => .nx r m
  | .cons s ss, r, m => match evS cl s r m with
    | .nx r1 m1 => evSs cl ss r1 m1
    | x => x
  | .frz i ss, r, m => match r[i]? with
    | some (.own xs) => evSs cl ss (r.set i (.v (.d (.list xs)))) m
    | _ => .bad
termination_by structural x => x
end
/-- what a call gives back -/
def back (n : Nat) : SRes → Res MV
  | .nx _ m => .ok (.d .none) (m.take n)
  | .rt x m => .ok x (match x with
    | .c k => if k < n then m.take n else m
    | _ => m.take n)
  | .ex c x _ m => .ex c x (m.take n)
  | _ => .bad
def callF (T : List Def) : Nat → Calls
  | 0 => fun _ _ _ => .bad
  | n + 1 => fun f xs m => match T[f]? with
    | some d => if xs.length = d.ps.length then back m.length (evSs (callF T n) d.body (xs.map .v ++ List.replicate (d.ns.length - d.ps.length) .un) m) else .bad
    | none => .bad
end Mp

set_option Elab.async false
set_option linter.all false
set_option maxRecDepth 100000
set_option maxHeartbeats 1000000
namespace Mp
open PySem PySem.Spec PyProof.Rows L2
section
variable {X : Cx}
theorem peMono {e : Expr} {t t' : TE} (h : PE X e t) (f : ∀ σ H Q, t' σ H Q → t σ H Q) : PE X e t' := ⟨fun pins s σ H Q I q => h.run pins s σ H Q I (f σ H Q q)⟩
theorem paMono {e : List Expr} {t t' : TA} (h : PA X e t) (f : ∀ σ H Q, t' σ H Q → t σ H Q) : PA X e t' := ⟨fun p pins s σ H Q I q => h.run p pins s σ H Q I (f σ H Q q)⟩
theorem ptMono {e : Expr} {t t' : TT} (h : PT X e t) (f : ∀ σ H Q, t' σ H Q → t σ H Q) : PT X e t' := ⟨fun pins s σ H Q I q => h.run pins s σ H Q I (f σ H Q q)⟩
theorem psMono {e : Stmt} {t t' : TS} (h : PS X e t) (f : ∀ D σ H, t' D σ H → t D σ H) : PS X e t' := ⟨fun pins s σ H D I q => h.run pins s σ H D I (f D σ H q)⟩
end
abbrev Ev (α : Type) := Env' → Mem → Res α
def tR {α β : Type} (K : PySem.W.Frag) (R : List Addr → Hp → Hp → β → α → Prop) (W : WX) (ev : Ev α) : L2.St → Hp → (β → Hp → Prop) → Prop := fun σ H Q =>
  ∃ ks m Hz r, CR K ks m Hz H ∧ ER K ks Hz H r σ ∧ Aft K R W ks Hz H σ Q (ev r m)
abbrev tE (K : PySem.W.Frag) (W : WX) (ev : Ev MV) : TE := tR K (RV K) W ev
abbrev RLs (K : PySem.W.Frag) : List Addr → Hp → Hp → List V → List D → Prop := fun _ Hz _ v x => RpAll K Hz v x
abbrev tL (K : PySem.W.Frag) (W : WX) (ev : Ev (List D)) : TA := tR K (RLs K) W ev
abbrev tAs (K : PySem.W.Frag) (W : WX) (ev : Ev (List MV)) : TA := tR K (RVs K) W ev
abbrev tB' (K : PySem.W.Frag) (W : WX) (ev : Ev Bool) : TT := tR K (RB) W ev
def toB : MV → Mem → Res Bool
  | .d (.bool b), m => .ok b m
  | _, _ => .bad
def evT (ev : Ev MV) : Ev Bool := fun r m => (ev r m).bind toB
theorem VR.rp {K : PySem.W.Frag} {ks : List Addr} {Hz : Hp} {v : V} {x : D} (h : VR K ks Hz v (.d x)) : Rp K Hz v x := by cases h; assumption
/-- one thing after another -/
theorem tR.seq {α β γ δ : Type} {K : PySem.W.Frag} {R : List Addr → Hp → Hp → β → α → Prop} {S : List Addr → Hp → Hp → δ → γ → Prop} {W : WX} {ev : Ev α} {k : α → Ev γ} {σ : L2.St} {H : Hp} {Q : δ → Hp → Prop} {Q' : β → Hp → Prop}
    (h : tR K S W (fun r m => (ev r m).bind fun a m1 => k a r m1) σ H Q)
    (f : ∀ a r m ks Hz H' b, CR K ks m Hz H' → ER K ks Hz H' r σ → R ks Hz H' b a → Aft K S W ks Hz H' σ Q (k a r m) → Q' b H') : tR K R W ev σ H Q' := by
  obtain ⟨ks, m, Hz, r, c, e, a⟩ := h
  exact ⟨ks, m, Hz, r, c, e, Aft.bind a fun x m1 ks1 Hz1 H1 v _ x1 c1 rv a1 => f x r m1 ks1 Hz1 H1 v c1 (e.up x1) rv a1⟩

/-! ### what an operator does, by data -/
def rD2 (K : PySem.W.Frag) (f : D → D → Option D) : R2 := fun x y H Q => ∃ ks m Hz a b d, CR K ks m Hz H ∧ Rp K Hz x a ∧ Rp K Hz y b ∧ f a b = some d ∧
  ∀ Hz' H' v, Ext ks Hz H ks Hz' H' → CR K ks m Hz' H' → Rp K Hz' v d → Q v H'
theorem bin_read {K : PySem.W.Frag} {W : WX} {f : D → D → Option D} {ea eb : Ev MV} {σ : L2.St} {H : Hp} {Q : VK}
    (h : tE K W (fun r m => (ea r m).bind fun x m1 => (eb r m1).bind fun y m2 => (match x, y with
      | .d x, .d y => optD (f x y) m2
      | _, _ => .bad)) σ H Q) : tOp (rD2 K f) (tE K W ea) (tE K W eb) σ H Q := by
  obtain ⟨ks, m, Hz, r, c, e, a⟩ := h
  refine ⟨ks, m, Hz, r, c, e, Aft.bind a fun x m1 ks1 Hz1 H1 v _ x1 c1 rv a1 => ?_⟩
  refine ⟨ks1, m1, Hz1, r, c1, e.up x1, Aft.bind a1 fun y m2 ks2 Hz2 H2 u _ x2 c2 ru a2 => ?_⟩
  cases x with
  | d x =>
    cases y with
    | d y =>
      cases hf : f x y with
      | none => simp only [hf, optD] at a2; exact a2.elim
      | some d =>
        simp only [hf, optD] at a2
        exact ⟨ks2, m2, Hz2, x, y, d, c2, (rv.up x2).rp, ru.rp, hf, fun Hz3 H3 w x3 c3 rd => a2 ks2 Hz3 H3 w x3 c3 (.d rd)⟩
    | _ => exact a2.elim
  | _ => exact a2.elim
/-- with nothing new made -/
theorem stay {K : PySem.W.Frag} {ks : List Addr} {m : Mem} {Hz H : Hp} {d : D} {v : V} {Q : VK} (c : CR K ks m Hz H) (q : ∀ Hz' H' v, Ext ks Hz H ks Hz' H' → CR K ks m Hz' H' → Rp K Hz' v d → Q v H') (r : Rp K Hz v d) : Q v H :=
  q Hz H v (Ext.refl _ _ _) c r
theorem made {K : PySem.W.Frag} {ks : List Addr} {m : Mem} {Hz H : Hp} {d : D} {p : Addr} {o : HO} {Q : VK} (c : CR K ks m Hz H) (q : ∀ Hz' H' v, Ext ks Hz H ks Hz' H' → CR K ks m Hz' H' → Rp K Hz' v d → Q v H') (n : H p = none)
    (r : Rp K (upd Hz p o) (.ref p) d) : Q (.ref p) (upd H p o) :=
  q _ _ _ (Ext.new c n o) (c.new n o) r
theorem rpTup {K : PySem.W.Frag} {ks : List Addr} {m : Mem} {Hz H : Hp} {p : Addr} {vs : List V} {ds : List D} (c : CR K ks m Hz H) (n : H p = none) (r : RpAll K Hz vs ds) : Rp K (upd Hz p (.tup vs)) (.ref p) (.tuple ds) :=
  .tup (SqT.of upd_same) (daUp (Ext.new c n _).zs _ _ r)
theorem rpLst {K : PySem.W.Frag} {ks : List Addr} {m : Mem} {Hz H : Hp} {p : Addr} {vs : List V} {ds : List D} (c : CR K ks m Hz H) (n : H p = none) (r : RpAll K Hz vs ds) : Rp K (upd Hz p (.lst vs)) (.ref p) (.list ds) :=
  .lst upd_same (daUp (Ext.new c n _).zs _ _ r)
theorem CR.sqT {K : PySem.W.Frag} {ks : List Addr} {m : Mem} {Hz H : Hp} {a : Addr} {vs : List V} (c : CR K ks m Hz H) (h : SqT K Hz a vs) : SqT K H a vs := seqT c.zh h
def astB : Bop → Operator
  | .add => .Add | .sub => .Sub | .mul => .Mult | .mod => .Mod | .fdiv => .FloorDiv | .pow => .Pow
section
variable {X : Cx}
theorem daFlat {K : PySem.W.Frag} {H : Hp} {vs : List V} {ds : List D} (r : RpAll K H vs ds) : ∀ n : Nat, RpAll K H (List.replicate n vs).flatten (List.replicate n ds).flatten
  | 0 => .nil
  | n + 1 => by
    rw [List.replicate_succ, List.replicate_succ, List.flatten_cons, List.flatten_cons]
    exact daApp r (daFlat r n)
theorem mulOne (l : Addr) (items : Array Value) (n : Nat) (dd : Option Addr) (sl : Array (Option Value)) (u : Tok) :
    Meets (Builtin.«tuple.__mul__» ⟨[.ref l, .int 1 u], []⟩) (fun _ R s => s.heap.get? l = some { cls := .type "tuple", dict := dd, data := .seq items n, slots := sl } ∧ R (.ok (.ret (Value.ref l))) s) :=
  .of_wp fun prog w A R s h => by
    obtain ⟨hp, g, d, tk, os⟩ := s
    obtain ⟨hl, h⟩ := h
    have f1 := AutoSeq1.idx_int
    wp_walk using wpAny_loadPart' hl
    exact ⟨_, rfl, h⟩
theorem op_tup1 : OpR X (binaryOp .Mult) (fun x y H Q => ∃ a xs, x = .ref a ∧ y = .int 1 ∧ SqT X.K H a xs ∧ Q (.ref a) H) := by
  intro pins s σ H x y v u Q I rx ry h
  obtain ⟨l, xs, rfl, rfl, hT, q⟩ := h
  cases rx
  obtain ⟨t, rfl⟩ := ry
  obtain ⟨its, r, ⟨⟨cls, dd, data, sl⟩, ho, hc, n, hd⟩, hs⟩ := I.tuple hT
  simp only at hc hd
  subst hc hd
  exact wpAny_binaryOp_repeat_ref (T := "tuple") (U := "int") (by decide) ⟨_, ho, rfl⟩ (fun s' => typeIs_int s' 1 t) noFill_tuple_mul F.fills_int_mul F.slot_int_rmul repeat_tuple F.slot_int_index.lookup
    (call_meets F.slot_int_rmul (typeIs_int s 1 t) F.entry_int_rmul (F.args_int_rmul_2 _ _) (int_rmul_tuple 1 t l its.toArray n dd sl)
      ⟨ho, rfl, ⟨_, ho, rfl⟩, call_meets F.slot_tuple_mul ⟨_, ho, rfl⟩ F.entry_tuple_mul (F.args_tuple_mul_2 _ _) (mulOne l its.toArray n dd sl t) ⟨ho, .ref l, H, I, rfl, q⟩⟩)
theorem bop_add : OpR X (binaryOp .Add) (rD2 X.K (binD .add)) := by
  intro pins s σ H x y v u Q I rx ry h
  obtain ⟨ks, m, Hz, a, b, d, c, ra, rb, e, q⟩ := h
  cases a with
  | int i =>
    cases b with
    | int j =>
      cases e
      rw [dpInt ra] at rx; rw [dpInt rb] at ry
      exact op_add pins s σ H _ _ v u Q I rx ry ⟨i, j, rfl, rfl, stay c q (.int _)⟩
    | _ => cases e
  | tuple xs =>
    cases b with
    | tuple ys =>
      simp only [binD] at e
      split at e
      · rename_i hl
        cases e
        obtain ⟨a1, vs, rfl, s1, d1⟩ := dpTup ra
        obtain ⟨a2, ws, rfl, s2, d2⟩ := dpTup rb
        refine op_catA pins s σ H _ _ v u Q I rx ry ⟨a1, a2, vs, ws, rfl, rfl, c.sqT s1, c.sqT s2, by rw [daLen d1, daLen d2]; exact hl, fun z => ?_, fun z1 z => ?_, fun z1 z2 p n => made c q n (rpTup c n (daApp d1 d2))⟩
        · subst z
          cases d1
          exact stay c q rb
        · subst z
          cases d2
          rw [List.append_nil] at q
          exact stay c q ra
      · cases e
    | _ => cases e
  | list xs =>
    cases b with
    | list ys =>
      simp only [binD] at e
      split at e
      · rename_i hl
        cases e
        obtain ⟨a1, vs, rfl, s1, d1⟩ := dpLst ra
        obtain ⟨a2, ws, rfl, s2, d2⟩ := dpLst rb
        exact op_cat pins s σ H _ _ v u Q I rx ry ⟨a1, a2, vs, ws, rfl, rfl, c.zh _ _ s1, c.zh _ _ s2, by rw [daLen d1, daLen d2]; exact hl, fun p n => made c q n (rpLst c n (daApp d1 d2))⟩
      · cases e
    | _ => cases e
  | _ => cases b <;> cases e
theorem bop_sub : OpR X (binaryOp .Sub) (rD2 X.K (binD .sub)) := by
  intro pins s σ H x y v u Q I rx ry h
  obtain ⟨ks, m, Hz, a, b, d, c, ra, rb, e, q⟩ := h
  cases a with
  | int i =>
    cases b with
    | int j =>
      cases e
      rw [dpInt ra] at rx; rw [dpInt rb] at ry
      exact op_sub pins s σ H _ _ v u Q I rx ry ⟨i, j, rfl, rfl, stay c q (.int _)⟩
    | _ => cases e
  | _ => cases b <;> cases e
theorem bop_mod : OpR X (binaryOp .Mod) (rD2 X.K (binD .mod)) := by
  intro pins s σ H x y v u Q I rx ry h
  obtain ⟨ks, m, Hz, a, b, d, c, ra, rb, e, q⟩ := h
  cases a with
  | int i =>
    cases b with
    | int j =>
      simp only [binD] at e
      split at e
      · rename_i hl
        cases e
        rw [dpInt ra] at rx; rw [dpInt rb] at ry
        exact op_mod pins s σ H _ _ v u Q I rx ry ⟨i, j, rfl, rfl, hl, stay c q (.int _)⟩
      · cases e
    | _ => cases e
  | _ => cases b <;> cases e
theorem bop_fdiv : OpR X (binaryOp .FloorDiv) (rD2 X.K (binD .fdiv)) := by
  intro pins s σ H x y v u Q I rx ry h
  obtain ⟨ks, m, Hz, a, b, d, c, ra, rb, e, q⟩ := h
  cases a with
  | int i =>
    cases b with
    | int j =>
      simp only [binD] at e
      split at e
      · rename_i hl
        cases e
        rw [dpInt ra] at rx; rw [dpInt rb] at ry
        exact op_fdiv pins s σ H _ _ v u Q I rx ry ⟨i, j, rfl, rfl, hl, stay c q (.int _)⟩
      · cases e
    | _ => cases e
  | _ => cases b <;> cases e
theorem bop_pow : OpR X (binaryOp .Pow) (rD2 X.K (binD .pow)) := by
  intro pins s σ H x y v u Q I rx ry h
  obtain ⟨ks, m, Hz, a, b, d, c, ra, rb, e, q⟩ := h
  cases a with
  | int i =>
    cases b with
    | int j =>
      simp only [binD] at e
      split at e
      · rename_i hl
        cases e
        rw [dpInt ra] at rx; rw [dpInt rb] at ry
        exact op_pow pins s σ H _ _ v u Q I rx ry ⟨i, j, rfl, rfl, hl, stay c q (.int _)⟩
      · cases e
    | _ => cases e
  | _ => cases b <;> cases e
theorem bop_mul : OpR X (binaryOp .Mult) (rD2 X.K (binD .mul)) := by
  intro pins s σ H x y v u Q I rx ry h
  obtain ⟨ks, m, Hz, a, b, d, c, ra, rb, e, q⟩ := h
  cases a with
  | int i =>
    cases b with
    | int j =>
      simp only [binD] at e
      split at e
      · rename_i hl
        cases e
        rw [dpInt ra] at rx; rw [dpInt rb] at ry
        exact op_mul pins s σ H _ _ v u Q I rx ry ⟨i, j, rfl, rfl, (by have z := hl; simp only [bigOk, decide_eq_true_eq] at z; exact z), stay c q (.int _)⟩
      · cases e
    | _ => cases e
  | tuple xs =>
    cases b with
    | int k =>
      simp only [binD] at e
      split at e
      · rename_i hl
        obtain ⟨h0, h1, h2, h3⟩ := hl
        cases e
        obtain ⟨a1, vs, rfl, s1, d1⟩ := dpTup ra
        rw [dpInt rb] at ry
        have hl := daLen d1
        have hv : vs ≠ [] := fun z => h0 (by rw [z] at hl; exact List.eq_nil_of_length_eq_zero hl.symm)
        by_cases hk : k = 1
        · subst hk
          refine op_tup1 pins s σ H _ _ v u Q I rx ry ⟨a1, vs, rfl, rfl, c.sqT s1, ?_⟩
          have e1 : (List.replicate (Int.toNat 1) xs).flatten = xs := by simp
          rw [e1] at q
          exact stay c q ra
        · exact op_repT pins s σ H _ _ v u Q I rx ry ⟨a1, k, vs, rfl, rfl, c.sqT s1, hv, by omega, h2, by omega, fun p n => made c q n (rpTup c n (daFlat d1 _))⟩
      · cases e
    | _ => cases e
  | list xs =>
    cases b with
    | int k =>
      simp only [binD] at e
      split at e
      · rename_i hl
        obtain ⟨h1, h2, h3⟩ := hl
        cases e
        obtain ⟨a1, vs, rfl, s1, d1⟩ := dpLst ra
        rw [dpInt rb] at ry
        exact op_rep pins s σ H _ _ v u Q I rx ry ⟨a1, k, vs, rfl, rfl, c.zh _ _ s1, h1, h2, by rw [daLen d1]; exact h3, fun p n => made c q n (rpLst c n (daFlat d1 _))⟩
      · cases e
    | _ => cases e
  | _ => cases b <;> cases e
theorem bop_ok : ∀ op : Bop, OpR X (binaryOp (astB op)) (rD2 X.K (binD op))
  | .add => bop_add | .sub => bop_sub | .mul => bop_mul | .mod => bop_mod | .fdiv => bop_fdiv | .pow => bop_pow

/-! ### comparisons -/
def rC2 (K : PySem.W.Frag) (f : D → D → Option Bool) : R2 := fun x y H Q => ∃ ks m Hz a b t, CR K ks m Hz H ∧ Rp K Hz x a ∧ Rp K Hz y b ∧ f a b = some t ∧ Q (.bl t) H
def astC : Cop → CmpOp
  | .eq => .Eq | .ne => .NotEq | .lt => .Lt | .le => .LtE | .gt => .Gt | .ge => .GtE | .in_ => .In | .nin => .NotIn | .isN => .Is | .notN => .IsNot
theorem CR.dp {K : PySem.W.Frag} {ks : List Addr} {m : Mem} {Hz H : Hp} {v : V} {d : D} (c : CR K ks m Hz H) (r : Rp K Hz v d) : Dp K H v d := Rp.dp _ _ (dpUp c.zh _ _ r)
theorem plainLay {d : D} (h : plain d = true) : d.canLay0 = true := SeqAt.canLay_of_shaped h
theorem plainRoom {A : Around} {a b : D} (h : plain a = true) (hu : A.units + 64 < cLine) : A.units + min a.depth b.depth < cLine := SeqAt.room_of_shaped h hu
theorem cop_eq {n : Nat} (hr : Room n X.A) : OpR X (compareOp .Eq) (rC2 X.K (cmpD .eq)) := by
  intro pins s σ H x y v u Q I rx ry h
  obtain ⟨ks, m, Hz, a, b, t, c, ra, rb, e, q⟩ := h
  have e' : (if plain a = true ∧ plain b = true then some (PyData.eqv a b) else none) = some t := by cases a <;> exact e
  split at e'
  · rename_i hp
    cases e'
    exact op_eqD hr.units pins s σ H x y v u Q I rx ry ⟨a, b, c.dp ra, c.dp rb, hp.1, hp.2, q⟩
  · cases e'
theorem cop_ne {n : Nat} (hr : Room n X.A) : OpR X (compareOp .NotEq) (rC2 X.K (cmpD .ne)) := by
  intro pins s σ H x y v u Q I rx ry h
  obtain ⟨ks, m, Hz, a, b, t, c, ra, rb, e, q⟩ := h
  have e' : (if plain a = true ∧ plain b = true then some (!PyData.eqv a b) else none) = some t := by cases a <;> exact e
  split at e'
  · rename_i hp
    cases e'
    exact op_neD hr.units pins s σ H x y v u Q I rx ry ⟨a, b, c.dp ra, c.dp rb, hp.1, hp.2, q⟩
  · cases e'
theorem cop_lt {n : Nat} (hr : Room n X.A) : OpR X (compareOp .Lt) (rC2 X.K (cmpD .lt)) := by
  intro pins s σ H x y v u Q I rx ry h
  obtain ⟨ks, m, Hz, a, b, t, c, ra, rb, e, q⟩ := h
  cases a with
  | int i =>
    cases b with
    | int j =>
      cases e
      rw [dpInt ra] at rx; rw [dpInt rb] at ry
      exact op_lt pins s σ H _ _ v u Q I rx ry ⟨i, j, rfl, rfl, q⟩
    | _ => cases e
  | tuple xs =>
    cases b with
    | tuple ys =>
      simp only [cmpD, ordD] at e
      split at e
      · rename_i hp
        obtain ⟨h1, h2, h3⟩ := hp
        cases e
        obtain ⟨as, r1⟩ := Dp.reads I _ x v (c.dp ra) rx
        obtain ⟨bs, r2⟩ := Dp.reads I _ y u (c.dp rb) ry
        exact PySem.W.lt_data r1 r2 h1 (fun z => nomatch z) (plainRoom h2 hr.units) ⟨.bl _, H, I, rfl, q⟩
      · cases e
    | _ => cases e
  | _ => cases b <;> cases e
theorem cop_le {n : Nat} (hr : Room n X.A) : OpR X (compareOp .LtE) (rC2 X.K (cmpD .le)) := by
  intro pins s σ H x y v u Q I rx ry h
  obtain ⟨ks, m, Hz, a, b, t, c, ra, rb, e, q⟩ := h
  cases a with
  | int i =>
    cases b with
    | int j =>
      cases e
      rw [dpInt ra] at rx; rw [dpInt rb] at ry
      exact op_le pins s σ H _ _ v u Q I rx ry ⟨i, j, rfl, rfl, q⟩
    | _ => cases e
  | tuple xs =>
    cases b with
    | tuple ys =>
      simp only [cmpD, ordD] at e
      split at e
      · rename_i hp
        obtain ⟨h1, h2, h3⟩ := hp
        cases e
        obtain ⟨as, r1⟩ := Dp.reads I _ x v (c.dp ra) rx
        obtain ⟨bs, r2⟩ := Dp.reads I _ y u (c.dp rb) ry
        exact PySem.W.le_data r1 r2 h1 (fun z => nomatch z) (plainRoom h2 hr.units) ⟨.bl _, H, I, rfl, q⟩
      · cases e
    | _ => cases e
  | _ => cases b <;> cases e
theorem cop_gt : OpR X (compareOp .Gt) (rC2 X.K (cmpD .gt)) := by
  intro pins s σ H x y v u Q I rx ry h
  obtain ⟨ks, m, Hz, a, b, t, c, ra, rb, e, q⟩ := h
  cases a with
  | int i =>
    cases b with
    | int j =>
      cases e
      rw [dpInt ra] at rx; rw [dpInt rb] at ry
      exact op_gt pins s σ H _ _ v u Q I rx ry ⟨i, j, rfl, rfl, q⟩
    | _ => cases e
  | _ => cases b <;> cases e
theorem cop_ge : OpR X (compareOp .GtE) (rC2 X.K (cmpD .ge)) := by
  intro pins s σ H x y v u Q I rx ry h
  obtain ⟨ks, m, Hz, a, b, t, c, ra, rb, e, q⟩ := h
  cases a with
  | int i =>
    cases b with
    | int j =>
      cases e
      rw [dpInt ra] at rx; rw [dpInt rb] at ry
      exact op_ge pins s σ H _ _ v u Q I rx ry ⟨i, j, rfl, rfl, q⟩
    | _ => cases e
  | _ => cases b <;> cases e
theorem cop_in {n : Nat} (hr : Room n X.A) : OpR X (compareOp .In) (rC2 X.K (cmpD .in_)) := by
  intro pins s σ H x y v u Q I rx ry h
  obtain ⟨ks, m, Hz, a, b, t, c, ra, rb, e, q⟩ := h
  have hu : X.A.units + 65 < cLine := by have := hr.un; omega
  obtain ⟨as, r1⟩ := Dp.reads I _ x v (c.dp ra) rx
  obtain ⟨bs, r2⟩ := Dp.reads I _ y u (c.dp rb) ry
  cases b with
  | list ys =>
    have e' : (if plain a = true ∧ plain (.list ys) = true then some (ys.any fun z => PyData.eqv z a) else none) = some t := by cases a <;> exact e
    split at e'
    · rename_i hp
      cases e'
      exact SeqAt.in_list_reads r2 r1 (plainLay hp.2) (plainLay hp.1) (room_in_shaped hp.1 hu) ⟨.bl _, H, I, rfl, q⟩
    · cases e'
  | tuple ys =>
    have e' : (if plain a = true ∧ plain (.tuple ys) = true then some (ys.any fun z => PyData.eqv z a) else none) = some t := by cases a <;> exact e
    split at e'
    · rename_i hp
      cases e'
      exact SeqAt.in_tuple_reads r2 r1 (plainLay hp.2) (plainLay hp.1) (room_in_shaped hp.1 hu) ⟨.bl _, H, I, rfl, q⟩
    · cases e'
  | _ => cases a <;> cases e
theorem cop_nin {n : Nat} (hr : Room n X.A) : OpR X (compareOp .NotIn) (rC2 X.K (cmpD .nin)) := by
  intro pins s σ H x y v u Q I rx ry h
  obtain ⟨ks, m, Hz, a, b, t, c, ra, rb, e, q⟩ := h
  have hu : X.A.units + 65 < cLine := by have := hr.un; omega
  obtain ⟨as, r1⟩ := Dp.reads I _ x v (c.dp ra) rx
  obtain ⟨bs, r2⟩ := Dp.reads I _ y u (c.dp rb) ry
  cases b with
  | list ys =>
    have e' : (if plain a = true ∧ plain (.list ys) = true then some (!ys.any fun z => PyData.eqv z a) else none) = some t := by cases a <;> exact e
    split at e'
    · rename_i hp
      cases e'
      exact SeqAt.notIn_list_reads r2 r1 (plainLay hp.2) (plainLay hp.1) (room_in_shaped hp.1 hu) ⟨.bl _, H, I, rfl, q⟩
    · cases e'
  | tuple ys =>
    have e' : (if plain a = true ∧ plain (.tuple ys) = true then some (!ys.any fun z => PyData.eqv z a) else none) = some t := by cases a <;> exact e
    split at e'
    · rename_i hp
      cases e'
      exact SeqAt.notIn_tuple_reads r2 r1 (plainLay hp.2) (plainLay hp.1) (room_in_shaped hp.1 hu) ⟨.bl _, H, I, rfl, q⟩
    · cases e'
  | _ => cases a <;> cases e
def isNn : D → Bool
  | .none => true
  | _ => false
theorem nonV {K : PySem.W.Frag} {Hz : Hp} {x : V} {a : D} (r : Rp K Hz x a) : decide (x = .non) = isNn a := by
  cases r <;> first | rfl | exact decide_eq_false fun z => nomatch z
theorem cop_is : OpR X (compareOp .Is) (rC2 X.K (cmpD .isN)) := by
  intro pins s σ H x y v u Q I rx ry h
  obtain ⟨ks, m, Hz, a, b, t, c, ra, rb, e, q⟩ := h
  cases b with
  | none =>
    have et : isNn a = t := by cases a <;> (cases e; rfl)
    rw [← et, ← nonV ra] at q
    exact op_isN pins s σ H x y v u Q I rx ry ⟨dpNone rb, q⟩
  | _ => cases a <;> cases e
theorem cop_isnot : OpR X (compareOp .IsNot) (rC2 X.K (cmpD .notN)) := by
  intro pins s σ H x y v u Q I rx ry h
  obtain ⟨ks, m, Hz, a, b, t, c, ra, rb, e, q⟩ := h
  cases b with
  | none =>
    have et : (!isNn a) = t := by cases a <;> (cases e; rfl)
    rw [← et, ← nonV ra] at q
    exact op_notN pins s σ H x y v u Q I rx ry ⟨dpNone rb, q⟩
  | _ => cases a <;> cases e
theorem cop_ok {n : Nat} (hr : Room n X.A) : ∀ op : Cop, OpR X (compareOp (astC op)) (rC2 X.K (cmpD op))
  | .eq => cop_eq hr | .ne => cop_ne hr | .lt => cop_lt hr | .le => cop_le hr | .gt => cop_gt | .ge => cop_ge
  | .in_ => cop_in hr | .nin => cop_nin hr | .isN => cop_is | .notN => cop_isnot
end
theorem valT {K : PySem.W.Frag} {Hz : Hp} {i : Int} : ∀ {kvs : List (Int × D)} {vs : List V}, RpAll K Hz vs (kvs.map (·.2)) → (getT kvs i = none → valV ((kvs.map fun p => keyOf p.1).zip vs) (Sum.inl i : L2.Key) = none) ∧ ∀ d, getT kvs i = some d → ∃ v, valV ((kvs.map fun p => keyOf p.1).zip vs) (Sum.inl i : L2.Key) = some v ∧ Rp K Hz v d
  | [], vs, r => by
    cases r
    exact ⟨fun _ => rfl, fun d e => by cases e⟩
  | (k, w) :: kvs, vs, r => by
    cases r with
    | cons a b =>
      obtain ⟨h1, h2⟩ := valT (i := i) b
      simp only [List.map_cons, List.zip_cons_cons]
      by_cases q : k = i
      · subst q
        refine ⟨fun e => ?_, fun d e => ?_⟩
        · simp [getT] at e
        · simp only [getT, if_true, Option.some.injEq] at e
          subst e
          exact ⟨_, valV_pos rfl, a⟩
      · have q' : ¬ keyOf k = (Sum.inl i : L2.Key) := fun z => q (Sum.inl.inj z)
        refine ⟨fun e => ?_, fun d e => ?_⟩
        · simp only [getT, q, if_false] at e
          rw [valV_neg q']
          exact h1 e
        · simp only [getT, q, if_false] at e
          obtain ⟨v, e1, e2⟩ := h2 d e
          exact ⟨v, by rw [valV_neg q']; exact e1, e2⟩
theorem valT_some {K : PySem.W.Frag} {Hz : Hp} {i : Int} {kvs : List (Int × D)} {vs : List V} (r : RpAll K Hz vs (kvs.map (·.2))) : (valV ((kvs.map fun p => keyOf p.1).zip vs) (Sum.inl i : L2.Key)).isSome = (getT kvs i).isSome := by
  obtain ⟨h1, h2⟩ := valT (i := i) r
  cases h : getT kvs i with
  | none => rw [h1 h]; rfl
  | some d =>
    obtain ⟨v, e, _⟩ := h2 d h
    rw [e]; rfl
def rC3 (K : PySem.W.Frag) (op : Cop) : R2 := fun x y H Q => rC2 K (cmpD op) x y H Q ∨ ∃ ks m Hz d kvs t, CR K ks m Hz H ∧ Rp K Hz x d ∧ VR K ks Hz y (.t kvs) ∧ inT op d kvs = some t ∧ Q (.bl t) H
theorem cop3_ok {X : Cx} {n : Nat} (hr : Room n X.A) (op : Cop) : OpR X (compareOp (astC op)) (rC3 X.K op) := by
  intro pins s σ H x y v u Q I rx ry h
  rcases h with h | ⟨ks, m, Hz, d, kvs, t, c, ra, rb, e, q⟩
  · exact cop_ok hr op pins s σ H x y v u Q I rx ry h
  · have hu : X.A.units + 1 < cLine := by have := hr.un; omega
    cases rb with
    | t h1 h2 h3 =>
      rename_i a vs
      have hg : ∀ i : Int, DGet H a (.int i) (valV ((kvs.map fun p => keyOf p.1).zip vs) (Sum.inl i : L2.Key)) := fun i => DGet.k (k := Sum.inl i) (c.zh _ _ h1)
      cases ry
      cases op with
      | in_ =>
        cases d with
        | int i =>
          cases e
          rw [dpInt ra] at rx
          exact d_in hu I (hg i) rx fun s' I' => ⟨.bl _, H, I', rfl, by rw [valT_some h2]; exact q⟩
        | _ => cases e
      | nin =>
        cases d with
        | int i =>
          cases e
          rw [dpInt ra] at rx
          exact d_notIn hu I (hg i) rx fun s' I' => ⟨.bl _, H, I', rfl, by rw [valT_some h2]; exact q⟩
        | _ => cases e
      | _ => cases d <;> cases e
theorem cmp_read3 {K : PySem.W.Frag} {W : WX} {op : Cop} {ea eb : Ev MV} {σ : L2.St} {H : Hp} {Q : VK}
    (h : tE K W (fun r m => (ea r m).bind fun x m1 => (eb r m1).bind fun y m2 => (match x, y with
      | .d x, .d y => optB (cmpD op x y) m2
      | .d x, .t kvs => optB (inT op x kvs) m2
      | _, _ => .bad)) σ H Q) : tOp (rC3 K op) (tE K W ea) (tE K W eb) σ H Q := by
  obtain ⟨ks, m, Hz, r, c, e, a⟩ := h
  refine ⟨ks, m, Hz, r, c, e, Aft.bind a fun x m1 ks1 Hz1 H1 v _ x1 c1 rv a1 => ?_⟩
  refine ⟨ks1, m1, Hz1, r, c1, e.up x1, Aft.bind a1 fun y m2 ks2 Hz2 H2 u _ x2 c2 ru a2 => ?_⟩
  cases x with
  | d x =>
    cases y with
    | d y =>
      cases hf : cmpD op x y with
      | none => simp only [hf, optB] at a2; exact a2.elim
      | some d =>
        simp only [hf, optB] at a2
        exact .inl ⟨ks2, m2, Hz2, x, y, d, c2, (rv.up x2).rp, ru.rp, hf, a2 ks2 Hz2 H2 _ (Ext.refl _ _ _) c2 (.d (.bl _))⟩
    | t kvs =>
      cases hf : inT op x kvs with
      | none => simp only [hf, optB] at a2; exact a2.elim
      | some d =>
        simp only [hf, optB] at a2
        exact .inr ⟨ks2, m2, Hz2, x, kvs, d, c2, (rv.up x2).rp, ru, hf, a2 ks2 Hz2 H2 _ (Ext.refl _ _ _) c2 (.d (.bl _))⟩
    | _ => exact a2.elim
  | _ => exact a2.elim
theorem cmp_read {K : PySem.W.Frag} {W : WX} {f : D → D → Option Bool} {ea eb : Ev MV} {σ : L2.St} {H : Hp} {Q : VK}
    (h : tE K W (fun r m => (ea r m).bind fun x m1 => (eb r m1).bind fun y m2 => (match x, y with
      | .d x, .d y => optB (f x y) m2
      | _, _ => .bad)) σ H Q) : tOp (rC2 K f) (tE K W ea) (tE K W eb) σ H Q := by
  obtain ⟨ks, m, Hz, r, c, e, a⟩ := h
  refine ⟨ks, m, Hz, r, c, e, Aft.bind a fun x m1 ks1 Hz1 H1 v _ x1 c1 rv a1 => ?_⟩
  refine ⟨ks1, m1, Hz1, r, c1, e.up x1, Aft.bind a1 fun y m2 ks2 Hz2 H2 u _ x2 c2 ru a2 => ?_⟩
  cases x with
  | d x =>
    cases y with
    | d y =>
      cases hf : f x y with
      | none => simp only [hf, optB] at a2; exact a2.elim
      | some d =>
        simp only [hf, optB] at a2
        exact ⟨ks2, m2, Hz2, x, y, d, c2, (rv.up x2).rp, ru.rp, hf, a2 ks2 Hz2 H2 _ (Ext.refl _ _ _) c2 (.d (.bl _))⟩
    | _ => exact a2.elim
  | _ => exact a2.elim
end Mp

set_option Elab.async false
set_option linter.all false
set_option maxRecDepth 100000
set_option maxHeartbeats 1000000
namespace Mp
open PySem PySem.Spec PyProof.Rows L2

/-! ### a term stands for a piece of the text -/
def visB (sc : Scope) (x : Str) : Bool := sc.names.lookup x == some .local || sc.names.lookup x == some .cell || sc.names.lookup x == some .free
def locB (sc : Scope) (x : Str) : Bool := sc.names.lookup x == some .local || sc.names.lookup x == some .cell
def glB (sc : Scope) (x : Str) : Bool := sc.names.lookup x == some .globalImplicit
def okName (x : Str) : Bool := !(x == ("__debug__" : Str)) && !(x == ("__classdict__" : Str)) && !(x == ("__name__" : Str))
def nmE : Expr → Option Str
  | .Name x _ => some x
  | _ => none
def noStar : Expr → Bool
  | .Starred .. => false
  | _ => true
def notSlice : Expr → Bool
  | .Slice .. => false
  | _ => true
def notSet : Expr → Bool
  | .Set .. => false
  | _ => true
def notComp : Expr → Bool
  | .ListComp .. => false
  | .SetComp .. => false
  | .DictComp .. => false
  | _ => true
/-- whose truth is asked in the plain way -/
def plainTest : Expr → Bool
  | .Name .. => true
  | .Call .. => true
  | .Subscript .. => true
  | .Constant (.bool _) _ _ => false
  | _ => false
def b1Name : B1 → Str
  | .len => "len" | .tup => "tuple" | .lst => "list" | .srt => "sorted" | .all => "all" | .any => "any" | .int => "int" | .abs => "abs" | .sum => "sum" | .max => "max" | .min => "min" | .lrg => "list" | .trg => "tuple" | .sset => "sorted"
/-- how a call's values go to the parameters -/
def kwOk (ps kn : List Str) (n : Nat) (ns : List Nat) : Bool := decide kn.Nodup && ns.length == ps.length && n + kn.length == ps.length && kn.all (ps.drop n).contains &&
  (List.range ps.length).all fun i => (match ns[i]?, ps[i]? with
    | some j, some p => if i < n then j == i else decide (n ≤ j) && kn[j - n]? == some p
    | _, _ => false)
def mmName (mx : Bool) : Str := if mx = true then "max" else "min"
def tyName (t : String) : Bool := t == "int" || t == "bool" || t == "str" || t == "list" || t == "tuple" || t == "dict"
def tyIs (sc : Scope) (t : String) : Expr → Bool
  | .Name x _ => x == Str.ofString t && glB sc x && tyName t
  | _ => false
def tysAre (sc : Scope) : List String → List Expr → Bool
  | [], [] => true
  | t :: ts, e :: es => tyIs sc t e && tysAre sc ts es
  | _, _ => false
mutual
def tIn (ok : Nat → Bool) : CT → Bool
  | .nm j => ok j
  | .tp ts => tsIn ok ts
termination_by structural x => x
def tsIn (ok : Nat → Bool) : CTs → Bool
  | .nil => true
  | .cons t ts => tIn ok t && tsIn ok ts
termination_by structural x => x
end
mutual
theorem tIn_all : ∀ t : CT, tIn (fun _ => true) t = true
  | .nm _ => rfl
  | .tp ts => tsIn_all ts
theorem tsIn_all : ∀ ts : CTs, tsIn (fun _ => true) ts = true
  | .nil => rfl
  | .cons t ts => by simp [tsIn, tIn_all t, tsIn_all ts]
end
def isKT : CE → Bool
  | .kb true => true
  | _ => false
theorem isKT_eq {c : CE} (h : isKT c = true) : c = .kb true := by
  unfold isKT at h
  split at h
  · rfl
  · cases h
def isTup : Expr → Bool
  | .Tuple .. => true
  | _ => false
def ifsB (f : Expr → Bool) (c : CE) : List Expr → Bool
  | [] => isKT c
  | [w] => f w
  | _ => false
def optC (e : CE) (f : Expr → Bool) : Option Expr → Bool
  | none => noB e
  | some x => !noB e && f x
section
variable (N : List Str)
mutual
def chkT : CT → Scope → Expr → Bool
  | .nm i, sc, .Name x _ => N[i]? == some x && locB sc x
  | .tp ts, sc, .Tuple xs _ _ => chkTs ts sc xs
  | _, _, _ => false
termination_by structural x => x
def chkTs : CTs → Scope → List Expr → Bool
  | .nil, _, [] => true
  | .cons t ts, sc, x :: xs => noStar x && chkT t sc x && chkTs ts sc xs
  | _, _, _ => false
termination_by structural x => x
end
end
section
variable (T : Tab) (N : List Str)
mutual
def chkE : CE → Scope → Expr → Bool
  | .var i, sc, .Name x _ => N[i]? == some x && visB sc x && okName x
  | .kn, _, .Constant .none _ _ => true
  | .kb b, _, .Constant (.bool c) _ _ => b == c
  | .ki i, _, .Constant (.int j) _ _ => i == j
  | .ks x, _, .Constant (.str y) _ _ => x == y
  | .bin op a b, sc, .BinOp x o y _ => astB op == o && chkE a sc x && chkE b sc y
  | .neg a, sc, .UnaryOp .USub x _ => chkE a sc x
  | .cmp op a b, sc, .Compare x [o] [y] _ => astC op == o && chkE a sc x && chkE b sc y && notSet y
  | .chain o1 o2 a b c, sc, .Compare x [p1, p2] [y, z] _ => astC o1 == p1 && astC o2 == p2 && chkE a sc x && chkE b sc y && chkE c sc z && notSet y && notSet z
  | .band es, sc, .BoolOp .And xs _ => chkL es sc xs
  | .bor es, sc, .BoolOp .Or xs _ => chkL es sc xs
  | .not_ a, sc, .UnaryOp .Not x _ => chkE a sc x
  | .ite t a b, sc, .IfExp x y z _ => chkC t sc x && chkE a sc y && chkE b sc z
  | .tup es, sc, .Tuple xs _ _ => chkL es sc xs
  | .lst es, sc, .List xs _ => chkL es sc xs
  | .newc es, sc, .List xs _ => chkL es sc xs
  | .idx a i, sc, .Subscript x y _ => chkE a sc x && chkE i sc y && notSlice y
  | .slc a lo hi, sc, .Subscript x (.Slice l h none _) _ => chkE a sc x && optC lo (chkE lo sc) l && optC hi (chkE hi sc) h
  | .call f es, sc, .Call (.Name x _) xs [] _ => (match T.fs[f]? with
    | some d => x == d.name && glB sc x && okName x && xs.all noStar && chkL es sc xs && xs.length == d.ps.length
    | none => false)
  | .callk f es ks ns, sc, .Call (.Name x _) xs (kw :: kws) _ => (match T.fs[f]? with
    | some d => x == d.name && glB sc x && okName x && xs.all noStar && chkL es sc xs && chkK ks sc (kw :: kws) && kwOk d.ps ((kw :: kws).filterMap (·.arg)) xs.length ns
    | none => false)
  | .kg x i, sc, .Name y _ => x == y && glB sc y && okName y && T.ks.lookup x == some i
  | .dctT f a, sc, .Call (.Name z _) [.Call (.Name x _) [y] [] _] [] _ => z == ("dict" : Str) && glB sc z && T.tp.contains f && noStar y && (match T.fs[f]? with
    | some d => x == d.name && glB sc x && okName x && d.ps.length == 1 && chkE a sc y
    | none => false)
  | .kz x z, sc, .Name y _ => x == y && glB sc y && okName y && T.zs.lookup x == some z
  | .kdx x ps e, sc, .Subscript (.Name y _) w _ => x == y && glB sc y && okName y && T.ds.lookup x == some ps && chkE e sc w && notSlice w
  | .b1 op a, sc, .Call (.Name x _) [y] [] _ => x == b1Name op && glB sc x && noStar y && (match op with
    | .lrg | .trg => (match y with
      | .Call (.Name z _) [w] [] _ => z == ("range" : Str) && glB sc z && noStar w && chkE a sc w
      | _ => false)
    | .sset => (match y with
      | .Call (.Name z _) [w] [] _ => z == ("set" : Str) && glB sc z && noStar w && chkE a sc w
      | _ => false)
    | _ => chkE a sc y)
  | .isin a ts, sc, .Call (.Name x _) [y, z] [] _ => x == ("isinstance" : Str) && glB sc x && noStar y && chkE a sc y && (match ts, z with
    | [t], z => tyIs sc t z
    | ts, .Tuple es _ _ => tysAre sc ts es && es.all noStar && decide (ts.length ≤ 100)
    | _, _ => false)
  | .comp t it c e own, sc, .ListComp x [⟨tg, iter, ifs, a⟩] scope _ => a == 0 && blkC N sc scope own && chkI it sc tg iter && notSet iter && chkT N t scope tg && tIn (own.map (·.2)).contains t && (match ifs with
    | [] => isKT c
    | [w] => chkC c (relS scope sc) w
    | _ => false) && chkE e (relS scope sc) x
  | .comp2 t it c t1 it1 c1 e own vs1, sc, .ListComp x [⟨tg, iter, ifs, a⟩, ⟨tg1, iter1, ifs1, a1⟩] scope _ => a == 0 && a1 == 0 && blkC N sc scope own && chkI it sc tg iter && notSet iter && chkT N t scope tg && tIn (own.map (·.2)).contains t && ifsB (chkC c (relS scope sc)) c ifs && chkI it1 (relS scope sc) tg1 iter1 && notSet iter1 && chkT N t1 scope tg1 && tIn vs1.contains t1 && vs1.all (own.map (·.2)).contains && ifsB (chkC c1 (relS scope sc)) c1 ifs1 && chkE e (relS scope sc) x
  | .mm mx a b, sc, .Call (.Name x _) [y, z] [] _ => x == mmName mx && glB sc x && noStar y && noStar z && chkE a sc y && chkE b sc z
  | .index a b, sc, .Call (.Attribute (.Name o op) nm ap) [x] [] cp => nm == ("index" : Str) && ap.endLine == cp.line && noStar x && chkE a sc (.Name o op) && chkE b sc x
  | .orT a b, sc, .BoolOp .Or [x, y] _ => chkE a sc x && chkE b sc y
  | .rev a, sc, .Subscript x (.Slice none none (some (.UnaryOp .USub (.Constant (.int j) _ _) _)) _) _ => j == 1 && chkE a sc x
  | .no, _, e => notComp e
  | .lenO i, sc, .Call (.Name x _) [.Name y _] [] _ => x == ("len" : Str) && glB sc x && N[i]? == some y && visB sc y && okName y
  | .idxO i e, sc, .Subscript (.Name y _) w _ => N[i]? == some y && visB sc y && okName y && chkE e sc w && notSlice w
  | _, _, _ => false
termination_by structural x => x
/-- as a test -/
def chkC : CE → Scope → Expr → Bool
  | .var i, sc, .Name x _ => N[i]? == some x && visB sc x && okName x
  | .cmp op a b, sc, .Compare x [o] [y] _ => astC op == o && chkE a sc x && chkE b sc y && notSet y
  | .chain o1 o2 a b c, sc, .Compare x [p1, p2] [y, z] _ => astC o1 == p1 && astC o2 == p2 && chkE a sc x && chkE b sc y && chkE c sc z && notSet y && notSet z
  | .band es, sc, .BoolOp .And xs _ => chkCs es sc xs
  | .bor es, sc, .BoolOp .Or xs _ => chkCs es sc xs
  | .not_ a, sc, .UnaryOp .Not x _ => chkC a sc x
  | .idx a i, sc, .Subscript x y _ => chkE a sc x && chkE i sc y && notSlice y
  | .call f es, sc, .Call (.Name x _) xs [] _ => (match T.fs[f]? with
    | some d => x == d.name && glB sc x && okName x && xs.all noStar && chkL es sc xs && xs.length == d.ps.length
    | none => false)
  | .b1 op a, sc, .Call (.Name x _) [y] [] _ => x == b1Name op && glB sc x && noStar y && (match op with
    | .lrg | .trg => false
    | .sset => false
    | _ => chkE a sc y)
  | .isin a ts, sc, .Call (.Name x _) [y, z] [] _ => x == ("isinstance" : Str) && glB sc x && noStar y && chkE a sc y && (match ts, z with
    | [t], z => tyIs sc t z
    | ts, .Tuple es _ _ => tysAre sc ts es && es.all noStar && decide (ts.length ≤ 100)
    | _, _ => false)
  | _, _, _ => false
termination_by structural x => x
def chkCs : CL → Scope → List Expr → Bool
  | .cons e .nil, sc, [x] => chkC e sc x
  | .cons e es, sc, x :: xs => chkC e sc x && chkCs es sc xs
  | _, _, _ => false
termination_by structural x => x
def chkL : CL → Scope → List Expr → Bool
  | .nil, _, [] => true
  | .cons e es, sc, x :: xs => noStar x && chkE e sc x && chkL es sc xs
  | .star e es, sc, .Starred x _ :: xs => chkE e sc x && chkL es sc xs
  | _, _, _ => false
termination_by structural x => x
def chkK : CL → Scope → List Keyword → Bool
  | .nil, _, [] => true
  | .cons e es, sc, ⟨some _, v, _⟩ :: r => chkE e sc v && chkK es sc r
  | _, _, _ => false
termination_by structural x => x
def chkI : CI → Scope → Expr → Expr → Bool
  | .dat e, sc, _, x => chkE e sc x
  | .rg1 e, sc, _, .Call (.Name z _) [w] [] _ => z == ("range" : Str) && glB sc z && noStar w && chkE e sc w
  | .rg2 a b, sc, _, .Call (.Name z _) [v, w] [] _ => z == ("range" : Str) && glB sc z && noStar v && noStar w && chkE a sc v && chkE b sc w
  | .zip a b, sc, tg, .Call (.Name z _) [v, w] [] _ => isTup tg && z == ("zip" : Str) && glB sc z && noStar v && noStar w && chkE a sc v && chkE b sc w
  | .enum a, sc, tg, .Call (.Name z _) [w] [] _ => isTup tg && z == ("enumerate" : Str) && glB sc z && noStar w && chkE a sc w
  | _, _, _, _ => false
termination_by structural x => x
end
end
end Mp

set_option Elab.async false
set_option linter.all false
set_option maxRecDepth 100000
set_option maxHeartbeats 4000000
namespace Mp
open PySem PySem.Spec PySem.W PySem.Calls PyProof.Rows L2 Builtin Builtin.ObjectAttr
/-! ### an exception of one's own with a field: made -/
section
variable {prog : Program} {w : World} {A : Around} {E : Value → Shared → Prop} {h : Heap} {g : Array GenState} {dr : Drawn} {t : Nat} {os : OsState} {B newId i : String} {bmB : List Value}
/-- the built-in __init__, bound, called: the args are laid anew -/
theorem mw_call {nm q : Str} {C N : Addr} {bs bm : List Value} {hdct : Bool} {sn : List Str} {sub : List Value} {ab : Bool} {col : Option Bool} {dd : Option Addr} {k0 k1 k2 k3 k5 : Option Value} {u x t0 : Addr} {rest : List Value} {Q : Value → Shared → Prop}
    (FB : ExcBaseFacts B newId i bmB) (hC : h.get? C = some (excClassObj nm q C N bs bm hdct sn sub ab col dd k0 k1 k2 k3 k5 newId)) (hx : h.get? x = some (excObj C t0 none .none)) (hu : h.get? u = some (kxs_mw i x)) (hz : rest.length ≤ sizeLine)
    (hq : ∀ h' t1, (∀ b o, b ≠ x → h.get? b = some o → h'.get? b = some o) → h'.get? x = some (excObj C t1 none .none) → Q .none ⟨h', g, dr, t, os⟩) :
    wpAny (model prog w) A (call (.ref u) rest) Q E ⟨h, g, dr, t, os⟩ := by
  refine wpAny_call (codeAny_of_tree ?_)
  show wpAny _ A.in1 (callAny (.ref u) ⟨rest, []⟩) _ _ _
  simp only [callAny]
  refine wpAny_bind (wpAny_load hu ?_)
  simp only [kxs_mw, show (Value.type "method-wrapper" == Value.type "method" || Value.type "method-wrapper" == Value.type "builtin_function_or_method" || Value.type "method-wrapper" == Value.type "method-wrapper") = true by decide, if_true]
  refine KFB.if_so (by decide) ?_
  refine wpAny_bind (check_bound_init FB.toExcCallFacts hC hx rfl ?_)
  refine wpAny_bind (wpAny_pure (wpAny_pure ?_))
  refine ⟨plainId_quiet FB.init.plain _, codeAny_builtin FB.initEntry ?_⟩
  exact exc_init_tree (cls := .ref C) (t0 := t0) (dv := none) (c2 := .none) (c3 := .none) (b4 := .bool false) hx hz fun h' k e' _ => hq h' _ k e'
end
section
variable {prog : Program} {w : World} {A : Around} {E : Value → Shared → Prop} {s : Shared} {K : Frag} {B : String} {bmB : List Value}
/-- self.f = v: the first field -/
theorem fld_set {x C t0 : Addr} {name : Str} {v : Value} {Q : Unit → Shared → Prop} (X : K.In s.heap) (hx : s.heap.get? x = some (excObj C t0 none .none)) (sa : findIn K (.ref C) "__setattr__" = some (some (.builtin "object.__setattr__")))
    (SF : StoreFacts B bmB "object.__setattr__" "object") (hp : excOver K C bmB = true) (ht : takerIn K C name = some none) (hh : hasDictIn K C = true)
    (h : ∀ dx h' tk', (∀ b o, b ≠ x → s.heap.get? b = some o → h'.get? b = some o) → s.heap.objs.size ≤ dx → dx ≠ x → h'.get? x = some (excObj C t0 (some dx) .none) → h'.Ns1 dx (fun y => if y = name then some v else none) →
      Q () { s with heap := h', toks := tk' }) : wpAny (model prog w) A (setAttr (.ref x) name v) Q E s := by
  obtain ⟨hp', g, dr, tk, os⟩ := s
  have hxs : x ≠ hp'.objs.size := Nat.ne_of_lt (Heap.lt_size hx)
  obtain ⟨cd, hc, hd'⟩ := any_some hh
  refine set_plain (od := none) X ⟨hx, rfl, rfl, trivial⟩ sa (osa_openX (od := none) SF X ⟨hx, rfl, rfl, trivial⟩ hp ht fun b => ?_)
  refine wpAny_bind (wpAny_pure (wpAny_bind (instanceDict_exc hx (looks_clsIn X hc) hd' ?_)))
  show wpAny _ _ (storeInDict hp'.objs.size (.str name _) name v) _ _ _
  refine HandSPX.store_in_new ?_ ?_
  · exact ⟨_, #[], _, (Heap.get?_update_ne _ _ _ _ hxs.symm).trans (Heap.get?_push_at rfl rfl), rfl, fun e he => absurd he (by simp), fun _ => rfl⟩
  · intro h' tk' hn' hs
    have hx1 : (hp'.push (dictOf [] 0)).get? x = some (excObj C t0 none .none) := Heap.get?_push_of_some _ hx
    refine h hp'.objs.size h' tk' (fun b o hb ho => ?_) (Nat.le_refl _) hxs.symm ?_ hn'
    · exact (hs.2 b (Nat.ne_of_lt (Heap.lt_size ho))).trans ((Heap.get?_update_ne _ _ _ _ hb).trans (Heap.get?_push_of_some _ ho))
    · exact (hs.2 x hxs).trans (Heap.get?_update_self _ hx1 rfl)
end

/-! ### its __init__ -/
def fldBody (sN nN fN : Str) (p0 p1 p2 p3 p4 p5 p6 p7 p8 p9 : Pos) : List Stmt :=
  [.Expr (.Call (.Attribute (.Call (.Name "super" p0) [] [] p1) "__init__" p2) [.Name nN p3] [] p4) p5, .Assign [.Attribute (.Name sN p6) fN p7] (.Name nN p8) p9]
/-- a method's call, the name and the closing bracket on one line -/
theorem mc_eq {env : Env} {o : Expr} {name : Str} {e : Expr} {p2 p4 : Pos} (h : (p2.endLine == p4.line) = true) (hs : (starEach [e] env) = [(false, PySem.eval e env)]) : PySem.eval (.Call (.Attribute o name p2) [e] [] p4) env = (do
      let ov ← attributeBase o name env (PySem.eval o env)
      standAt p2.atName
      let (f, first) ← holding [ov] (getMethod ov name (do return (← importBound o env).getD true))
      callWith p4 f first (backTo p4 (starEach [e] env)) []) := by
  have h0 : PySem.eval (.Call (.Attribute o name p2) [e] [] p4) env = (do
      let ov ← attributeBase o name env (PySem.eval o env)
      standAt p2.atName
      methodCall o name p2 p4 env ov ([e].length + ([] : List Keyword).length) (backTo p4 (starEach [e] env)) (backToKw p4 (keywordEach [] env))) := by rfl
  rw [h0]
  have hf : methodCallForm ([e].length + ([] : List Keyword).length) (backTo p4 (starEach [e] env)) (backToKw p4 (keywordEach [] env)) = true := by rw [hs]; rfl
  have hk : backToKw p4 (keywordEach [] env) = [] := rfl
  unfold methodCall methodCallPos calleeOf
  rw [hf]
  simp only [h, hk, Bool.not_true, Bool.false_or, if_true, pure_bind]
/-- class C(LookupError) with def __init__(self, n): super().__init__(n); self.f = n -/
structure FldC (prog : Program) (K : Frag) (C : Addr) (fN : Str) : Prop where
  q : excInitIn K C [.type "LookupError", .type "Exception", .type "BaseException", .type "object"] "LookupError.__new__" = true
  op : excOver K C [.type "LookupError", .type "Exception", .type "BaseException", .type "object"] = true
  cd : (clsIn K C).isSome = true
  own : mroIn K C (.ref C) = some true
  sub : subIn K (.ref C) (.type "LookupError") = some true
  exC : subIn K (.ref C) (.type "BaseException") = some true
  tyC : typeIn K (.ref C) = some (.type "type")
  kC : keepIn K (.ref C) = true
  opq : nsIn K cStatics "thirdparty.any" = some none
  sup : ks_superIn K C C "__init__" = some (some (.builtin "LookupError.__init__"))
  sa : findIn K (.ref C) "__setattr__" = some (some (.builtin "object.__setattr__"))
  tk : takerIn K C fN = some none
  hd : hasDictIn K C = true
  fn : ∃ (fI cc cda : Addr) (name qual : Str) (params : Arguments) (scope : Scope) (sN nN : Str) (p0 p1 p2 p3 p4 p5 p6 p7 p8 p9 : Pos) (dV kV doc pm ct : Value) (an : Option Addr) (oc ccl cl : Value) (od cdd cld : Option Addr) (osl ccs csl : Array (Option Value)) (vs : Array Value) (file : Str) (tf : Tok) (ar : Arg),
    findIn K (.ref C) "__init__" = some (some (.ref fI)) ∧ typeIn K (.ref fI) = some (.type "function") ∧
    K.lookup fI = some ⟨oc, od, .func (ksFn name qual params (fldBody sN nN fN p0 p1 p2 p3 p4 p5 p6 p7 p8 p9) scope dV kV doc pm an (.ref cda) ct cc), osl⟩ ∧ codeIn K (.ref cda) qual = true ∧
    K.lookup cda = some ⟨ccl, cdd, .fields vs, ccs⟩ ∧ vs[2]? = some (.str file tf) ∧ ((prog.main.file : Str) == file) = true ∧ K.lookup cc = some ⟨cl, cld, .cell (some (.ref C)), csl⟩ ∧
    (params.posonlyargs ++ params.args).head? = some ar ∧ ar.arg = sN ∧ (sN == nN) = false ∧
    (∀ a b : Value, bindArgs (ksFn name qual params (fldBody sN nN fN p0 p1 p2 p3 p4 p5 p6 p7 p8 p9) scope dV kV doc pm an (.ref cda) ct cc) ⟨[a, b], []⟩ = pure [(sN, a), (nN, b)]) ∧
    scope.names.lookup ("super" : Str) = some .globalImplicit ∧ scope.names.lookup ("__class__" : Str) = some .free ∧ scope.names.lookup sN = some .local ∧ scope.names.lookup nN = some .local ∧
    (∀ x ∈ scope.names, x.2 ≠ .cell) ∧ scope.isCoroutine = false ∧ scope.isGenerator = false ∧ scope.kind = .function ∧ (sN == ("__debug__" : Str)) = false ∧ (nN == ("__debug__" : Str)) = false ∧ (p2.endLine == p4.line) = true
  top : (prog.main.scope.names.lookup ("super" : Str)).isSome = false
section
variable {prog : Program} {w : World} {A : Around} {E : Value → Shared → Prop} {s : Shared} {K : Frag} {C : Addr} {fN : Str} {mg : Str → Option Value}
theorem fld_make {u : Value} {Q : Value → Shared → Prop} (FX : FldC prog K C fN) (X : K.In s.heap) (hlim : s.heap.NoLimit) (hg : s.heap.Ns mainGlobals mg) (hsup : mg "super" = none)
    (hbl : ∃ mb, s.heap.Ns builtinsNs mb ∧ mb "super" = some (.type "super")) (hroom : A.depth + 1 < recursionLimit)
    (h : ∀ e t1 dx h' tk', (∀ b o, s.heap.get? b = some o → h'.get? b = some o) → s.heap.objs.size ≤ e → s.heap.objs.size ≤ dx → dx ≠ e → h'.get? e = some (excObj C t1 (some dx) .none) → h'.Ns1 dx (fun y => if y = fN then some u else none) →
      Q (.ref e) { s with heap := h', toks := tk' }) : wpAny (model prog w) A (call (.ref C) [u]) Q E s := by
  obtain ⟨fI, cc, cda, name, qual, params, scope, sN, nN, p0, p1, p2, p3, p4, p5, p6, p7, p8, p9, dV, kV, doc, pm, ct, an, oc, ccl, cl, od, cdd, cld, osl, ccs, csl, vs, file, tf, ar, iC, tI, lf, hcode, lcd, hvs, hfile, lcc, hpar, har, hne, hbind, ns, nc, nS, nN', hcell, hco, hgen, hk, hdS, hdN, h24⟩ := FX.fn
  obtain ⟨nm, N', qn, bs, bm, hdct, sn, sub, ab, col, dd, k0, k1, k2, k3, k5, hC, hT⟩ := excInit_of X FX.q
  obtain ⟨hp, g, dr, tk, os⟩ := s
  have hz : ([u] : List Value).length ≤ sizeLine := by rw [sizeLine_eq]; simp
  refine wpAny_call (PX.call_own PySem.F.excBase_LookupError hT hC (looks_findIn X iC) (fun self => bind_fn X self tI) hz ?_)
  have k0' : ∀ b o, hp.get? b = some o → ((hp.push (excTup [u])).push (excObj C hp.objs.size none .none)).get? b = some o := fun b o e => Heap.get?_push_of_some _ (Heap.get?_push_of_some _ e)
  have hx0 : ((hp.push (excTup [u])).push (excObj C hp.objs.size none .none)).get? (hp.objs.size + 1) = some (excObj C hp.objs.size none .none) := Heap.get?_push_at (by rw [Heap.size_push]) rfl
  refine ks_codeAny_call_defAt (s := ⟨(hp.push (excTup [u])).push (excObj C hp.objs.size none .none), g, dr, tk, os⟩) (fd := ksFn name qual params (fldBody sN nN fN p0 p1 p2 p3 p4 p5 p6 p7 p8 p9) scope dV kV doc pm an (.ref cda) ct cc) (binds := [(sN, .ref (hp.objs.size + 1)), (nN, u)])
    (by rw [make_depth]; exact hroom) (X.keeps k0' _ _ lf) rfl (hlim.keeps k0') (codeRec_of (X.keeps k0') hcode) rfl (.of_eq (hbind _ _)) hcell ?_ (fun h0 hns hk0 => ?_) hco hgen hk
  · intro y hy
    simp only [List.mem_cons, List.not_mem_nil, or_false] at hy
    rcases hy with rfl | rfl
    · exact nS
    · exact nN'
  · generalize hL : (Shared.heap ⟨(hp.push (excTup [u])).push (excObj C hp.objs.size none .none), g, dr, tk, os⟩).objs.size = L at *
    have hx1 := hk0 _ _ hx0
    have kk : ∀ b o, hp.get? b = some o → h0.get? b = some o := fun b o e => hk0 _ _ (k0' b o e)
    have X1 : K.In h0 := X.keeps kk
    have mS : (fun x => List.lookup x [(sN, Value.ref (hp.objs.size + 1)), (nN, u)].reverse) sN = some (.ref (hp.objs.size + 1)) := by
      have : (sN == nN) = false := hne
      simp [List.lookup, this]
    have mN : (fun x => List.lookup x [(sN, Value.ref (hp.objs.size + 1)), (nN, u)].reverse) nN = some u := by simp [List.lookup]
    obtain ⟨oD, cdD, hD1, hD2⟩ : ∃ (oD : Obj) (cdD : ClassData), h0.get? C = some oD ∧ oD.data = .cls cdD := by
      obtain ⟨cd, hc⟩ := Option.isSome_iff_exists.mp FX.cd
      unfold clsIn at hc
      split at hc
      · rename_i c d cd' sl ho
        exact ⟨_, _, X1 _ _ ho, rfl⟩
      · cases hc
    refine ks_wpAt_execs_cons (ks_wpAt_Expr_any (ks_wpAt_MethodCall (ks_wpAt_super_base ns nc (by rfl) rfl (X1 _ _ lf) rfl hpar rfl (X1 _ _ lcd) rfl hvs hfile FX.top ?_) (mc_eq h24 (by rfl))) (by simp [interactive, callEnv, newEnv, hk]) (by rfl))
    obtain ⟨mb, hb1, hb2⟩ := hbl
    have mS' : (fun x => List.lookup x [(sN, Value.ref (hp.objs.size + 1)), (nN, u)].reverse) ar.arg = some (.ref (hp.objs.size + 1)) := by rw [har]; exact mS
    refine ks_loadName_global hk ns (loadGlobal_builtin (hg.keeps kk) hsup (hb1.keeps kk) hb2 ⟨rfl, ?_⟩)
    refine wpAny_loadName_free hk nc rfl ⟨_, X1 _ _ lcc, rfl⟩ ?_
    refine wpAny_loadName_local hk (by rw [har]; exact nS) hns mS' ?_
    refine ks_wpAny_isType_cls hD1 hD2 ⟨rfl, ?_⟩
    refine ks_wpAny_call_super hD1 hD2 hx1 rfl (fun c e => by cases e) (looks_mroIn X1 FX.own) (fun h2 e2 k2 => ?_)
    have X2 : K.In h2 := X1.keeps k2
    obtain ⟨cd, hcd⟩ := Option.isSome_iff_exists.mp FX.cd
    have hm := FX.sup
    unfold ks_superIn at hm
    rw [hcd] at hm
    have I2 : InstAt h2 (hp.objs.size + 1) (excObj C hp.objs.size none .none) C none := ⟨k2 _ _ hx1, rfl, rfl, trivial⟩
    have hI : Looks (model prog w) h2 (isInstance (.ref (hp.objs.size + 1)) (.type "LookupError")) true := I2.type.andThen (looks_subIn X2 FX.sub)
    refine kxs_getMethod kxs_LookupError e2 (looks_opaque X2 FX.opq) (l₀ := cd.mro) ?_ rfl X2 hm hI (ks_ne X2 I2 hcd) (by decide) ?_
    · exact fun A Q E s k q => wpAny_bind ((looks_clsIn X2 hcd) A _ E s k (wpAny_pure q))
    have hx3 : (h2.push (kxs_mw "LookupError.__init__" (hp.objs.size + 1))).get? (hp.objs.size + 1) = some (excObj C hp.objs.size none .none) := Heap.get?_push_of_some _ (k2 _ _ hx1)
    have hu3 : (h2.push (kxs_mw "LookupError.__init__" (hp.objs.size + 1))).get? h2.objs.size = some (kxs_mw "LookupError.__init__" (hp.objs.size + 1)) := Heap.get?_push_at rfl rfl
    have k3 : ∀ b o, h0.get? b = some o → (h2.push (kxs_mw "LookupError.__init__" (hp.objs.size + 1))).get? b = some o := fun b o z => Heap.get?_push_of_some _ (k2 _ _ z)
    have hns3 := hns.keeps k3
    refine kxs_callWith (i := "LookupError.__init__") (x := hp.objs.size + 1) (by rfl) (evalArgs_plain ?_)
    refine spliced_cons ?_
    show wpAny _ _ (PySem.eval (Expr.Name nN p3) _) _ _ _
    refine wpAny_Name (wpAny_loadName_local hk nN' hns3 mN ?_) hdN
    refine spliced_nil ⟨hu3, ?_⟩
    have hxL : hp.objs.size + 1 < L := hL ▸ Heap.lt_size hx0
    have hC3 := k3 _ _ (kk _ _ hC)
    refine mw_call PySem.F.excBase_LookupError hC3 hx3 hu3 hz fun h4 t1 k4 hx4 => ?_
    have X4 : K.In h4 := fun b o z => k4 b o (fun q => by
      subst q
      have : hp.objs.size + 1 < hp.objs.size := Heap.lt_size (X _ _ z)
      omega) (k3 _ _ (X1 _ _ z))
    obtain ⟨oL, es, ep, hoL, r4⟩ := hns3
    have hns4 : h4.Ns L (fun x => List.lookup x [(sN, Value.ref (hp.objs.size + 1)), (nN, u)].reverse) := ⟨oL, es, ep, k4 _ _ (Nat.ne_of_gt hxL) hoL, r4⟩
    show _root_.PySem.wpAt _ _ _ (execs [_] _) _ _ _
    refine ks_wpAt_execs_cons (ks_wpAt_Assign_Attr (wpAt_of_wpAny (wpAny_Name (wpAny_loadName_local hk nN' hns4 mN ?_) hdN)) (by rfl))
    refine wpAny_Name (wpAny_loadName_local hk nS hns4 mS ?_) hdS
    refine fld_set X4 hx4 FX.sa PySem.F.store_LookupError FX.op FX.tk FX.hd fun dx h5 tk5 k5 hd1 hd2 hx5 hn5 => ?_
    show _root_.PySem.wpAt _ _ _ (execs [] _) _ _ _
    refine wpAt_of_wpAny (wpAny_execs_nil ?_)
    refine ⟨rfl, ?_⟩
    show Q (.ref (hp.objs.size + 1)) ⟨h5, g, dr, tk5, os⟩
    refine h (hp.objs.size + 1) t1 dx h5 tk5 (fun b o z => ?_) (Nat.le_succ _) ?_ hd2 hx5 hn5
    · have hb : b < hp.objs.size := Heap.lt_size z
      have hb' : b ≠ hp.objs.size + 1 := Nat.ne_of_lt (Nat.lt_succ_of_lt hb)
      exact k5 b o hb' (k4 b o hb' (k3 _ _ (kk _ _ z)))
    · have : hp.objs.size + 1 < h4.objs.size := Heap.lt_size hx4
      have hd1' : h4.objs.size ≤ dx := hd1
      show hp.objs.size ≤ dx
      omega
end

/-! ### C(e) as what is raised -/
def tFld (C : Addr) (f : Str) (te : TE) : L2.St → Hp → XK → Prop := fun σ H Q => te σ H fun y H1 => ∀ d, H1 d = none → Q (.ref C) (some d) (upd H1 d (.xd [(f, y)]))
theorem pmk_fld {X : Cx} {x fN : Str} {C : Addr} {k : Nat} {e : Expr} {te : TE} {p pos : Pos} (FX : FldC X.prog X.K C fN) (hsup : X.mg "super" = none) (hr : Room k X.A) (hg : Gl X x) (hm : X.mg x = some (.ref C)) (he : PE X e te)
    (hdb : (x == ("__debug__" : Str)) = false) (hes : starEach [e] X.env = [(false, PySem.eval e X.env)]) : PMk X (.Call (.Name x p) [e] [] pos) (tFld C fN te) := by
  intro pins s σ H Q I h
  refine wpAny_Call_Name_kw (ld_glob I hg hm ?_ hdb)
  have h' : tCons te tNil σ H (fun vs H1 => match vs with | [y] => ∀ d, H1 d = none → Q (.ref C) (some d) (upd H1 d (.xd [(fN, y)])) | _ => False) := h
  refine PySem.W.callWith_K (h₀ := X.base) I.ok.mod.kin FX.kC (thn ((pa_cons he pa_nil hes).run pos pins s σ H _ I h') fun us s1 ⟨vs, H1, I1, r1, q1⟩ => ⟨I1.kIn, ?_⟩) hes (by rfl)
  show wpAny _ _ (call (.ref C) us) _ _ _
  match vs, q1 with
  | [y], q1 =>
    cases r1 with
    | @cons _ u _ ur ry rn =>
      cases rn
      obtain ⟨mb, hb1, hb2⟩ := I1.mod.blt
      refine fld_make FX I1.kIn (I1.ok.mod.nolimit.keeps I1.bk) (I1.mod.glob.keeps I1.bk) hsup ⟨mb, hb1.keeps I1.bk, (hb2 _ (by decide)).trans (by kernel_rfl)⟩ (by have := hr.dp; omega) fun a t1 dx h' tk' kk hla hld hne hxa hxd => ?_
      obtain ⟨G, g1', g2'⟩ := restrict h' fun b => decide (b ≠ a)
      have gk : ∀ b, b ≠ a → G.get? b = h'.get? b := fun b hb => g1' b (decide_eq_true hb)
      have ge : G.get? a = none := g2' a (by simp)
      have kG : ∀ b o, G.get? b = some o → h'.get? b = some o := fun b o z => by
        by_cases hb : b = a
        · rw [hb, ge] at z; cases z
        · rw [← gk b hb]; exact z
      have kG1 : ∀ b o, s1.heap.get? b = some o → G.get? b = some o := fun b o z => by
        rw [gk b (Nat.ne_of_lt (Nat.lt_of_lt_of_le (Heap.lt_size z) hla))]
        exact kk b o z
      have hnd : H1 dx = none := I1.hok.fresh hld
      have hna : H1 a = none := I1.hok.fresh hla
      have new : ObjOk X.prog X.w (upd H1 dx (.xd [(fN, y)])) G dx (.xd [(fN, y)]) := ⟨_, hxd.at fun o z => (gk dx hne).trans z, relO_put (fs := []) ry fun g => True.intro⟩
      obtain ⟨hp1, gs1, d1, tk1, os1⟩ := s1
      have J := I1.laid (t' := tk') (a := dx) (o := .xd [(fN, y)]) (h' := G) kG1 hld new
      have na : (upd H1 dx (.xd [(fN, y)])) a = none := by rw [upd_ne (Ne.symm hne)]; exact hna
      refine ⟨a, _, _, ⟨G, gs1, d1, tk', os1⟩, _, .ref C, some dx, rfl, J, kG, ge, hxa, ⟨rfl, rfl⟩, rfl, rfl, na, rfl, I1.bare, raises_own FX.exC FX.tyC, q1 dx hnd⟩
end Mp

set_option Elab.async false
set_option linter.all false
set_option maxRecDepth 100000
set_option maxHeartbeats 4000000
namespace Mp
open PySem PySem.Spec PySem.W PySem.Calls PyProof.Rows L2
/-- what is known of an exception class of the program's own (over ValueError, no __init__) -/
structure ExK (xs : List Str) (K : PySem.W.Frag) (mg : Str → Option Value) (x : Str) : Prop where
  g : mg x = some (.ref (He.ga K x))
  e : PySem.W.excIn K (He.ga K x) He.veBase "ValueError.__new__" = true
  k : PySem.W.keepIn K (.ref (He.ga K x)) = true
  b : PySem.W.subIn K (.ref (He.ga K x)) (.type "BaseException") = some true
  t : PySem.W.typeIn K (.ref (He.ga K x)) = some (.type "type")
  c : ExcC K (He.ga K x)
  v : PySem.W.kitOne K (.ref (He.ga K x)) (.type "ValueError") = some true
  m : ∀ y ∈ xs, PySem.W.exmOne K (.ref (He.ga K x)) (.ref (He.ga K y)) = some (x == y)
def excCB (K : PySem.W.Frag) (D : Addr) : Bool :=
  He.eqO (PySem.W.findIn K (.ref D) "__getattribute__") (some (some (.builtin "BaseException.__getattribute__"))) && (He.eqO (PySem.W.findIn K (.ref D) "__getattr__") (some none) && (decide (PySem.W.subIn K (.ref D) (.type "BaseException") = some true) &&
  (PySem.W.hasDictIn K D && (He.eqO (PySem.W.findIn K (.ref D) "__class__") (some (some (.builtin "object.__class__"))) && (He.eqO (PySem.W.specialIn K (.builtin "object.__class__") "__get__") (some (some (.builtin "getset_descriptor.__get__"))) &&
  (decide (PySem.W.takesIn K (.builtin "object.__class__") = some true) && decide (PySem.W.mroIn K D (.type "object") = some true)))))))
def exkB (xs : List Str) (K : PySem.W.Frag) (x : Str) : Bool :=
  (He.Fa.glo x).ok K && ((He.Fa.exc x).ok K && (excCB K (He.ga K x) && (decide (PySem.W.kitOne K (.ref (He.ga K x)) (.type "ValueError") = some true) && xs.all fun y => decide (PySem.W.exmOne K (.ref (He.ga K x)) (.ref (He.ga K y)) = some (x == y)))))
theorem exk_ok {xs : List Str} {K : PySem.W.Frag} {h : Heap} {mg : Str → Option Value} {x : Str} (X : K.In h) (G : h.Ns mainGlobals mg) (c : exkB xs K x = true) : ExK xs K mg x := by
  obtain ⟨c1, c⟩ := He.ba c
  obtain ⟨c2, c⟩ := He.ba c
  obtain ⟨c3, c⟩ := He.ba c
  obtain ⟨c4, c5⟩ := He.ba c
  obtain ⟨e1, e2, e3, e4⟩ := He.exc_ok c2
  obtain ⟨d1, d⟩ := He.ba c3
  obtain ⟨d2, d⟩ := He.ba d
  obtain ⟨d3, d⟩ := He.ba d
  obtain ⟨d4, d⟩ := He.ba d
  obtain ⟨d5, d⟩ := He.ba d
  obtain ⟨d6, d⟩ := He.ba d
  obtain ⟨d7, d8⟩ := He.ba d
  exact ⟨He.glo_ok X G c1, e1, e2, e3, e4, ⟨He.eqO_ok d1, He.eqO_ok d2, of_decide_eq_true d3, d4, He.eqO_ok d5, He.eqO_ok d6, of_decide_eq_true d7, of_decide_eq_true d8⟩, of_decide_eq_true c4, fun y hy => of_decide_eq_true (List.all_eq_true.mp c5 y hy)⟩
/-! ### a class with a field: the test of it -/
theorem bind_two {name qual : Str} {body : List Stmt} {scope : Scope} {a1 a2 : Arg} {kd ds} (kV doc pm : Value) (an : Option Addr) (cdv ct : Value) (cc : Addr) (hne : (a1.arg == a2.arg) = false) (a b : Value) :
    bindArgs (ksFn name qual ⟨[], [a1, a2], none, [], kd, none, ds⟩ body scope .none kV doc pm an cdv ct cc) ⟨[a, b], []⟩ = pure [(a1.arg, a), (a2.arg, b)] := by
  have hne' : (a2.arg == a1.arg) = false := by
    rw [beq_eq_false_iff_ne] at hne ⊢
    exact fun h => hne h.symm
  unfold bindArgs
  simp [seqItems?, List.lookup, hne, hne']
  have e3 : notAStandIn Value.none = pure () := rfl
  rw [e3]
  rfl
/-- the code object's file -/
def fileB (P : Program) (K : Frag) (a : Addr) : Bool := match K.lookup a with
  | some ⟨_, _, .fields vs, _⟩ => (match (vs[2]? : Option Value) with
    | some (Value.str file _) => (P.main.file : Str) == file
    | _ => false)
  | _ => false
def cellB (K : Frag) (a C : Addr) : Bool := match K.lookup a with
  | some ⟨_, _, .cell (some (.ref D)), _⟩ => decide (D = C)
  | _ => false
def scB (sc : Scope) (sN nN : Str) : Bool := sc.names.lookup ("super" : Str) == some .globalImplicit && sc.names.lookup ("__class__" : Str) == some .free && sc.names.lookup sN == some .local && sc.names.lookup nN == some .local &&
  (sc.names.all fun x => !(x.2 == .cell)) && !sc.isCoroutine && !sc.isGenerator && sc.kind == .function && !(sN == ("__debug__" : Str)) && !(nN == ("__debug__" : Str))
def fdB (P : Program) (K : Frag) (C : Addr) (fN : Str) (fd : FuncData) : Bool := match fd.body, fd.closure, fd.params, fd.code, fd.defaults with
  | .stmts [.Expr (.Call (.Attribute (.Call (.Name s0 _) [] [] _) i0 p2) [.Name n1 _] [] p4) _, .Assign [.Attribute (.Name s1 _) f1 _] (.Name n2 _) _], [(c0, cc)], ⟨[], [a1, a2], none, [], _, none, _⟩, .ref cda, .none =>
    s0 == ("super" : Str) && i0 == ("__init__" : Str) && c0 == ("__class__" : Str) && a1.arg == s1 && a2.arg == n1 && n2 == n1 && f1 == fN && !(s1 == n1) && decide (fd.globals = mainGlobals) && decide (fd.builtins = builtinsNs) && codeIn K (.ref cda) fd.qualname && fileB P K cda && cellB K cc C && scB fd.scope s1 n1 && p2.endLine == p4.line
  | _, _, _, _, _ => false
def initB (P : Program) (K : Frag) (C : Addr) (fN : Str) : Bool := match findIn K (.ref C) "__init__" with
  | some (some (.ref fI)) => decide (typeIn K (.ref fI) = some (.type "function")) && (match K.lookup fI with
    | some ⟨_, _, .func fd, _⟩ => fdB P K C fN fd
    | _ => false)
  | _ => false
theorem init_ok {P : Program} {K : Frag} {C : Addr} {fN : Str} (h : initB P K C fN = true) :
    ∃ (fI cc cda : Addr) (name qual : Str) (params : Arguments) (scope : Scope) (sN nN : Str) (p0 p1 p2 p3 p4 p5 p6 p7 p8 p9 : Pos) (dV kV doc pm ct : Value) (an : Option Addr) (oc ccl cl : Value) (od cdd cld : Option Addr) (osl ccs csl : Array (Option Value)) (vs : Array Value) (file : Str) (tf : Tok) (ar : Arg),
    findIn K (.ref C) "__init__" = some (some (.ref fI)) ∧ typeIn K (.ref fI) = some (.type "function") ∧
    K.lookup fI = some ⟨oc, od, .func (ksFn name qual params (fldBody sN nN fN p0 p1 p2 p3 p4 p5 p6 p7 p8 p9) scope dV kV doc pm an (.ref cda) ct cc), osl⟩ ∧ codeIn K (.ref cda) qual = true ∧
    K.lookup cda = some ⟨ccl, cdd, .fields vs, ccs⟩ ∧ vs[2]? = some (.str file tf) ∧ ((P.main.file : Str) == file) = true ∧ K.lookup cc = some ⟨cl, cld, .cell (some (.ref C)), csl⟩ ∧
    (params.posonlyargs ++ params.args).head? = some ar ∧ ar.arg = sN ∧ (sN == nN) = false ∧
    (∀ a b : Value, bindArgs (ksFn name qual params (fldBody sN nN fN p0 p1 p2 p3 p4 p5 p6 p7 p8 p9) scope dV kV doc pm an (.ref cda) ct cc) ⟨[a, b], []⟩ = pure [(sN, a), (nN, b)]) ∧
    scope.names.lookup ("super" : Str) = some .globalImplicit ∧ scope.names.lookup ("__class__" : Str) = some .free ∧ scope.names.lookup sN = some .local ∧ scope.names.lookup nN = some .local ∧
    (∀ x ∈ scope.names, x.2 ≠ .cell) ∧ scope.isCoroutine = false ∧ scope.isGenerator = false ∧ scope.kind = .function ∧ (sN == ("__debug__" : Str)) = false ∧ (nN == ("__debug__" : Str)) = false ∧ (p2.endLine == p4.line) = true := by
  unfold initB at h
  split at h
  · rename_i fI hfI
    simp only [Bool.and_eq_true, decide_eq_true_eq] at h
    obtain ⟨hT, h⟩ := h
    split at h
    · rename_i oc od fd osl hl
      obtain ⟨name, qual, params, body, scope, gl, clo, dV, kV, doc, pm, an, code, ct, bl⟩ := fd
      unfold fdB at h
      dsimp only at h
      split at h
      · rename_i s0 p0 p1 i0 p2 n1 p3 p4 p5 s1 p6 f1 p7 n2 p8 p9 c0 cc a1 a2 kd ds cda
        simp only [Bool.and_eq_true, beq_iff_eq, decide_eq_true_eq, Bool.not_eq_true'] at h
        obtain ⟨⟨⟨⟨⟨⟨⟨⟨⟨⟨⟨⟨⟨⟨h1, h2⟩, h3⟩, h4⟩, h5⟩, h6⟩, h7⟩, h8⟩, h9⟩, h10⟩, h11⟩, h12⟩, h13⟩, h14⟩, h15⟩ := h
        subst h1 h2 h3 h9 h10 h6 h7
        unfold fileB at h12
        split at h12
        · rename_i ccl cdd vs ccs hcd
          split at h12
          · rename_i file tf hvs
            unfold cellB at h13
            split at h13
            · rename_i cl cld D csl hcc
              have h13 := of_decide_eq_true h13
              subst h13
              unfold scB at h14
              simp only [Bool.and_eq_true, beq_iff_eq, Bool.not_eq_true', List.all_eq_true] at h14
              obtain ⟨⟨⟨⟨⟨⟨⟨⟨⟨g1, g2⟩, g3⟩, g4⟩, g5⟩, g6⟩, g7⟩, g8⟩, g9⟩, g10⟩ := h14
              subst h4 h5
              refine ⟨fI, cc, cda, name, qual, _, scope, a1.arg, a2.arg, p0, p1, p2, p3, p4, p5, p6, p7, p8, p9, .none, kV, doc, pm, ct, an, oc, ccl, cl, od, cdd, cld, osl, ccs, csl, vs, file, tf, a1, hfI, hT, hl, h11, hcd, hvs, h12, hcc, rfl, rfl, h8, fun a b => bind_two kV doc pm an (.ref cda) ct cc h8 a b, g1, g2, g3, g4, ?_, g6, g7, g8, g9, g10, ?_⟩
              · intro x hx e
                have := g5 x hx
                rw [e] at this
                cases this
              · simp [h15]
            · cases h13
          · cases h12
        · cases h12
      · cases h
    · cases h
  · cases h
abbrev leBase : List Value := [.type "LookupError", .type "Exception", .type "BaseException", .type "object"]
def isSN : Option (Option Value) → Bool
  | some none => true
  | _ => false
theorem isSN_ok {o : Option (Option Value)} (h : isSN o = true) : o = some none := by
  unfold isSN at h
  split at h
  · rfl
  · cases h
def fldB (P : Program) (K : Frag) (C : Addr) (fN : Str) : Bool :=
  excInitIn K C leBase "LookupError.__new__" && excOver K C leBase && (clsIn K C).isSome && decide (mroIn K C (.ref C) = some true) && decide (subIn K (.ref C) (.type "LookupError") = some true) && decide (subIn K (.ref C) (.type "BaseException") = some true) &&
  decide (typeIn K (.ref C) = some (.type "type")) && keepIn K (.ref C) && isSN (nsIn K cStatics "thirdparty.any") && He.eqO (ks_superIn K C C "__init__") (some (some (.builtin "LookupError.__init__"))) && He.eqO (findIn K (.ref C) "__setattr__") (some (some (.builtin "object.__setattr__"))) &&
  isSN (takerIn K C fN) && hasDictIn K C && initB P K C fN && !(P.main.scope.names.lookup ("super" : Str)).isSome
theorem fldB_ok {P : Program} {K : Frag} {C : Addr} {fN : Str} (h : fldB P K C fN = true) : FldC P K C fN := by
  unfold fldB at h
  simp only [Bool.and_eq_true, decide_eq_true_eq, Bool.not_eq_true'] at h
  obtain ⟨⟨⟨⟨⟨⟨⟨⟨⟨⟨⟨⟨⟨⟨h1, h2⟩, h3⟩, h4⟩, h5⟩, h6⟩, h7⟩, h8⟩, h9⟩, h10⟩, h11⟩, h12⟩, h13⟩, h14⟩, h15⟩ := h
  exact ⟨h1, h2, h3, h4, h5, h6, h7, h8, isSN_ok h9, He.eqO_ok h10, He.eqO_ok h11, isSN_ok h12, h13, init_ok h14, h15⟩
/-- an exception class with a field: what is known of it; ys: all classes -/
structure ExF (ys : List Str) (P : Program) (K : Frag) (mg : Str → Option Value) (x f : Str) : Prop where
  g : mg x = some (.ref (He.ga K x))
  k : keepIn K (.ref (He.ga K x)) = true
  b : subIn K (.ref (He.ga K x)) (.type "BaseException") = some true
  t : typeIn K (.ref (He.ga K x)) = some (.type "type")
  c : ExcC K (He.ga K x)
  v : kitOne K (.ref (He.ga K x)) (.type "LookupError") = some true
  m : ∀ y ∈ ys, exmOne K (.ref (He.ga K x)) (.ref (He.ga K y)) = some (x == y)
  xf : XfC K (He.ga K x)
  no : findIn K (.ref (He.ga K x)) f = some none
  fc : FldC P K (He.ga K x) f
def exfB (ys : List Str) (P : Program) (K : Frag) (p : Str × Str) : Bool :=
  (He.Fa.glo p.1).ok K && (excCB K (He.ga K p.1) && (decide (kitOne K (.ref (He.ga K p.1)) (.type "LookupError") = some true) && ((ys.all fun y => decide (exmOne K (.ref (He.ga K p.1)) (.ref (He.ga K y)) = some (p.1 == y))) && (xfB K (He.ga K p.1) && (isSN (findIn K (.ref (He.ga K p.1)) p.2) && fldB P K (He.ga K p.1) p.2)))))
theorem exf_ok {ys : List Str} {P : Program} {K : Frag} {h : Heap} {mg : Str → Option Value} {p : Str × Str} (X : K.In h) (G : h.Ns mainGlobals mg) (c : exfB ys P K p = true) : ExF ys P K mg p.1 p.2 := by
  obtain ⟨c1, c⟩ := He.ba c
  obtain ⟨c3, c⟩ := He.ba c
  obtain ⟨c4, c⟩ := He.ba c
  obtain ⟨c5, c⟩ := He.ba c
  obtain ⟨c6, c⟩ := He.ba c
  obtain ⟨c7, c8⟩ := He.ba c
  obtain ⟨d1, d⟩ := He.ba c3
  obtain ⟨d2, d⟩ := He.ba d
  obtain ⟨d3, d⟩ := He.ba d
  obtain ⟨d4, d⟩ := He.ba d
  obtain ⟨d5, d⟩ := He.ba d
  obtain ⟨d6, d⟩ := He.ba d
  obtain ⟨d7, d8⟩ := He.ba d
  have F := fldB_ok c8
  exact ⟨He.glo_ok X G c1, F.kC, F.exC, F.tyC, ⟨He.eqO_ok d1, He.eqO_ok d2, of_decide_eq_true d3, d4, He.eqO_ok d5, He.eqO_ok d6, of_decide_eq_true d7, of_decide_eq_true d8⟩, of_decide_eq_true c4, fun y hy => of_decide_eq_true (List.all_eq_true.mp c5 y hy), xfB_ok c6, isSN_ok c7, F⟩
end Mp

set_option Elab.async false
set_option linter.all false
set_option maxRecDepth 100000
set_option maxHeartbeats 2000000
namespace Mp
open PySem PySem.Spec PyProof.Rows L2

/-! ### a tuple of which it is known that it has no dict of its own -/
def PlA (Hz : Hp) (w : V) : Prop := ∃ (p : Addr) (o : Obj) (vs : List V) (its : Array Value) (n : Nat), w = .ref p ∧ Hz p = some (.frz o (.tup vs)) ∧ o.cls = .type "tuple" ∧ o.dict = none ∧ o.data = .seq its n
theorem PlA.up {Hz Hz' : Hp} {w : V} (s : Same Hz Hz') (h : PlA Hz w) : PlA Hz' w := by
  obtain ⟨p, o, vs, its, n, h1, h2, h3⟩ := h
  exact ⟨p, o, vs, its, n, h1, s _ _ h2, h3⟩
/-- tuple(a list) -/
def rTupP (K : PySem.W.Frag) : List V → Hp → VK → Prop := fun xs H Q => ∃ ks m Hz v ds, xs = [v] ∧ CR K ks m Hz H ∧ Rp K Hz v (.list ds) ∧
  ∀ Hz' H' w, Ext ks Hz H ks Hz' H' → CR K ks m Hz' H' → Rp K Hz' w (.tuple ds) → PlA Hz' w → Q w H'
section
variable {X : Cx}
theorem cb_tupP : CallR X (.type "tuple") (rTupP X.K) := by
  intro pins s σ H vs us Q I r h
  obtain ⟨ks, m, Hz, v, ds, rfl, c, ra, q⟩ := h
  obtain ⟨p, ws, rfl, h1, h2⟩ := dpLst ra
  obtain ⟨u, rfl, rx⟩ := vals1 r
  cases rx
  obtain ⟨its, r', pl, hz⟩ := I.list (SqL.of (c.zh _ _ h1))
  have hlen := r'.length
  refine call_tuple_list pl.isList (fun h' kp => ?_) (by simp only [List.size_toArray] <;> omega)
  have I1 : Inv X pins σ H { s with heap := h' } := I.kept (t' := s.toks) kp
  have hn : H h'.objs.size = none := I1.hok.fresh (Nat.le_refl _)
  let ob : Obj := { cls := .type "tuple", data := .seq its.toArray }
  have I2 : Inv X pins σ (upd H h'.objs.size (.frz ob (.tup ws))) { s with heap := h'.push ob } :=
    I1.laid (t' := s.toks) (fun b o e => Heap.get?_push_of_some _ e) (Nat.le_refl _) (show ObjOk X.prog X.w _ _ _ (.frz ob (.tup ws)) from ⟨Heap.get?_push_size _ rfl, hz, its, r', IsTup.new _ _⟩)
  refine ⟨.ref h'.objs.size, _, I2, rfl, q (upd Hz h'.objs.size (.frz ob (.tup ws))) _ _ (Ext.new c hn _) (c.new hn _) (.tup (.inl (.inr ⟨ob, upd_same⟩)) (daUp (Ext.new c hn _).zs _ _ h2)) ⟨_, ob, ws, its.toArray, _, rfl, upd_same, rfl, rfl, rfl⟩⟩

/-! ### dict(pairs) -/
theorem prsOf_at {K : PySem.W.Frag} {Hz : Hp} : ∀ {ds : List D} {kvs : List (Int × D)} {vs : List V}, prsOf ds = some kvs → RpAll K Hz vs ds →
    ∃ (ps : List Addr) (us : List V), vs = ps.map V.ref ∧ RpAll K Hz us (kvs.map (·.2)) ∧ Paired (fun (p : Addr) (kv : Key × V) => SqT K Hz p [kV kv.1, kv.2]) ps ((kvs.map fun p => keyOf p.1).zip us)
  | [], kvs, vs, e, r => by
    cases e; cases r
    exact ⟨[], [], rfl, .nil, .nil⟩
  | .tuple [.int k, v] :: ds, kvs, vs, e, r => by
    simp only [prsOf, Option.map_eq_some_iff] at e
    obtain ⟨l, h1, rfl⟩ := e
    cases r with
    | cons a b =>
      obtain ⟨ps, us, rfl, h2, h3⟩ := prsOf_at h1 b
      obtain ⟨p, ws, rfl, hs, hd⟩ := dpTup a
      cases hd with
      | cons a1 b1 =>
        cases b1 with
        | cons a2 b2 =>
          cases b2
          rw [dpInt a1] at hs
          exact ⟨p :: ps, _ :: us, rfl, .cons a2 h2, .cons hs h3⟩
  | .tuple [] :: _, _, _, e, _ => by simp [prsOf] at e
  | .tuple [_] :: _, _, _, e, _ => by simp [prsOf] at e
  | .tuple (.none :: _ :: _) :: _, _, _, e, _ => by simp [prsOf] at e
  | .tuple (.bool _ :: _ :: _) :: _, _, _, e, _ => by simp [prsOf] at e
  | .tuple (.str _ :: _ :: _) :: _, _, _, e, _ => by simp [prsOf] at e
  | .tuple (.list _ :: _ :: _) :: _, _, _, e, _ => by simp [prsOf] at e
  | .tuple (.tuple _ :: _ :: _) :: _, _, _, e, _ => by simp [prsOf] at e
  | .tuple (.dict _ :: _ :: _) :: _, _, _, e, _ => by simp [prsOf] at e
  | .tuple (.int _ :: _ :: _ :: _) :: _, _, _, e, _ => by simp [prsOf] at e
  | .none :: _, _, _, e, _ => by simp [prsOf] at e
  | .bool _ :: _, _, _, e, _ => by simp [prsOf] at e
  | .int _ :: _, _, _, e, _ => by simp [prsOf] at e
  | .str _ :: _, _, _, e, _ => by simp [prsOf] at e
  | .list _ :: _, _, _, e, _ => by simp [prsOf] at e
  | .dict _ :: _, _, _, e, _ => by simp [prsOf] at e
theorem putNew {κ : Type} [DecidableEq κ] {kvs : List (κ × V)} {k : κ} {v : V} (h : k ∉ kvs.map (·.1)) : putK kvs k v = kvs ++ [(k, v)] := by
  unfold putK
  rw [if_neg]
  simp only [List.any_eq_true, decide_eq_true_eq, not_exists, not_and]
  exact fun x hx e => h (List.mem_map.mpr ⟨x, hx, e⟩)
theorem mergeNew : ∀ (more kvs : List (Key × V)), ((kvs ++ more).map (·.1)).Nodup → mergeK kvs more = kvs ++ more
  | [], kvs, _ => by simp [mergeK]
  | (k, v) :: more, kvs, h => by
    have hk : k ∉ kvs.map (·.1) := fun z => by
      rw [List.map_append, List.nodup_append] at h
      exact h.2.2 k z k (by simp) rfl
    have e := mergeNew more (kvs ++ [(k, v)]) (by simpa using h)
    unfold mergeK at e ⊢
    rw [List.foldl_cons]
    show List.foldl _ (putK kvs k v) more = _
    rw [putNew hk, e]
    simp
theorem pairedMono {α β : Type} {P P' : α → β → Prop} (f : ∀ a b, P a b → P' a b) : ∀ {xs : List α} {ys : List β}, Paired P xs ys → Paired P' xs ys
  | _, _, .nil => .nil
  | _, _, .cons a b => .cons (f _ _ a) (pairedMono f b)
theorem daKeys {K : PySem.W.Frag} {Hz : Hp} {us : List V} {kvs : List (Int × D)} (h : RpAll K Hz us (kvs.map (·.2))) : ((kvs.map fun p => keyOf p.1).zip us).map (·.1) = kvs.map fun p => keyOf p.1 := by
  have := daLen h
  rw [List.map_fst_zip]
  simp at this ⊢
  omega
theorem keysNodup {kvs : List (Int × D)} (h : (kvs.map (·.1)).Nodup) : (kvs.map fun p => keyOf p.1).Nodup := by
  have e : (kvs.map fun p => keyOf p.1) = (kvs.map (·.1)).map keyOf := by simp
  rw [e]
  exact List.Pairwise.map _ (fun a b hab z => hab (Sum.inl.inj z)) h
def rDctP (K : PySem.W.Frag) : List V → Hp → VK → Prop := fun xs H Q => ∃ ks m Hz v ds kvs, xs = [v] ∧ CR K ks m Hz H ∧ Rp K Hz v (.tuple ds) ∧ PlA Hz v ∧ prsOf ds = some kvs ∧ (kvs.map (·.1)).Nodup ∧
  ∀ Hz' H' w, Ext ks Hz H ks Hz' H' → CR K ks m Hz' H' → VR K ks Hz' w (.t kvs) → Q w H'
theorem cb_dctP (hcalm : X.calm = true) : CallR X (.type "dict") (rDctP X.K) := by
  intro pins s σ H vs us Q I r h
  obtain ⟨ks, m, Hz, v, ds, kvs, rfl, c, ra, pl, hp, hnd, q⟩ := h
  obtain ⟨p, ws, rfl, h1, h2⟩ := dpTup ra
  obtain ⟨u, rfl, rx⟩ := vals1 r
  cases rx
  obtain ⟨p', o, vs', its', n, e1, e2, e3, e4, e5⟩ := pl
  cases e1
  obtain ⟨ps, xs, rfl, hx, hpr⟩ := prsOf_at hp h2
  have hpr' : Paired (fun (p : Addr) (kv : Key × V) => SqT X.K H p [kV kv.1, kv.2]) ps ((kvs.map fun p => keyOf p.1).zip xs) := pairedMono (fun a b z => c.sqT z) hpr
  obtain ⟨its, rv, ⟨o2, g2, g3, n2, g4⟩, hz⟩ := I.tuple (c.sqT h1)
  have ei := refs_at rv
  subst ei
  obtain ⟨ho, _⟩ := I.hok _ _ (c.zh _ _ e2)
  have hps : PySem.PlainSeq "tuple" s.heap p (ps.map Value.ref).toArray := by
    refine ⟨o2, n2, g2, g3, ?_, g4⟩
    rw [ho] at g2
    cases g2
    exact e4
  obtain ⟨prs, rel, hl, hat⟩ := pairs_of I hpr'
  have hkey : ∀ (j : Nat) (q : Key × Value), prs[j]? = some q → ∃ (b : Addr) (u : Value), ps[j]? = some b ∧ IsTup s.heap b #[u, q.2] ∧ keyIs q.1 u = true := hat
  rw [List.length_map] at hz
  -- the pairs, told as values
  have hex : ∀ l : List (Key × Value), (∀ (j : Nat) (q : Key × Value), l[j]? = some q → ∃ (b : Addr) (u : Value), ps[j]? = some b ∧ IsTup s.heap b #[u, q.2] ∧ keyIs q.1 u = true) → True := fun _ _ => trivial
  let ky : Nat → Value := fun j => match ps[j]? with
    | some b => (match s.heap.get? b with
      | some ob => (match ob.data with
        | .seq a _ => a[0]?.getD .none
        | _ => .none)
      | none => .none)
    | none => .none
  let pv : List (Value × Value) := prs.mapIdx fun j q => (ky j, q.2)
  have hky : ∀ (j : Nat) (q : Key × Value), prs[j]? = some q → ∃ b, ps[j]? = some b ∧ IsTup s.heap b #[ky j, q.2] ∧ keyIs q.1 (ky j) = true := fun j q e => by
    obtain ⟨b, u, f1, ⟨ob, f2, f3, n3, f4⟩, f5⟩ := hkey j q e
    have : ky j = u := by
      show (match ps[j]? with | some b => _ | none => _) = u
      rw [f1]
      simp only [f2, f4]
      rfl
    rw [this]
    exact ⟨b, f1, ⟨ob, f2, f3, n3, f4⟩, f5⟩
  have hpv : ∀ j k v, pv[j]? = some (k, v) → ∃ q, prs[j]? = some q ∧ k = ky j ∧ v = q.2 := fun j k v e => by
    simp only [pv, List.getElem?_mapIdx, Option.map_eq_some_iff] at e
    obtain ⟨q, h1, h2⟩ := e
    cases h2
    exact ⟨q, h1, rfl, rfl⟩
  have hpvl : pv.length = ps.length := by simp [pv, hl]
  let Ts : Nat → Addr := fun j => (ps[j]?).getD 0
  have hpi : PySem.PairItems s.heap (ps.map Value.ref).toArray Ts pv := by
    refine ⟨by simp [hpvl], fun j k v e => ?_⟩
    obtain ⟨q, f1, rfl, rfl⟩ := hpv j k v e
    obtain ⟨b, f2, f3, _⟩ := hky j q f1
    have : Ts j = b := by simp [Ts, f2]
    rw [this]
    exact ⟨by simp [f2], .inl f3⟩
  have hhave : PySem.PairsHave (mixKind X.prog X.w) pv.length (PySem.PairRel pv) prs := by
    refine ⟨by simp [pv], fun i key v e => ?_⟩
    obtain ⟨q, f1, rfl, rfl⟩ := hpv i key v e
    obtain ⟨b, f2, f3, f4⟩ := hky i q f1
    exact ⟨q.1, f1, f4⟩
  refine PySem.call_dict_pairs (knd := mixKind X.prog X.w) (kvs := prs) (PySem.PairArg.tuple p (ps.map Value.ref).toArray Ts pv) (I.ok.hd hcalm) ⟨hps, hpi⟩ hhave (by rw [hpvl]; exact hz) fun h' tk hd' k => ?_
  have hm : (s.heap.objs.size == sysModules) = false := beq_eq_false_iff_ne.mpr (Nat.ne_of_gt I.big)
  have hn : H s.heap.objs.size = none := I.hok.fresh (Nat.le_refl _)
  have em : mergeK [] ((kvs.map fun p => keyOf p.1).zip xs) = (kvs.map fun p => keyOf p.1).zip xs := by
    rw [mergeNew _ _ (by rw [List.nil_append, daKeys hx]; exact keysNodup hnd), List.nil_append]
  have rel' := KV.merge rel (.nil : KV ([] : List (Key × V)) [])
  rw [em] at rel'
  have hlen : ((kvs.map fun p => keyOf p.1).zip xs).length ≤ sizeLine := by
    have a1 := daLen hx
    have a2 : ps.length = ((kvs.map fun p => keyOf p.1).zip xs).length := by rw [← hl]; exact rel.length.symm
    omega
  have J := I.laid (t' := tk) (a := s.heap.objs.size) (o := .dK ((kvs.map fun p => keyOf p.1).zip xs)) (h' := h') (fun b o e => k b o (by simp) e) (Nat.le_refl _) (show ObjOk X.prog X.w _ _ _ (.dK ((kvs.map fun p => keyOf p.1).zip xs)) from ⟨hlen, hm, merged [] prs, rel', hd'⟩)
  exact ⟨.ref s.heap.objs.size, _, J, rfl, q _ _ _ (Ext.new c hn _) (c.new hn _) (.t upd_same (daUp (Ext.new c hn _).zs _ _ hx) hnd)⟩
end
end Mp

set_option Elab.async false
set_option linter.all false
set_option maxRecDepth 100000
set_option maxHeartbeats 1000000
namespace Mp
open PySem PySem.Spec PyProof.Rows L2
def bnames : List Str := ["len", "tuple", "list", "sorted", "all", "any", "int", "abs", "sum", "max", "min", "range", "isinstance", "zip", "enumerate", "set", "bool", "str", "dict", "ValueError", "super", "LookupError"]
def tCallKS (n k : Nat) (sp : Sp) (gV : List V → List V → List V) (E : L2.St → XK) (t tk : TA) : TE := fun σ H Q => t σ H fun vs H1 => tk σ H1 fun zs H2 => vs.length = n ∧ zs.length = k ∧ sp (gV vs zs) H2 Q (E σ)
def spF (K : PySem.W.Frag) (cl : Calls) (i np : Nat) : Sp := fun vs H Q E => ∃ ks m Hz xs, CR K ks m Hz H ∧ VRs K ks Hz vs xs ∧ xs.length = np ∧ Aft K (RV K) (fun c d _ H' => E c d H') ks Hz H [] Q (cl i xs m)
/-- of a call of a list or a tuple: a tuple comes of which it is known that it has no dict of its own -/
def RVp (K : PySem.W.Frag) : List Addr → Hp → Hp → V → MV → Prop := fun ks Hz _ v x => VR K ks Hz v x ∧ PlA Hz v
def spP (K : PySem.W.Frag) (cl : Calls) (i : Nat) : Sp := fun vs H Q E => ∃ ks m Hz d, CR K ks m Hz H ∧ VRs K ks Hz vs [.d d] ∧ isSeq d = true ∧ Aft K (RVp K) (fun c d _ H' => E c d H') ks Hz H [] Q (cl i [.d d] m)
/-- how keywords bind -/
def KwB (fd : FuncData) (ps : List Str) : Prop := ∀ (s : Shared) (us ws : List Value) (ks : List Str) (rs : List Value), ks.length = ws.length → (∀ k ∈ ks, k ∈ ps) → ks.Nodup → (∀ k ∈ ks, List.lookup k (ps.zip us) = none) → us.length + ks.length = ps.length → rs.length = ps.length →
  (∀ (i : Nat) (p : Str), ps[i]? = some p → ((ps.zip us) ++ ks.zip ws).lookup p = rs[i]?) → BindsTo s fd ⟨us, ks.zip ws⟩ (ps.zip rs)
structure OkX (T : Tab) (cl : Calls) (n : Nat) (W : WX) (X : Cx) : Prop where
  calm : X.calm = true
  nd : X.N.Nodup
  room : Room n X.A
  tk : Takes X W
  free : ∀ x ∈ bnames, X.mg x = none
  kon : ∀ x i, T.ks.lookup x = some i → ∃ t, X.mg x = some (.int i t)
  exk : ∀ x ∈ T.xs, ExK T.cs X.K X.mg x
  exf : ∀ p ∈ T.fx, ExF T.cs X.prog X.K X.mg p.1 p.2
  zon : ∀ x z, T.zs.lookup x = some z → ∃ t, X.mg x = some (.str z t)
  don : ∀ x ps, T.ds.lookup x = some ps → ∃ a, X.mg x = some (.ref a) ∧ ∀ z v, ps.lookup z = some v → KDct X.K X.w a z (.str v)
  tpd : ∀ i ∈ T.tp, ∀ d, T.fs[i]? = some d → ∃ f fd, X.mg d.name = some (.ref f) ∧ PySem.W.keepIn X.K (.ref f) = true ∧ Binds X.K fd d.ps [] ∧ FnOk X.prog X.w X.K X.mg X.base (L2.CX X.prog X.w) n f fd d.ps (spP X.K cl i)
  fns : ∀ (i : Nat) (d : Def), T.fs[i]? = some d → ∃ f fd, X.mg d.name = some (.ref f) ∧ PySem.W.keepIn X.K (.ref f) = true ∧ Binds X.K fd d.ps [] ∧ d.ps.Nodup ∧ KwB fd d.ps ∧ FnOk X.prog X.w X.K X.mg X.base (L2.CX X.prog X.w) n f fd d.ps (spF X.K cl i d.ps.length)
theorem OkX.blk {T : Tab} {cl : Calls} {n : Nat} {W : WX} {X : Cx} (o : OkX T cl n W X) (s : Shared) (H : Hp) (scope : Scope) (ce : Env) (fp : List Addr) : OkX T cl n (fun _ _ _ _ => False) (X.blk s H scope ce fp) :=
  ⟨o.calm, o.nd, o.room, takes0, o.free, o.kon, o.exk, o.exf, o.zon, o.don, o.tpd, o.fns⟩

/-! ### side conditions -/
theorem ban {a b : Bool} (h : (a && b) = true) : a = true ∧ b = true := Bool.and_eq_true_iff.mp h
theorem vis_of {sc : Scope} {x : Str} (h : visB sc x = true) : Vis sc x := by
  unfold visB at h
  simp only [Bool.or_eq_true, beq_iff_eq] at h
  rcases h with (h | h) | h
  · exact .inl h
  · exact .inr (.inl h)
  · exact .inr (.inr h)
theorem loc_of {sc : Scope} {x : Str} (h : locB sc x = true) : Loc sc x := by
  unfold locB at h
  simp only [Bool.or_eq_true, beq_iff_eq] at h
  exact h
theorem okN {x : Str} (h : okName x = true) : (x == ("__debug__" : Str)) = false ∧ (x == ("__classdict__" : Str)) = false ∧ x ≠ "__name__" := by
  unfold okName at h
  simp only [Bool.and_eq_true, Bool.not_eq_true'] at h
  exact ⟨h.1.1, h.1.2, fun e => by have := h.2; rw [e] at this; simp at this⟩
theorem starOne {e : Expr} (h : noStar e = true) (es : List Expr) (env : Env) : starEach (e :: es) env = (false, eval e env) :: starEach es env := by
  cases e <;> first | rfl | (simp [noStar] at h)
theorem starNone : ∀ {es : List Expr} (pos : Pos) (env : Env), es.all noStar = true → (backTo pos (starEach es env)).any (·.1) = false
  | [], _, _, _ => rfl
  | e :: es, pos, env, h => by
    have h' := h
    simp only [List.all_cons, Bool.and_eq_true] at h'
    rw [starOne h'.1]
    have := starNone pos env h'.2
    show (false || (backTo pos (starEach es env)).any (·.1)) = false
    rw [this]; rfl
theorem notSetF {e : Expr} (h : notSet e = true) (env : Env) (x : Value) : foldedSetIterable e env x = pure x := by
  cases e <;> first | rfl | (simp [notSet] at h)
theorem plainIx {e : Expr} (h : notSlice e = true) : PlainIx e := by
  cases e <;> first | (intro _ _; rfl) | (simp [notSlice] at h)
theorem noMark {e : Expr} (h : notSet e = true) (op : CmpOp) : behindInMarks op e = false := by
  cases e <;> first | rfl | (simp [notSet] at h)
theorem gl_of {X : Cx} {x : Str} (h : glB X.env.scope x = true) : Gl X x := by
  unfold glB at h
  exact eq_of_beq h

/-! ### the small pieces -/
section
variable {X : Cx} {W : WX}
theorem rdVar {K : PySem.W.Frag} {i : Nat} {σ : L2.St} {H : Hp} {Q : VK} (h : tE K W (fun r m => (match r[i]? with
    | some (.v x) => .ok x m
    | _ => .bad)) σ H Q) : tVar i σ H Q := by
  obtain ⟨ks, m, Hz, r, c, e, a⟩ := h
  cases hr : r[i]? with
  | none => simp only [hr] at a; exact a.elim
  | some s =>
    cases s with
    | v x =>
      simp only [hr] at a
      have z := e.at_ i _ hr
      generalize ho : σ[i]? = o at z
      cases z with
      | v rv => exact ⟨_, ho, a ks Hz H _ (Ext.refl _ _ _) c rv⟩
    | _ => simp only [hr] at a; exact a.elim
theorem rdC {K : PySem.W.Frag} {v : V} {d : D} {σ : L2.St} {H : Hp} {Q : VK} (hr : ∀ Hz, Rp K Hz v d) (h : tE K W (fun r m => .ok (.d d) m) σ H Q) : tC v σ H Q := by
  obtain ⟨ks, m, Hz, r, c, e, a⟩ := h
  exact a ks Hz H v (Ext.refl _ _ _) c (.d (hr Hz))
theorem rdL {K : PySem.W.Frag} {W : WX} {ev : Ev (List D)} {σ : L2.St} {H : Hp} {Q : VK} (h : tE K W (fun r m => (ev r m).bind fun xs m1 => if xs.length ≤ sizeLine then .ok (.d (.tuple xs)) m1 else .bad) σ H Q) : tTup (tL K W ev) σ H Q := by
  obtain ⟨ks0, m0, Hz0, r, c0, e0, a0⟩ := h
  refine ⟨ks0, m0, Hz0, r, c0, e0, Aft.bind a0 fun xs m ks Hz H' vs _ x0 c rv a => ?_⟩
  have e := e0.up x0
  split at a
  · rename_i hl
    refine ⟨by rw [daLen rv]; exact hl, fun p n => ?_⟩
    exact a ks _ _ _ (Ext.new c n _) (c.new n _) (.d (rpTup c n rv))
  · exact a.elim
theorem rdLst {K : PySem.W.Frag} {W : WX} {ev : Ev (List D)} {σ : L2.St} {H : Hp} {Q : VK} (h : tE K W (fun r m => (ev r m).bind fun xs m1 => if xs.length ≤ sizeLine then .ok (.d (.list xs)) m1 else .bad) σ H Q) : tLst (tL K W ev) σ H Q := by
  obtain ⟨ks0, m0, Hz0, r, c0, e0, a0⟩ := h
  refine ⟨ks0, m0, Hz0, r, c0, e0, Aft.bind a0 fun xs m ks Hz H' vs _ x0 c rv a => ?_⟩
  have e := e0.up x0
  split at a
  · rename_i hl
    refine ⟨by rw [daLen rv]; exact hl, fun p n => ?_⟩
    exact a ks _ _ _ (Ext.new c n _) (c.new n _) (.d (rpLst c n rv))
  · exact a.elim
theorem rdCell {K : PySem.W.Frag} {W : WX} {ev : Ev (List D)} {σ : L2.St} {H : Hp} {Q : VK} (h : tE K W (fun r m => (ev r m).bind fun xs m1 => if xs.length ≤ sizeLine then .ok (.c m1.length) (m1 ++ [xs]) else .bad) σ H Q) : tLst (tL K W ev) σ H Q := by
  obtain ⟨ks0, m0, Hz0, r, c0, e0, a0⟩ := h
  refine ⟨ks0, m0, Hz0, r, c0, e0, Aft.bind a0 fun xs m ks Hz H' vs _ x0 c rv a => ?_⟩
  have e := e0.up x0
  split at a
  · rename_i hl
    refine ⟨by rw [daLen rv]; exact hl, fun p n => ?_⟩
    refine a (ks ++ [p]) Hz _ _ (Ext.cell n _) (c.cell n rv) (.c ?_)
    rw [← c.len, List.getElem?_append_right (Nat.le_refl _)]
    simp
  · exact a.elim
/-- an argument list -/
theorem rdNil {K : PySem.W.Frag} {σ : L2.St} {H : Hp} {Q : List V → Hp → Prop} (h : tL K W (fun _ m => .ok [] m) σ H Q) : tNil σ H Q := by
  obtain ⟨ks, m, Hz, r, c, e, a⟩ := h
  exact a ks Hz H [] (Ext.refl _ _ _) c .nil
theorem rdCons {K : PySem.W.Frag} {ea : Ev MV} {eb : Ev (List D)} {σ : L2.St} {H : Hp} {Q : List V → Hp → Prop} (h : tL K W (fun r m => (ea r m).bind fun x m1 => (match x with
    | .d x => (eb r m1).bind fun xs m2 => .ok (x :: xs) m2
    | _ => .bad)) σ H Q) : tCons (tE K W ea) (tL K W eb) σ H Q := by
  obtain ⟨ks0, m0, Hz0, r, c0, e0, a0⟩ := h
  refine ⟨ks0, m0, Hz0, r, c0, e0, Aft.bind a0 fun x m ks Hz H1 v _ x0 c rv a => ?_⟩
  have e := e0.up x0
  cases x with
  | d x =>
    refine ⟨ks, m, Hz, r, c, e, Aft.bind a fun xs m2 ks2 Hz2 H2 vs _ x2 c2 rvs a2 => ?_⟩
    exact a2 ks2 Hz2 H2 _ (Ext.refl _ _ _) c2 (.cons (rv.up x2).rp rvs)
  | _ => exact a.elim
theorem rdNilA {K : PySem.W.Frag} {σ : L2.St} {H : Hp} {Q : List V → Hp → Prop} (h : tAs K W (fun _ m => .ok [] m) σ H Q) : tNil σ H Q := by
  obtain ⟨ks, m, Hz, r, c, e, a⟩ := h
  exact a ks Hz H [] (Ext.refl _ _ _) c .nil
theorem rdConsA {K : PySem.W.Frag} {ea : Ev MV} {eb : Ev (List MV)} {σ : L2.St} {H : Hp} {Q : List V → Hp → Prop} (h : tAs K W (fun r m => (ea r m).bind fun x m1 => (eb r m1).bind fun xs m2 => .ok (x :: xs) m2) σ H Q) :
    tCons (tE K W ea) (tAs K W eb) σ H Q := by
  obtain ⟨ks0, m0, Hz0, r, c0, e0, a0⟩ := h
  refine ⟨ks0, m0, Hz0, r, c0, e0, Aft.bind a0 fun x m ks Hz H1 v _ x0 c rv a => ?_⟩
  have e := e0.up x0
  refine ⟨ks, m, Hz, r, c, e, Aft.bind a fun xs m2 ks2 Hz2 H2 vs _ x2 c2 rvs a2 => ?_⟩
  exact a2 ks2 Hz2 H2 _ (Ext.refl _ _ _) c2 (.cons (rv.up x2) rvs)
theorem rdStar {K : PySem.W.Frag} {ea : Ev MV} {eb : Ev (List D)} {σ : L2.St} {H : Hp} {Q : List V → Hp → Prop} (h : tL K W (fun r m => (ea r m).bind fun x m1 => (match x with
    | .d (.list ys) => (eb r m1).bind fun xs m2 => .ok (ys ++ xs) m2
    | .d (.tuple ys) => (eb r m1).bind fun xs m2 => .ok (ys ++ xs) m2
    | _ => .bad)) σ H Q) : StX.tStar K (tE K W ea) (tL K W eb) σ H Q := by
  obtain ⟨ks0, m0, Hz0, r, c0, e0, a0⟩ := h
  refine ⟨ks0, m0, Hz0, r, c0, e0, Aft.bind a0 fun x m ks Hz H1 v _ x0 c rv a => ?_⟩
  have e := e0.up x0
  cases x with
  | d x =>
    cases x with
    | list ys =>
      obtain ⟨p, vs, rfl, hs, hd⟩ := dpLst rv.rp
      refine ⟨p, vs, rfl, .inr (SqL.of (c.zh _ _ hs)), ks, m, Hz, r, c, e, Aft.bind a fun xs m2 ks2 Hz2 H2 ws _ x2 c2 rvs a2 => ?_⟩
      exact a2 ks2 Hz2 H2 _ (Ext.refl _ _ _) c2 (daApp (daUp x2.zs _ _ hd) rvs)
    | tuple ys =>
      obtain ⟨p, vs, rfl, hs, hd⟩ := dpTup rv.rp
      refine ⟨p, vs, rfl, .inl (c.sqT hs), ks, m, Hz, r, c, e, Aft.bind a fun xs m2 ks2 Hz2 H2 ws _ x2 c2 rvs a2 => ?_⟩
      exact a2 ks2 Hz2 H2 _ (Ext.refl _ _ _) c2 (daApp (daUp x2.zs _ _ hd) rvs)
    | _ => exact a.elim
  | _ => exact a.elim
/-- calls -/
theorem rdCall {K : PySem.W.Frag} {cl : Calls} {f np : Nat} {ea : Ev (List MV)} {σ : L2.St} {H : Hp} {Q : VK} (hl : ∀ r m xs m1, ea r m = .ok xs m1 → xs.length = np) (h : tE K W (fun r m => (ea r m).bind fun xs m1 => cl f xs m1) σ H Q) :
    tCallS (spF K cl f np) (WE W) (tAs K W ea) σ H Q := by
  obtain ⟨ks, m, Hz, r, c, e, a⟩ := h
  refine ⟨ks, m, Hz, r, c, e, Aft.bind a fun xs m2 ks2 Hz2 H2 vs he x2 c2 rvs a2 => ?_⟩
  refine ⟨ks2, m2, Hz2, xs, c2, rvs, hl _ _ _ _ he, ?_⟩
  generalize cl f xs m2 = z at a2
  cases z with
  | ok x m3 => exact a2
  | ex q x m3 => exact a2
  | bad => exact a2
theorem rdDct {K : PySem.W.Frag} {cl : Calls} {f : Nat} {ea : Ev MV} {σ : L2.St} {H : Hp} {Q : VK} (h : tE K W (fun r m => (ea r m).bind fun x m1 => (match x with
    | .d x => if isSeq x = true then (cl f [.d x] m1).bind fun y m2 => (match y with
      | .d (.tuple ds) => (match prsOf ds with
        | some kvs => if (kvs.map (·.1)).Nodup then .ok (.t kvs) m2 else .bad
        | none => .bad)
      | _ => .bad) else .bad
    | _ => .bad)) σ H Q) : tCB (rDctP K) (tCons (tCallS (spP K cl f) (WE W) (tCons (tE K W ea) tNil)) tNil) σ H Q := by
  obtain ⟨ks, m, Hz, r, c, e, a⟩ := h
  refine ⟨ks, m, Hz, r, c, e, Aft.bind a fun x m1 ks1 Hz1 H1 v _ x1 c1 rv a1 => ?_⟩
  cases x with
  | d x =>
    simp only at a1
    by_cases hx : isSeq x = true
    · rw [if_pos hx] at a1
      refine ⟨ks1, m1, Hz1, x, c1, .cons rv .nil, hx, ?_⟩
      generalize cl f [.d x] m1 = z at a1
      cases z with
      | ex q y m2 => exact a1
      | bad => exact a1
      | ok y m2 =>
        simp only [Res.bind] at a1
        intro ks2 Hz2 H2 w x2 c2 rw2
        obtain ⟨rw3, pl⟩ := rw2
        cases y with
        | d y =>
          cases y with
          | tuple ds =>
            simp only at a1
            cases hp : prsOf ds with
            | none => rw [hp] at a1; exact a1.elim
            | some kvs =>
              rw [hp] at a1
              simp only at a1
              by_cases hn : (kvs.map (·.1)).Nodup
              · rw [if_pos hn] at a1
                exact ⟨ks2, m2, Hz2, w, ds, kvs, rfl, c2, rw3.rp, pl, hp, hn, fun Hz3 H3 u x3 c3 ru => a1 ks2 Hz3 H3 u (x2.trans x3) c3 ru⟩
              · rw [if_neg hn] at a1; exact a1.elim
          | _ => exact a1.elim
        | _ => exact a1.elim
    · rw [if_neg hx] at a1; exact a1.elim
  | _ => exact a1.elim
theorem vrsLen0 {K : PySem.W.Frag} {ks : List Addr} {Hz : Hp} : ∀ {vs : List V} {xs : List MV}, VRs K ks Hz vs xs → vs.length = xs.length
  | _, _, .nil => rfl
  | _, _, .cons a b => by simp [vrsLen0 b]
theorem valsPick {vs : List V} {us : List Value} (h : Vals vs us) : ∀ (ns : List Nat), Vals (ns.filterMap fun i => vs[i]?) (ns.filterMap fun i => us[i]?) := by
  have at_ : ∀ {vs : List V} {us : List Value}, Vals vs us → ∀ i : Nat, (vs[i]? = none ∧ us[i]? = none) ∨ ∃ (v : V) (u : Value), vs[i]? = some v ∧ us[i]? = some u ∧ RelV v u := by
    intro vs us h
    induction h with
    | nil => exact fun i => .inl ⟨rfl, rfl⟩
    | cons a b ih => intro i; cases i with
      | zero => exact .inr ⟨_, _, rfl, rfl, a⟩
      | succ i => simpa using ih i
  intro ns
  induction ns with
  | nil => exact .nil
  | cons i ns ih =>
    rcases at_ h i with ⟨e1, e2⟩ | ⟨v, x, e1, e2, r⟩
    · rw [List.filterMap_cons_none e1, List.filterMap_cons_none e2]; exact ih
    · rw [List.filterMap_cons_some e1, List.filterMap_cons_some e2]; exact .cons r ih
theorem vrsApp {K : PySem.W.Frag} {ks : List Addr} {Hz : Hp} : ∀ {vs ws : List V} {xs ys : List MV}, VRs K ks Hz vs xs → VRs K ks Hz ws ys → VRs K ks Hz (vs ++ ws) (xs ++ ys)
  | _, _, _, _, .nil, h => h
  | _, _, _, _, .cons a b, h => .cons a (vrsApp b h)
theorem vrsPick {K : PySem.W.Frag} {ks : List Addr} {Hz : Hp} {vs : List V} {xs : List MV} (h : VRs K ks Hz vs xs) : ∀ (ns : List Nat), VRs K ks Hz (ns.filterMap fun i => vs[i]?) (ns.filterMap fun i => xs[i]?) := by
  have at_ : ∀ {vs : List V} {xs : List MV}, VRs K ks Hz vs xs → ∀ i : Nat, (vs[i]? = none ∧ xs[i]? = none) ∨ ∃ (v : V) (x : MV), vs[i]? = some v ∧ xs[i]? = some x ∧ VR K ks Hz v x := by
    intro vs xs h
    induction h with
    | nil => exact fun i => .inl ⟨rfl, rfl⟩
    | cons a b ih => intro i; cases i with
      | zero => exact .inr ⟨_, _, rfl, rfl, a⟩
      | succ i => simpa using ih i
  intro ns
  induction ns with
  | nil => exact .nil
  | cons i ns ih =>
    rcases at_ h i with ⟨e1, e2⟩ | ⟨v, x, e1, e2, r⟩
    · rw [List.filterMap_cons_none e1, List.filterMap_cons_none e2]; exact ih
    · rw [List.filterMap_cons_some e1, List.filterMap_cons_some e2]; exact .cons r ih
theorem rdCallK {K : PySem.W.Frag} {cl : Calls} {f np a b : Nat} {ns : List Nat} {ea eb : Ev (List MV)} {σ : L2.St} {H : Hp} {Q : VK} (hl : ∀ r m xs m1 ys m2, ea r m = .ok xs m1 → eb r m1 = .ok ys m2 → xs.length = a ∧ ys.length = b ∧ (ns.filterMap fun i => (xs ++ ys)[i]?).length = np) (h : tE K W (fun r m => (ea r m).bind fun xs m1 => (eb r m1).bind fun ys m2 => cl f (ns.filterMap fun i => (xs ++ ys)[i]?) m2) σ H Q) :
    tCallKS a b (spF K cl f np) (fun (vs zs : List V) => ns.filterMap fun (i : Nat) => (vs ++ zs)[i]?) (WE W) (tAs K W ea) (tAs K W eb) σ H Q := by
  obtain ⟨ks, m, Hz, r, c, e, a⟩ := h
  refine ⟨ks, m, Hz, r, c, e, Aft.bind a fun xs m1 ks1 Hz1 H1 vs he x1 c1 rvs a1 => ?_⟩
  refine ⟨ks1, m1, Hz1, r, c1, e.up x1, Aft.bind a1 fun ys m2 ks2 Hz2 H2 zs hb x2 c2 rzs a2 => ?_⟩
  obtain ⟨l1, l2, l3⟩ := hl _ _ _ _ _ _ he hb
  refine ⟨by rw [vrsLen0 rvs, l1], by rw [vrsLen0 rzs, l2], ks2, m2, Hz2, _, c2, vrsPick (vrsApp (rvs.up x2) rzs) ns, l3, ?_⟩
  generalize cl f _ m2 = z at a2
  cases z with
  | ok x m3 => exact a2
  | ex q x m3 => exact a2
  | bad => exact a2
theorem rdKz {K : PySem.W.Frag} {i : Str} {σ : L2.St} {H : Hp} {Q : VK} (h : tE K W (fun _ m => .ok (.d (.str i)) m) σ H Q) : tC (.str i) σ H Q := rdC (fun _ => .str i) h
theorem rdKdx {K : PySem.W.Frag} {w : World} {ea : Ev MV} {a : Addr} {ps : List (Str × Str)} {σ : L2.St} {H : Hp} {Q : VK} (ha : ∀ z v, ps.lookup z = some v → KDct K w a z (.str v))
    (h : tE K W (fun r m => (ea r m).bind fun y m1 => (match y with
    | .d (.str z) => optD ((ps.lookup z).map .str) m1
    | _ => .bad)) σ H Q) : tOp (rIxD K w) (tC (.ref a)) (tE K W ea) σ H Q := by
  obtain ⟨ks, m, Hz, r, c, e, q⟩ := h
  refine ⟨ks, m, Hz, r, c, e, Aft.bind q fun y m1 ks1 Hz1 H1 v _ x1 c1 rv a1 => ?_⟩
  cases y with
  | d y =>
    cases y with
    | str z =>
      simp only at a1
      cases hl : ps.lookup z with
      | none => rw [hl] at a1; exact a1.elim
      | some u =>
        rw [hl] at a1
        exact ⟨a, z, .str u, rfl, dpStr rv.rp, ha z u hl, a1 ks1 Hz1 H1 _ (Ext.refl _ _ _) c1 (.d (.str u))⟩
    | _ => exact a1.elim
  | _ => exact a1.elim
theorem rdKg {K : PySem.W.Frag} {i : Int} {σ : L2.St} {H : Hp} {Q : VK} (h : tE K W (fun _ m => .ok (.d (.int i)) m) σ H Q) : tC (.int i) σ H Q := rdC (fun _ => .int i) h
end
end Mp

set_option Elab.async false
set_option linter.all false
set_option maxRecDepth 100000
set_option maxHeartbeats 1000000
namespace Mp
open PySem PySem.Spec PyProof.Rows L2
def rB1 (K : PySem.W.Frag) (f : D → Option D) : List V → Hp → VK → Prop := fun xs H Q => ∃ ks m Hz a d v, xs = [v] ∧ CR K ks m Hz H ∧ Rp K Hz v a ∧ f a = some d ∧
  ∀ Hz' H' v', Ext ks Hz H ks Hz' H' → CR K ks m Hz' H' → Rp K Hz' v' d → Q v' H'
theorem b1_read {K : PySem.W.Frag} {W : WX} {f : D → Option D} {ea : Ev MV} {σ : L2.St} {H : Hp} {Q : VK}
    (h : tE K W (fun r m => (ea r m).bind fun x m1 => (match x with
      | .d x => optD (f x) m1
      | _ => .bad)) σ H Q) : tCB (rB1 K f) (tCons (tE K W ea) tNil) σ H Q := by
  obtain ⟨ks, m, Hz, r, c, e, a⟩ := h
  refine ⟨ks, m, Hz, r, c, e, Aft.bind a fun x m1 ks1 Hz1 H1 v _ x1 c1 rv a1 => ?_⟩
  cases x with
  | d x =>
    cases hf : f x with
    | none => simp only [hf, optD] at a1; exact a1.elim
    | some d =>
      simp only [hf, optD] at a1
      exact ⟨ks1, m1, Hz1, x, d, v, rfl, c1, rv.rp, hf, fun Hz3 H3 w x3 c3 rd => a1 ks1 Hz3 H3 w x3 c3 (.d rd)⟩
  | _ => exact a1.elim
section
variable {X : Cx}
theorem bools_of {K : PySem.W.Frag} {Hz : Hp} : ∀ {xs : List D} {bs : List Bool} {vs : List V}, boolsOf xs = some bs → RpAll K Hz vs xs → vs = bs.map V.bl
  | [], bs, vs, e, r => by cases e; cases r; rfl
  | d :: ds, bs, vs, e, r => by
    cases d with
    | bool b =>
      simp only [boolsOf, Option.map_eq_some_iff] at e
      obtain ⟨l, h1, rfl⟩ := e
      cases r with
      | cons r1 r2 => rw [dpBool r1, bools_of h1 r2]; rfl
    | _ => simp [boolsOf] at e
theorem ints_of {K : PySem.W.Frag} {Hz : Hp} : ∀ {xs : List D} {bs : List Int} {vs : List V}, intsOf xs = some bs → RpAll K Hz vs xs → vs = bs.map V.int
  | [], bs, vs, e, r => by cases e; cases r; rfl
  | d :: ds, bs, vs, e, r => by
    cases d with
    | int b =>
      simp only [intsOf, Option.map_eq_some_iff] at e
      obtain ⟨l, h1, rfl⟩ := e
      cases r with
      | cons r1 r2 => rw [dpInt r1, ints_of h1 r2]; rfl
    | _ => simp [intsOf] at e
theorem maxI_fold : ∀ (r : List Int) (x : Int), (r.foldl (fun a b => if a < b then b else a) x ∈ x :: r) ∧ ∀ y ∈ x :: r, y ≤ r.foldl (fun a b => if a < b then b else a) x
  | [], x => ⟨by simp, by simp⟩
  | z :: r, x => by
    obtain ⟨h1, h2⟩ := maxI_fold r (if x < z then z else x)
    simp only [List.foldl_cons]
    constructor
    · rcases List.mem_cons.mp h1 with e | e
      · rw [e]; split <;> simp
      · exact List.mem_cons_of_mem _ (List.mem_cons_of_mem _ e)
    · intro y hy
      have h3 := h2 (if x < z then z else x) List.mem_cons_self
      have h4 : x ≤ (if x < z then z else x) ∧ z ≤ (if x < z then z else x) := by split <;> omega
      rcases List.mem_cons.mp hy with e | e
      · subst e; exact Int.le_trans h4.1 h3
      · rcases List.mem_cons.mp e with e | e
        · subst e; exact Int.le_trans h4.2 h3
        · exact h2 y (List.mem_cons_of_mem _ e)
theorem minI_fold : ∀ (r : List Int) (x : Int), (r.foldl (fun a b => if b < a then b else a) x ∈ x :: r) ∧ ∀ y ∈ x :: r, r.foldl (fun a b => if b < a then b else a) x ≤ y
  | [], x => ⟨by simp, by simp⟩
  | z :: r, x => by
    obtain ⟨h1, h2⟩ := minI_fold r (if z < x then z else x)
    simp only [List.foldl_cons]
    constructor
    · rcases List.mem_cons.mp h1 with e | e
      · rw [e]; split <;> simp
      · exact List.mem_cons_of_mem _ (List.mem_cons_of_mem _ e)
    · intro y hy
      have h3 := h2 (if z < x then z else x) List.mem_cons_self
      have h4 : (if z < x then z else x) ≤ x ∧ (if z < x then z else x) ≤ z := by split <;> omega
      rcases List.mem_cons.mp hy with e | e
      · subst e; exact Int.le_trans h3 h4.1
      · rcases List.mem_cons.mp e with e | e
        · subst e; exact Int.le_trans h3 h4.2
        · exact h2 y (List.mem_cons_of_mem _ e)
theorem cb_len : CallR X (.builtin "len") (rB1 X.K (b1D .len)) := by
  intro pins s σ H vs us Q I r h
  obtain ⟨ks, m, Hz, a, d, v, rfl, c, ra, e, q⟩ := h
  cases a with
  | list xs =>
    obtain ⟨p, ws, rfl, h1, h2⟩ := dpLst ra
    cases e
    refine call_len_seq pins s σ H _ us Q I r ⟨p, ws, rfl, .inl (SqL.of (c.zh _ _ h1)), ?_⟩
    rw [daLen h2]
    exact stay c q (.int _)
  | tuple xs =>
    obtain ⟨p, ws, rfl, h1, h2⟩ := dpTup ra
    cases e
    refine call_len_seq pins s σ H _ us Q I r ⟨p, ws, rfl, .inr (c.sqT h1), ?_⟩
    rw [daLen h2]
    exact stay c q (.int _)
  | _ => cases e
theorem cb_tup : CallR X (.type "tuple") (rB1 X.K (b1D .tup)) := by
  intro pins s σ H vs us Q I r h
  obtain ⟨ks, m, Hz, a, d, v, rfl, c, ra, e, q⟩ := h
  cases a with
  | list xs =>
    obtain ⟨p, ws, rfl, h1, h2⟩ := dpLst ra
    cases e
    exact call_tuple_of pins s σ H _ us Q I r ⟨p, ws, rfl, .inl ⟨SqL.of (c.zh _ _ h1), fun l n => made c q n (rpTup c n h2)⟩⟩
  | tuple xs =>
    obtain ⟨p, ws, rfl, h1, h2⟩ := dpTup ra
    cases e
    exact call_tuple_of pins s σ H _ us Q I r ⟨p, ws, rfl, .inr ⟨c.sqT h1, stay c q ra⟩⟩
  | _ => cases e
theorem cb_lst : CallR X (.type "list") (rB1 X.K (b1D .lst)) := by
  intro pins s σ H vs us Q I r h
  obtain ⟨ks, m, Hz, a, d, v, rfl, c, ra, e, q⟩ := h
  cases a with
  | list xs =>
    obtain ⟨p, ws, rfl, h1, h2⟩ := dpLst ra
    cases e
    exact call_list_of pins s σ H _ us Q I r ⟨p, ws, rfl, .inl (SqL.of (c.zh _ _ h1)), fun l n => made c q n (rpLst c n h2)⟩
  | tuple xs =>
    obtain ⟨p, ws, rfl, h1, h2⟩ := dpTup ra
    cases e
    exact call_list_of pins s σ H _ us Q I r ⟨p, ws, rfl, .inr (c.sqT h1), fun l n => made c q n (rpLst c n h2)⟩
  | _ => cases e
theorem cb_all (hc : X.calm = true) : CallR X (.builtin "all") (rB1 X.K (b1D .all)) := by
  intro pins s σ H vs us Q I r h
  obtain ⟨ks, m, Hz, a, d, v, rfl, c, ra, e, q⟩ := h
  cases a with
  | list xs =>
    obtain ⟨p, ws, rfl, h1, h2⟩ := dpLst ra
    simp only [b1D, Option.map_eq_some_iff] at e
    obtain ⟨bs, e1, rfl⟩ := e
    rw [bools_of e1 h2] at h1
    exact cr_all hc pins s σ H _ us Q I r ⟨p, bs, rfl, SqL.of (c.zh _ _ h1), stay c q (.bl _)⟩
  | _ => cases e
theorem cb_any (hc : X.calm = true) : CallR X (.builtin "any") (rB1 X.K (b1D .any)) := by
  intro pins s σ H vs us Q I r h
  obtain ⟨ks, m, Hz, a, d, v, rfl, c, ra, e, q⟩ := h
  cases a with
  | list xs =>
    obtain ⟨p, ws, rfl, h1, h2⟩ := dpLst ra
    simp only [b1D, Option.map_eq_some_iff] at e
    obtain ⟨bs, e1, rfl⟩ := e
    rw [bools_of e1 h2] at h1
    exact cr_any hc pins s σ H _ us Q I r ⟨p, bs, rfl, SqL.of (c.zh _ _ h1), stay c q (.bl _)⟩
  | _ => cases e
theorem cb_int : CallR X (.type "int") (rB1 X.K (b1D .int)) := by
  intro pins s σ H vs us Q I r h
  obtain ⟨ks, m, Hz, a, d, v, rfl, c, ra, e, q⟩ := h
  cases a with
  | int i => cases e; exact call_int1 pins s σ H _ us Q I r (.inl ⟨i, by rw [dpInt ra], stay c q (.int _)⟩)
  | bool b => cases e; exact call_int1 pins s σ H _ us Q I r (.inr ⟨b, by rw [dpBool ra], stay c q (.int _)⟩)
  | _ => cases e
theorem cb_abs : CallR X (.builtin "abs") (rB1 X.K (b1D .abs)) := by
  intro pins s σ H vs us Q I r h
  obtain ⟨ks, m, Hz, a, d, v, rfl, c, ra, e, q⟩ := h
  cases a with
  | int i => cases e; exact call_abs pins s σ H _ us Q I r ⟨i, by rw [dpInt ra], stay c q (.int _)⟩
  | _ => cases e
theorem cb_sum (hc : X.calm = true) : CallR X (.builtin "sum") (rB1 X.K (b1D .sum)) := by
  intro pins s σ H vs us Q I r h
  obtain ⟨ks, m, Hz, a, d, v, rfl, c, ra, e, q⟩ := h
  cases a with
  | list xs =>
    obtain ⟨p, ws, rfl, h1, h2⟩ := dpLst ra
    simp only [b1D, Option.map_eq_some_iff] at e
    obtain ⟨bs, e1, rfl⟩ := e
    rw [ints_of e1 h2] at h1
    exact cr_sum hc pins s σ H _ us Q I r ⟨p, bs, rfl, SqL.of (c.zh _ _ h1), stay c q (.int _)⟩
  | _ => cases e
theorem cb_max (hc : X.calm = true) : CallR X (.builtin "max") (rB1 X.K (b1D .max)) := by
  intro pins s σ H vs us Q I r h
  obtain ⟨ks, m, Hz, a, d, v, rfl, c, ra, e, q⟩ := h
  cases a with
  | list xs =>
    obtain ⟨p, ws, rfl, h1, h2⟩ := dpLst ra
    simp only [b1D, Option.bind_eq_some_iff] at e
    obtain ⟨bs, e1, e⟩ := e
    split at e
    · rename_i hl
      cases e
      rw [ints_of e1 h2] at h1
      refine cr_max hc pins s σ H _ us Q I r ⟨p, bs, rfl, SqL.of (c.zh _ _ h1), hl, fun k hk hm => ?_⟩
      cases bs with
      | nil => simp at hl
      | cons x r' =>
        obtain ⟨f1, f2⟩ := maxI_fold r' x
        have : k = maxI (x :: r') := Int.le_antisymm (f2 k hk) (hm _ f1)
        rw [this]
        exact stay c q (.int _)
    · cases e
  | _ => cases e
theorem cb_min (hc : X.calm = true) : CallR X (.builtin "min") (rB1 X.K (b1D .min)) := by
  intro pins s σ H vs us Q I r h
  obtain ⟨ks, m, Hz, a, d, v, rfl, c, ra, e, q⟩ := h
  cases a with
  | list xs =>
    obtain ⟨p, ws, rfl, h1, h2⟩ := dpLst ra
    simp only [b1D, Option.bind_eq_some_iff] at e
    obtain ⟨bs, e1, e⟩ := e
    split at e
    · rename_i hl
      cases e
      rw [ints_of e1 h2] at h1
      refine cr_min hc pins s σ H _ us Q I r ⟨p, bs, rfl, SqL.of (c.zh _ _ h1), hl, fun k hk hm => ?_⟩
      cases bs with
      | nil => simp at hl
      | cons x r' =>
        obtain ⟨f1, f2⟩ := minI_fold r' x
        have : k = minI (x :: r') := Int.le_antisymm (hm _ f1) (f2 k hk)
        rw [this]
        exact stay c q (.int _)
    · cases e
  | _ => cases e
/-- each value with what it stands for -/
theorem each_of {K : PySem.W.Frag} {Hz : Hp} : ∀ {vs : List V} {us : List Value} {ds : List D}, Vals vs us → RpAll K Hz vs ds → PySem.W.EachIs (fun u d => ∃ v, RelV v u ∧ Rp K Hz v d) us ds
  | _, _, [], .nil, .nil => .nil
  | _, _, _ :: _, .cons a b, .cons r t => .cons ⟨_, a, r⟩ (each_of b t)
theorem of_each {K : PySem.W.Frag} {Hz : Hp} : ∀ {us : List Value} {ds : List D}, PySem.W.EachIs (fun u d => ∃ v, RelV v u ∧ Rp K Hz v d) us ds → ∃ vs, Vals vs us ∧ RpAll K Hz vs ds
  | _, _, .nil => ⟨[], .nil, .nil⟩
  | _, _, .cons ⟨v, a, r⟩ t => by
    obtain ⟨vs, b, q⟩ := of_each t
    exact ⟨v :: vs, .cons a b, .cons r q⟩
/-- the items of a tuple, collected: one new list, the rest as it was -/
theorem collT {prog : Program} {w : World} {A : Around} {E : Value → Shared → Prop} {s : Shared} {t : Addr} {its : Array Value} {Q : List Value → Shared → Prop} (ht : s.heap.IsTuple t its) (hz : its.size ≤ sizeLine)
    (q : ∀ g : Heap, s.heap.objs.size ≤ g.objs.size → (∀ c u, s.heap.get? c = some u → g.get? c = some u) → Q its.toList { s with heap := g }) : wpAny (model prog w) A (collect (.ref t)) Q E s := by
  obtain ⟨u, hu, hc, n, hd⟩ := ht
  let l := s.heap.objs.size
  let h1 := s.heap.push { cls := .type "list", data := .seq ([] : List Value).toArray }
  let h2 := h1.update l (Obj.mapSeq (· ++ its))
  have a1 : h1.get? l = some { cls := .type "list", data := .seq #[] 0 } := Heap.get?_push_size _ rfl
  have a2 := Heap.get?_update_self (Obj.mapSeq (· ++ its)) a1 rfl
  have old : ∀ c v, s.heap.get? c = some v → h2.get? c = some v := fun c v e => (Heap.get?_update_other _ _ (Nat.ne_of_gt (Heap.lt_size e))).trans (Heap.get?_push_of_some _ e)
  have big : s.heap.objs.size ≤ h2.objs.size := by
    show _ ≤ (h1.update l _).objs.size
    rw [Heap.size_update, Heap.size_push]
    exact Nat.le_succ _
  have eI : ((#[] : Array Value) ++ its).toList = its.toList := by simp
  have fin : wpAny (model prog w) A (match Value.ref l with
      | Value.ref a => do
        match (← load a).data with
          | Data.seq xs _ => pure xs.toList
          | _ => unsupported "internal:collect"
      | _ => unsupported "internal:collect") Q E { s with heap := h2 } := by
    refine wpAny_bind (wpAny_load a2 (wpAny_pure ?_))
    show Q ((#[] : Array Value) ++ its).toList _
    rw [eI]
    exact q h2 big old
  unfold collect
  refine wpAny_bind (wpAny_runValue (codeAny_builtin F.entry_proto_collect (by
    rw [Around.under_plainId F.plain_proto_collect _]
    refine wpAny_bind (wpAny_newObj_type (wpAny_pure ⟨plainId_quiet F.plain_list_iadd _, codeAny_builtin F.entry_list_iadd ?_⟩))
    rw [Around.under_plainId F.plain_list_iadd _]
    refine wpAny_mono (wpAny_extend_seq (s := { s with heap := h1 }) (A := A) (hsz := hz) (R := fun r z => r = .ok (.ret (.ref l)) ∧ z = { s with heap := h2 }) _ t _ 0 (.inr rfl) a1 (Heap.get?_push_of_some _ hu) hc hd ⟨rfl, rfl⟩) (fun f z x => ?_) (fun v z x => absurd x.1 (by simp))
    cases f with
    | done r =>
      obtain ⟨e, rfl⟩ := x
      cases e
      exact fin
    | again c => exact ⟨x.1, codeAny_mono x.2 fun r z hr => by obtain ⟨rfl, rfl⟩ := hr; exact fin⟩)))
/-- sorted(t), t a tuple: a new list, sorted as the data are -/
theorem sortedTup {prog : Program} {w : World} {A : Around} {E : Value → Shared → Prop} {s : Shared} {β : Type} {en : β → PyData} {R : Value → β → Prop} {t : Addr} {vs : List Value} {bs : List β} {Q : Value → Shared → Prop}
    (ht : s.heap.IsTuple t vs.toArray) (e : PySem.W.EachIs R vs bs) (rd : PySem.W.EachIs (fun v b => ∃ as, PySem.Reads s.heap v (en b) as) vs bs) (al : PySem.W.AllAlike (bs.map en)) (so : PySem.W.Sortable (bs.map en)) (hL : bs.length ≤ sizeLine)
    (hu : ∀ b, b ∈ bs → A.units + 2 + (en b).depth < cLine)
    (h : ∀ (a : Addr) (g : Heap) (out : List Value) (ep : Nat), s.heap.objs.size ≤ a → (∀ c o, s.heap.get? c = some o → g.get? c = some o) → g.get? a = some (seqObj "list" out.toArray ep) → out.length = bs.length → PySem.W.EachIs R out (bs.mergeSort (PySem.W.dataLe false en)) → Q (.ref a) { s with heap := g }) :
    wpAny (model prog w) A (call (.builtin "sorted") [.ref t]) Q E s := by
  have hL' : vs.length ≤ sizeLine := by rw [e.length]; exact hL
  refine Calls.call_function_entry kind_sorted plain_sorted entry_sorted (args_sorted1 _) ?_
  unfold Builtin.«sorted»
  refine wpAny_bind (m := checkCount "sorted" 1 1 _) (wpAny_pure ?_)
  refine wpAny_bind (collT ht (by simpa using hL') fun g1 z1 k1 => ?_)
  refine wpAny_bind (wpAny_newList ?_ (by simpa using hL'))
  have at1 : (g1.push (seqObj "list" vs.toArray 0)).get? g1.objs.size = some (seqObj "list" vs.toArray 0) := Heap.get?_push_size _ rfl
  have old : ∀ c u, s.heap.get? c = some u → c ≠ g1.objs.size ∧ (g1.push (seqObj "list" vs.toArray 0)).get? c = some u := fun c u q => ⟨Nat.ne_of_lt (Heap.lt_size (k1 c u q)), Heap.get?_push_of_some _ (k1 c u q)⟩
  have rd' : PySem.W.EachIs (fun v b => ∃ as, PySem.Reads (PySem.W.sortingHeap (g1.push (seqObj "list" vs.toArray 0)) g1.objs.size vs) v (en b) as) vs bs :=
    rd.mono fun _ _ ⟨as, r⟩ => ⟨as, PyProof.Rows.Reads.keeps (fun c u q => PySem.W.sortingHeap_old (old c u q).1 (old c u q).2) r⟩
  have len := PySem.W.sortVals_length (κ := PySem.W.dataKind (PySem.W.sortingHeap (g1.push (seqObj "list" vs.toArray 0)) g1.objs.size vs) (bs.map en)) false (ks := vs) (vs := vs) rfl
  refine wpAny_bind (wpAny_holding (wpAny_call_entry slot_list_sort ⟨_, at1, rfl⟩ entry_list_sort (PySem.W.list_sort_vals (s := { s with heap := g1.push (seqObj "list" vs.toArray 0) }) (κ := PySem.W.dataKind (PySem.W.sortingHeap (g1.push (seqObj "list" vs.toArray 0)) g1.objs.size vs) (bs.map en)) at1
    (PySem.W.SortsAt.data (s := { s with heap := PySem.W.sortingHeap (g1.push (seqObj "list" vs.toArray 0)) g1.objs.size vs }) (PySem.W.each_map (R := fun v d => ∃ as, PySem.Reads (PySem.W.sortingHeap (g1.push (seqObj "list" vs.toArray 0)) g1.objs.size vs) v d as) en rd') al so (PySem.W.bound_map hu)) hL' ⟨_, rfl, ?_⟩) (args_list_sort _)))
  obtain ⟨ep, fin⟩ := sortedHeap_at (vs := vs) (out := (PySem.W.sortVals (PySem.W.dataKind (PySem.W.sortingHeap (g1.push (seqObj "list" vs.toArray 0)) g1.objs.size vs) (bs.map en)) false vs vs).toArray) at1
  refine wpAny_pure ⟨_, rfl, h g1.objs.size _ (PySem.W.sortVals (PySem.W.dataKind (PySem.W.sortingHeap (g1.push (seqObj "list" vs.toArray 0)) g1.objs.size vs) (bs.map en)) false vs vs) ep ?_ (fun c u q => ?_) fin (by rw [len]; exact e.length) (PySem.W.sortVals_data false e rd' al)⟩
  · exact z1
  · exact (sortedHeap_old (old c u q).1 (Heap.lt_size (old c u q).2)).trans (old c u q).2
theorem alOf {xs : List D} (h : allAlike xs = true) : PySem.W.AllAlike (xs.map fun x => x) := by
  rw [List.map_id']
  exact fun d hd d' hd' => List.all_eq_true.mp (List.all_eq_true.mp h d hd) d' hd'
theorem soOf {xs : List D} (h : sortable xs = true) : PySem.W.Sortable (xs.map fun x => x) := by
  rw [List.map_id']
  unfold sortable at h
  rcases Bool.or_eq_true_iff.mp h with z | z
  · refine .inl fun d hd => ?_
    have := List.all_eq_true.mp z d hd
    match d, this with
    | .tuple (y :: r), _ => exact ⟨y, r, rfl⟩
  · refine .inr fun d hd => ?_
    have := List.all_eq_true.mp z d hd
    cases d with
    | tuple ys => simp at this
    | none => simp at this
    | _ => exact ⟨fun e => (nomatch e), fun _ e => (nomatch e)⟩
theorem srtT {n : Nat} (hr : Room n X.A) {pins : List (Addr × Obj)} {s : Shared} {σ : L2.St} {H Hz : Hp} {us : List Value} {v : V} {Q : VK} {ks : List Addr} {m : Mem} {xs : List D} (I : Inv X pins σ H s) (r : Vals [v] us) (c : CR X.K ks m Hz H) (ra : Rp X.K Hz v (.tuple xs))
    (h1 : allAlike xs = true) (h2 : sortable xs = true) (h3 : xs.all plain = true) (q : ∀ a vs, H a = none → RpAll X.K Hz vs (xs.mergeSort (PySem.W.dataLe false fun x => x)) → Q (.ref a) (upd H a (.lst vs))) : wpAny (model X.prog X.w) X.A (call (.builtin "sorted") us) (EP X pins σ Q) X.xe s := by
  obtain ⟨p, ws, rfl, hl, hd⟩ := dpTup ra
  obtain ⟨its, rv, pt, hz⟩ := I.tuple (c.sqT hl)
  rw [Vals.ref1 r]
  obtain ⟨as, rd⟩ := Dp.readsAll I xs ws its (RpAll.dp _ _ (daUp c.zh _ _ hd)) rv
  refine sortedTup (en := fun x => x) (R := fun u d => ∃ v, RelV v u ∧ Rp X.K Hz v d) pt (each_of rv hd) (PySem.W.readsAll_each (h := s.heap) (fun x : D => x) (bs := xs) (vs := its) (as := as) (by simpa using rd)) (alOf h1) (soOf h2) (by rw [← daLen hd]; exact hz) (fun b hb => ?_) fun a g out ep z old at1 hlen ho => ?_
  · have h4 := SeqAt.depth_of_shaped (List.all_eq_true.mp h3 b hb)
    have := hr.un
    show X.A.units + 2 + b.depth < cLine
    omega
  · obtain ⟨vs', v1, v2⟩ := of_each ho
    exact ⟨.ref a, upd H a (.lst vs'), I.laid (t' := s.toks) old z ⟨by rw [v1.length, hlen, ← daLen hd]; exact hz, out, ep, v1, at1⟩, rfl, q a vs' (I.hok.fresh z) v2⟩
theorem cb_srt {n : Nat} (hr : Room n X.A) : CallR X (.builtin "sorted") (rB1 X.K (b1D .srt)) := by
  intro pins s σ H vs us Q I r h
  obtain ⟨ks, m, Hz, a, d, v, rfl, c, ra, e, q⟩ := h
  cases a with
  | list xs =>
    simp only [b1D] at e
    split at e
    · rename_i hp
      obtain ⟨h1, h2, h3⟩ := hp
      cases e
      obtain ⟨p, ws, rfl, hl, hd⟩ := dpLst ra
      obtain ⟨its, rv, pl, hz⟩ := I.list (SqL.of (c.zh _ _ hl))
      rw [Vals.ref1 r]
      have hal : PySem.W.AllAlike (xs.map fun x => x) := by
        intro d hd d' hd'
        simp only [List.map_id_fun', id_eq] at hd hd'
        have := List.all_eq_true.mp (List.all_eq_true.mp h1 d hd) d' hd'
        exact this
      have hso : PySem.W.Sortable (xs.map fun x => x) := by
        simp only [List.map_id_fun', id_eq]
        unfold sortable at h2
        rcases Bool.or_eq_true_iff.mp h2 with z | z
        · refine .inl fun d hd => ?_
          have := List.all_eq_true.mp z d hd
          cases d with
          | tuple ys => cases ys with
            | nil => simp at this
            | cons y r => exact ⟨y, r, rfl⟩
          | _ => simp at this
        · refine .inr fun d hd => ?_
          have := List.all_eq_true.mp z d hd
          cases d with
          | tuple ys => simp at this
          | none => simp at this
          | _ => exact ⟨fun e => (nomatch e), fun _ e => (nomatch e)⟩
      have er : PySem.W.EachIs (fun u d => ∃ as, Reads s.heap u d as) its xs := by
        obtain ⟨as, ra⟩ := Dp.readsAll I xs ws its (RpAll.dp _ _ (daUp c.zh _ _ hd)) rv
        have := PySem.W.readsAll_each (h := s.heap) (fun x : D => x) (bs := xs) (vs := its) (as := as) (by simpa using ra)
        exact this
      refine PySem.W.sorted_data (enc := fun x => x) (R := fun u d => ∃ v, RelV v u ∧ Rp X.K Hz v d) pl.isList (each_of rv hd) er hal hso (by rw [← daLen hd]; exact hz) (fun b hb => ?_) fun out hlen ho => ?_
      · have h4 := SeqAt.depth_of_shaped (List.all_eq_true.mp h3 b hb)
        have := hr.un
        show X.A.units + 2 + b.depth < cLine
        omega
      · obtain ⟨vs', v1, v2⟩ := of_each ho
        obtain ⟨ep, he'⟩ := PyProof.Rows.sortedAll_at s.heap its out.toArray
        have hl2 : vs'.length ≤ sizeLine := by rw [v1.length, hlen, ← daLen hd]; exact hz
        refine ⟨.ref _, upd H (s.heap.objs.size + 1) (.lst vs'), I.laid (t' := s.toks) (fun _ _ => PyProof.Rows.sortedAll_old) (Nat.le_succ _) ⟨hl2, out, ep, v1, he'⟩, rfl, ?_⟩
        have n := I.hok.fresh (Nat.le_succ s.heap.objs.size)
        exact made c q n (rpLst c n (by rw [sortD_eq]; exact v2))
    · cases e
  | tuple xs =>
    simp only [b1D] at e
    split at e
    · rename_i hp
      cases e
      exact srtT hr I r c ra hp.1 hp.2.1 hp.2.2 fun a vs n d => made c q n (rpLst c n (by rw [sortD_eq]; exact d))
    · cases e
  | _ => cases e
end
end Mp

set_option Elab.async false
set_option linter.all false
set_option maxRecDepth 100000
set_option maxHeartbeats 3200000
namespace Mp
open PySem PySem.Spec PyProof.Rows L2
mutual
theorem keyData : ∀ d : PyData, flatD d = true → (nkey d).data = d
  | .int i, _ => by simp [nkey, NestedKey.data]
  | .tuple xs, h => by
    simp only [flatD] at h
    simp [nkey, NestedKey.data, keysData xs h]
  | .none, h => by simp [flatD] at h
  | .bool _, h => by simp [flatD] at h
  | .str _, h => by simp [flatD] at h
  | .list _, h => by simp [flatD] at h
  | .dict _, h => by simp [flatD] at h
theorem keysData : ∀ ds : List PyData, flatDs ds = true → NestedKey.datas (nkeys ds) = ds
  | [], _ => by simp [nkeys, NestedKey.datas]
  | d :: ds, h => by
    simp only [flatDs, Bool.and_eq_true] at h
    simp [nkeys, NestedKey.datas, keyData d h.1, keysData ds h.2]
end
theorem keyInj {d e : PyData} (h1 : flatD d = true) (h2 : flatD e = true) (h : nkey d = nkey e) : d = e := by rw [← keyData d h1, ← keyData e h2, h]
mutual
theorem keyTxt : ∀ d : PyData, noTxt (nkey d) = true
  | .int i => by simp [nkey, noTxt]
  | .tuple xs => by simp [nkey, noTxt, keysTxt xs]
  | .none => by simp [nkey, noTxt]
  | .bool _ => by simp [nkey, noTxt]
  | .str _ => by simp [nkey, noTxt]
  | .list _ => by simp [nkey, noTxt]
  | .dict _ => by simp [nkey, noTxt]
theorem keysTxt : ∀ ds : List PyData, noTxts (nkeys ds) = true
  | [] => by simp [nkeys, noTxts]
  | d :: ds => by simp [nkeys, noTxts, keyTxt d, keysTxt ds]
end
mutual
theorem flatReads {h : Heap} : ∀ (d : PyData) (v : Value) (as : List Addr), flatD d = true → Reads h v d as → as = [] ∧ NestedIs h (nkey d) v
  | .int i, v, as, f, r => by
    cases r
    refine ⟨rfl, ?_⟩
    rw [nkey]
    exact .int i _
  | .tuple xs, v, as, f, r => by
    simp only [flatD] at f
    cases r with
    | tuple h1 h2 h3 h4 =>
      obtain ⟨e, z⟩ := flatsReads xs _ as f h4
      refine ⟨e, ?_⟩
      rw [nkey]
      exact .tup h1 h2 h3 z
  | .none, v, as, f, _ => by simp [flatD] at f
  | .bool _, v, as, f, _ => by simp [flatD] at f
  | .str _, v, as, f, _ => by simp [flatD] at f
  | .list _, v, as, f, _ => by simp [flatD] at f
  | .dict _, v, as, f, _ => by simp [flatD] at f
theorem flatsReads {h : Heap} : ∀ (ds : List PyData) (vs : List Value) (as : List Addr), flatDs ds = true → ReadsAll h vs ds as → as = [] ∧ NestedAll h (nkeys ds) vs
  | [], vs, as, f, r => by
    cases r
    refine ⟨rfl, ?_⟩
    rw [nkeys]
    exact .nil
  | d :: ds, vs, as, f, r => by
    simp only [flatDs, Bool.and_eq_true] at f
    cases r with
    | cons r1 r2 =>
      obtain ⟨e1, z1⟩ := flatReads d _ _ f.1 r1
      obtain ⟨e2, z2⟩ := flatsReads ds _ _ f.2 r2
      subst e1 e2
      refine ⟨rfl, ?_⟩
      rw [nkeys]
      exact .cons z1 z2
end
theorem strictPw : ∀ {o : List PyData}, strictB o = true → (o.Pairwise fun a b => PySem.W.dataLt a b = true ∧ PySem.W.dataLt b a = false) ∧ ∀ x ∈ o, PySem.W.dataLt x x = false
  | [], _ => ⟨.nil, fun x h => by cases h⟩
  | x :: r, h => by
    simp only [strictB, Bool.and_eq_true, List.all_eq_true, Bool.not_eq_true'] at h
    obtain ⟨p, q⟩ := strictPw h.2
    refine ⟨.cons (fun y hy => h.1.2 y hy) p, fun y hy => ?_⟩
    rcases List.mem_cons.mp hy with z | z
    · rw [z]; exact h.1.1
    · exact q y z
theorem permLift {α β : Type} {f : α → β} {l : List α} {l2 : List β} (p : l2.Perm (l.map f)) : ∃ l1 : List α, l2 = l1.map f ∧ l1.Perm l := by
  generalize hm : l.map f = m at p
  induction p generalizing l with
  | nil => exact ⟨[], rfl, by rw [List.map_eq_nil_iff.mp hm]⟩
  | @cons x a b _ ih =>
    obtain ⟨y, r, rfl, rfl, h2⟩ := List.map_eq_cons_iff.mp hm
    obtain ⟨l1, rfl, p1⟩ := ih h2
    exact ⟨y :: l1, rfl, p1.cons y⟩
  | swap x y a =>
    obtain ⟨u, r, rfl, rfl, h2⟩ := List.map_eq_cons_iff.mp hm
    obtain ⟨v, r, rfl, rfl, rfl⟩ := List.map_eq_cons_iff.mp h2
    exact ⟨v :: u :: r, rfl, .swap _ _ _⟩
  | trans _ _ ih1 ih2 =>
    obtain ⟨l1, rfl, p1⟩ := ih2 hm
    obtain ⟨l2, rfl, p2⟩ := ih1 rfl
    exact ⟨l2, rfl, p2.trans p1⟩
/-- what is strictly in order is what sorting makes of it -/
theorem sortStrict {o bs : List PyData} (h : strictB o = true) (p : bs.Perm o) : bs.mergeSort (PySem.W.dataLe false fun x => x) = o := by
  obtain ⟨pw, ir⟩ := strictPw h
  have e0 : o = (List.range o.length).map fun i => o.getD i .none := by
    apply List.ext_getElem
    · simp
    · intro i h1 h2
      simp [List.getD_eq_getElem?_getD, List.getElem?_eq_getElem h1]
  have p' : bs.Perm ((List.range o.length).map fun i => o.getD i .none) := by rw [← e0]; exact p
  obtain ⟨is, rfl, pi⟩ := permLift p'
  have at_ : ∀ i, i < o.length → ∀ j, j < o.length → (decide (i ≤ j)) = PySem.W.dataLe false (fun x => x) (o.getD i .none) (o.getD j .none) := fun i hi j hj => by
    have gi : o.getD i .none = o[i] := by simp [List.getD_eq_getElem?_getD, List.getElem?_eq_getElem hi]
    have gj : o.getD j .none = o[j] := by simp [List.getD_eq_getElem?_getD, List.getElem?_eq_getElem hj]
    rw [gi, gj]
    show decide (i ≤ j) = !PySem.W.dataLt o[j] o[i]
    rcases Nat.lt_trichotomy i j with z | z | z
    · rw [((List.pairwise_iff_getElem.mp pw) i j hi hj z).2]
      simp; omega
    · subst z
      rw [ir _ (List.getElem_mem hi)]
      simp
    · rw [((List.pairwise_iff_getElem.mp pw) j i hj hi z).1]
      simp; omega
  have mem : ∀ i ∈ is, i < o.length := fun i hi => List.mem_range.mp (pi.mem_iff.mp hi)
  rw [← List.map_mergeSort (r := fun i j => decide (i ≤ j)) (fun i hi j hj => at_ i (mem i hi) j (mem j hj))]
  have srt : is.mergeSort (fun i j => decide (i ≤ j)) = List.range o.length := by
    refine List.Perm.eq_of_pairwise (le := fun a b => a ≤ b) (fun a b _ _ h1 h2 => Nat.le_antisymm h1 h2) ?_ ?_ ((List.mergeSort_perm _ _).trans pi)
    · have := List.pairwise_mergeSort (le := fun i j : Nat => decide (i ≤ j)) (fun a b c h1 h2 => by simp at *; omega) (fun a b => by simp; omega) is
      exact this.imp fun h => by simpa using h
    · exact List.pairwise_le_range
  rw [srt, ← e0]
end Mp

set_option Elab.async false
set_option linter.all false
set_option maxRecDepth 100000
set_option maxHeartbeats 3200000
namespace Mp
open PySem PySem.Spec PyProof.Rows L2
theorem ssetAt {xs o : List PyData} (h : ssetOk xs o = true) : (∀ x ∈ xs, keyB x = true) ∧ (∀ x ∈ o, keyB x = true) ∧ xs.length < 64 ∧ strictB o = true ∧ allAlike o = true ∧ (∀ x ∈ xs, nkey x ∈ o.map nkey) ∧ ∀ x ∈ o, nkey x ∈ xs.map nkey := by
  unfold ssetOk at h
  simp only [Bool.and_eq_true, List.all_eq_true, decide_eq_true_eq, List.contains_iff_mem] at h
  obtain ⟨⟨⟨⟨⟨⟨h1, h2⟩, h3⟩, h4⟩, h5⟩, h6⟩, h7⟩ := h
  exact ⟨h1, h2, h3, h4, h5, h6, h7⟩
theorem keyAt {d : PyData} (h : keyB d = true) : (∃ x r, d = .tuple (x :: r)) ∧ flatD d = true ∧ (nkey d).depth ≤ 8 ∧ plain d = true := by
  unfold keyB at h
  simp only [Bool.and_eq_true, decide_eq_true_eq] at h
  refine ⟨?_, h.1.1.2, h.1.2, h.2⟩
  have := h.1.1.1
  cases d with
  | tuple xs => cases xs with
    | nil => simp [isTupD] at this
    | cons x r => exact ⟨x, r, rfl⟩
  | _ => simp [isTupD] at this
/-- the items with their keys -/
theorem rowsOf' {h : Heap} : ∀ {xs : List PyData} {us : List Value} {as : List Addr}, (∀ x ∈ xs, keyB x = true) → ReadsAll h us xs as → ∃ ks : List Row, us = ks.map (fun e => Value.ref e.1) ∧ ks.map (·.2) = xs.map nkey ∧ ∀ e ∈ ks, KAt h e.2 e.1
  | [], us, as, _, r => by
    cases r
    exact ⟨[], rfl, rfl, fun _ z => by cases z⟩
  | x :: xs, us, as, hk, r => by
    cases r with
    | @cons v vs _ _ as bs r1 r2 =>
      obtain ⟨ks, e1, e2, e3⟩ := rowsOf' (fun y hy => hk y (List.mem_cons_of_mem _ hy)) r2
      obtain ⟨⟨y, r, rfl⟩, k2, k3, _⟩ := keyAt (hk x List.mem_cons_self)
      obtain ⟨_, z⟩ := flatReads _ _ _ k2 r1
      cases r1 with
      | @tuple b o us' n _ _ q1 q2 q3 q4 =>
        refine ⟨(b, nkey (.tuple (y :: r))) :: ks, by simp [e1], by simp [e2], fun e he => ?_⟩
        rcases List.mem_cons.mp he with w | w
        · rw [w]; exact ⟨z, k3, keyTxt _⟩
        · exact e3 e w
theorem eachOf {R : Value → PyData → Prop} : ∀ {L : List Row}, (∀ e ∈ L, R (.ref e.1) e.2.data) → PySem.W.EachIs R (L.map fun e => Value.ref e.1) (L.map fun e => e.2.data)
  | [], _ => .nil
  | e :: L, h => .cons (h e List.mem_cons_self) (eachOf fun f hf => h f (List.mem_cons_of_mem _ hf))
end Mp

set_option Elab.async false
set_option linter.all false
set_option maxRecDepth 100000
set_option maxHeartbeats 3200000
namespace Mp
open PySem PySem.Spec PyProof.Rows L2
section
variable {P : Program} {w : World} {A : Around} {E : Value → Shared → Prop} {s : Shared}
/-- sorted(a set of keys) -/
theorem nsorted {a : Addr} {L : List Row} {es : Array (Int × Value)} {ep : Nat} {t : SetTable} {o : List PyData} {R : Value → PyData → Prop} {Q : Value → Shared → Prop} (N : NSet w s.heap a L es ep t) (hh : A.handled = none) (hs : strictB o = true) (pm : (L.map fun e => e.2.data).Perm o)
    (hal : allAlike o = true) (hso : ∀ d ∈ o, ∃ x r, d = .tuple (x :: r)) (hR : ∀ e ∈ L, R (.ref e.1) e.2.data) (hr : ∀ e ∈ L, Reads s.heap (.ref e.1) e.2.data []) (hu : ∀ d ∈ o, A.units + 2 + d.depth < cLine)
    (q : ∀ s' p (out : List Value) (c : Nat), (∀ b u, s.heap.get? b = some u → s'.heap.get? b = some u) → s'.gens = s.gens → s'.os = s.os → s.heap.objs.size ≤ p → s'.heap.get? p = some (seqObj "list" out.toArray c) → PySem.W.EachIs R out o → Q (.ref p) s') :
    wpAny (model P w) A (call (.builtin "sorted") [.ref a]) Q E s := by
  obtain ⟨ob, ho, hex, hd⟩ := N.ob
  refine Calls.call_function_entry kind_sorted plain_sorted entry_sorted (args_sorted1 _) ?_
  unfold Builtin.«sorted»
  refine wpAny_bind (m := checkCount "sorted" 1 1 _) (wpAny_pure ?_)
  refine wpAny_bind (collect_set (A := A.in1) hh ⟨ob, ho, hex.1, hd⟩ N.ft (by have := N.fw; rw [N.n]; unfold scanBound; omega) N.tb.ris N.ld fun s1 vs k1 hz g1 o1 pv => ?_)
  have e1 : es.toList.map (·.2) = L.map fun e => Value.ref e.1 := by
    rw [N.rw_]
    simp [rws]
  rw [e1] at pv
  obtain ⟨L1, rfl, p1⟩ := permLift pv
  have pb : (L1.map fun e => e.2.data).Perm o := (p1.map _).trans pm
  have hl1 : L1.length < 64 := by rw [p1.length_eq]; exact N.fw
  refine wpAny_bind (wpAny_newList ?_ (by simp [sizeLine_eq]; omega))
  have hoL : (s1.heap.push (seqObj "list" (L1.map fun e => Value.ref e.1).toArray 0)).get? s1.heap.objs.size = some (seqObj "list" (L1.map fun e => Value.ref e.1).toArray 0) := Heap.get?_push_size _ rfl
  have sub : ∀ e ∈ L1, e ∈ L := fun e he => p1.mem_iff.mp he
  refine wpAny_bind (wpAny_holding ?_)
  refine PySem.W.list_sort_data (s := { s1 with heap := s1.heap.push (seqObj "list" (L1.map fun e => Value.ref e.1).toArray 0) }) (enc := fun x => x) (R := R) (bs := L1.map fun e => e.2.data) hoL (eachOf fun e he => hR e (sub e he)) (eachOf fun e he => ⟨[], PyProof.Rows.Reads.keeps (fun b u z => Heap.get?_push_of_some _ (k1 b u z)) (hr e (sub e he)), by simp⟩) ?_ ?_ (by simp [sizeLine_eq]; omega) ?_ fun out ol oe => ?_
  · intro d hd d' hd'
    rw [List.map_id_fun', id_eq] at hd hd'
    exact List.all_eq_true.mp (List.all_eq_true.mp hal d (pb.mem_iff.mp hd)) d' (pb.mem_iff.mp hd')
  · refine .inl fun d hd => ?_
    rw [List.map_id_fun', id_eq] at hd
    exact hso d (pb.mem_iff.mp hd)
  · intro d hd
    have := hu d (pb.mem_iff.mp hd)
    simp only [Around.in1_units]
    omega
  · rw [sortStrict hs pb] at oe
    obtain ⟨c, hc⟩ := sortedHeap_at (vs := L1.map fun e => Value.ref e.1) (out := out.toArray) hoL
    refine wpAny_pure ⟨_, rfl, q _ s1.heap.objs.size out c (fun b u z => ?_) g1 o1 hz hc oe⟩
    have z1 := k1 b u z
    have lt := Heap.lt_size z1
    show (sortedHeap _ s1.heap.objs.size _ _).get? b = some u
    rw [sortedHeap_old (Nat.ne_of_lt lt) (by rw [size_push']; exact Nat.lt_succ_of_lt lt)]
    exact Heap.get?_push_of_some _ z1
end
section
variable {P : Program} {w : World} {A : Around} {E : Value → Shared → Prop} {s : Shared}
theorem ncallB {l : Addr} {items : Array Value} {ks : List Row} {Q : Value → Shared → Prop} (hh : A.handled = none) (hl : s.heap.IsList l items ∨ s.heap.IsTuple l items) (hi : items.toList = ks.map fun e => Value.ref e.1) (hk : ∀ e ∈ ks, KAt s.heap e.2 e.1) (few : ks.length < 64) (hu : A.units + 16 < cLine)
    (q : ∀ (h' : Heap) (tk : Nat) L es ep t, NSet w h' s.heap.objs.size L es ep t → Has ks ks.length L → (∀ b o, s.heap.get? b = some o → h'.get? b = some o) → Q (.ref s.heap.objs.size) { s with heap := h', toks := tk }) : wpAny (model P w) A (call (.type "set") [.ref l]) Q E s :=
  hl.elim (fun hl => ncall hh hl hi hk few hu q) (fun hl => ncallT hh hl hi hk few hu q)
theorem icallB {l : Addr} {items : Array Value} {ns : List Int} {Q : Value → Shared → Prop} (hh : A.handled = none) (hl : s.heap.IsList l items ∨ s.heap.IsTuple l items) (hi : IntsAre items.toList ns) (few : ns.length < 64)
    (q : ∀ (h' : Heap) (tk c : Nat), c ≤ ns.length → SetR w h' s.heap.objs.size (fun j => decide (j ∈ ns)) c → (∀ b o, s.heap.get? b = some o → h'.get? b = some o) → Q (.ref s.heap.objs.size) { s with heap := h', toks := tk }) : wpAny (model P w) A (call (.type "set") [.ref l]) Q E s :=
  hl.elim (fun hl => icall hh hl hi few q) (fun hl => icallT hh hl hi few q)
end
section
variable {X : Cx}
/-- behind the argument of sorted(set(..)) -/
theorem sset_go {n : Nat} {pins : List (Addr × Obj)} {σ : L2.St} {H1 : Hp} {s1 : Shared} {ks : List Addr} {m : Mem} {Hz : Hp} {xs : List PyData} {d : PyData} {l : Addr} {vs : List V} {its : List Value} {Q : VK} (hr : Room n X.A) (hc : X.calm = true) (I1 : Inv X pins σ H1 s1) (c : CR X.K ks m Hz H1) (hd : RpAll X.K Hz vs xs) (rv : Vals vs its)
    (src : s1.heap.IsList l its.toArray ∨ s1.heap.IsTuple l its.toArray) (ed : ssetOf xs = some d) (qq : ∀ Hz' H' v, Ext ks Hz H1 ks Hz' H' → CR X.K ks m Hz' H' → Rp X.K Hz' v d → Q v H') {A1 : Around} (hA : A1 = X.A) :
    wpAny (model X.prog X.w) X.A (call (.type "set") [.ref l]) (fun u s' => wpAny (model X.prog X.w) X.A (call (.builtin "sorted") [u]) (EP X pins σ Q) X.xe s') X.xe s1 := by
  cases hi : intsOf xs with
  | some ns =>
    unfold ssetOf at ed
    rw [hi] at ed
    simp only [ssetI] at ed
    split at ed
    · rename_i hok
      obtain ⟨o1, o2, o3, o4⟩ := hok
      cases ed
      have ev := ints_of hi hd
      subst ev
      refine icallB (ns := ns) (I1.ok.hd hc) src (by simpa using rv.ints) o1 fun h' tk k hk R kp => ?_
      have I2 : Inv X pins σ H1 { s1 with heap := h', toks := tk } := I1.kept kp
      refine sorted_set (s := { s1 with heap := h', toks := tk }) R (I2.ok.hd hc) (by omega) fun s' p out cc ms k gg oo hp hg' hi' hs hm hl => ?_
      have me : ms = uniqI ns := by
        have np : ms.Perm (uniqI ns) := by
          refine (List.perm_ext_iff_of_nodup (hs.imp fun z => by omega) (o2.imp fun z => by omega)).mpr fun k => ?_
          rw [hm k]
          simp only [decide_eq_true_eq]
          exact ⟨o3 k, o4 k⟩
        exact List.Perm.eq_of_pairwise (le := fun a b => a < b) (fun a b _ _ h1 h2 => by omega) hs o2 np
      subst me
      have hn : H1 p = none := I2.hok.fresh hp
      have hlen : ((uniqI ns).map V.int).length ≤ sizeLine := by
        rw [List.length_map, hl, sizeLine_eq]
        omega
      have J : Inv X pins σ (upd H1 p (.lst ((uniqI ns).map V.int))) { ({ s1 with heap := h', toks := tk } : Shared) with heap := s'.heap, gens := s'.gens, drawn := s'.drawn, toks := s'.toks } :=
        I2.call (ch := []) (Un.laid k hp hn) (I2.hok.laid k hp ⟨hlen, out.toList, cc, vals_of_ints hi', hg'⟩) (by rw [gg]; exact I2.bare) (fun _ z => nomatch z)
      have es : s' = { s1 with heap := s'.heap, gens := s'.gens, drawn := s'.drawn, toks := s'.toks } := by
        cases s'
        cases s1
        cases oo
        rfl
      rw [es]
      have ri : ∀ ns : List Int, RpAll X.K Hz (ns.map V.int) (ns.map PyData.int) := fun ns => by
        induction ns with
        | nil => exact .nil
        | cons n ns ih => exact .cons (.int n) ih
      exact ⟨.ref p, _, J, rfl, made c qq hn (rpLst c hn (ri _))⟩
    · cases ed
  | none =>
    unfold ssetOf at ed
    rw [hi] at ed
    simp only [ssetD] at ed
    split at ed
    · rename_i hok
      cases ed
      obtain ⟨w1, w2, w3, w4, w5, w6, w7⟩ := ssetAt hok
      obtain ⟨as, ras⟩ := Dp.readsAll I1 xs vs its (RpAll.dp _ _ (daUp c.zh _ _ hd)) rv
      obtain ⟨rows, e1, e2, e3⟩ := rowsOf' w1 ras
      have rl : rows.length = xs.length := by simpa using congrArg List.length e2
      have un : s1.heap.objs.size = s1.heap.objs.size := rfl
      refine ncallB (ks := rows) (I1.ok.hd hc) src (by simpa using e1) e3 (by omega) (by have := hr.un; omega) fun h' tk L es ep t N g kp => ?_
      have I2 : Inv X pins σ H1 { s1 with heap := h', toks := tk } := I1.kept kp
      -- what each row reads as
      have row : ∀ e ∈ L, ∃ i x, xs[i]? = some x ∧ nkey x = e.2 ∧ its[i]? = some (Value.ref e.1) := fun e he => by
        have he2 : e ∈ rows := List.mem_of_mem_take (g.sub e he)
        obtain ⟨i, hi, ei⟩ := List.getElem_of_mem he2
        have q1 : rows[i]? = some e := by rw [List.getElem?_eq_getElem hi, ei]
        have q2 : (xs.map nkey)[i]? = some e.2 := by rw [← e2, List.getElem?_map, q1]; rfl
        rw [List.getElem?_map] at q2
        cases hx : xs[i]? with
        | none => rw [hx] at q2; cases q2
        | some x =>
          rw [hx] at q2
          exact ⟨i, x, hx, Option.some.inj q2, by rw [e1, List.getElem?_map, q1]; rfl⟩
      have dat : ∀ e ∈ L, ∃ i x, xs[i]? = some x ∧ e.2.data = x ∧ its[i]? = some (Value.ref e.1) := fun e he => by
        obtain ⟨i, x, h1, h2, h3⟩ := row e he
        refine ⟨i, x, h1, ?_, h3⟩
        rw [← h2, keyData x (keyAt (w1 x (List.mem_of_getElem? h1))).2.1]
      have hRe : ∀ e ∈ L, ∃ v, RelV v (Value.ref e.1) ∧ Rp X.K Hz v e.2.data := fun e he => by
        obtain ⟨i, x, h1, h2, h3⟩ := dat e he
        obtain ⟨v, v1, v2⟩ := daGetD hd h1
        obtain ⟨u, u1, u2⟩ := rv.get v1
        rw [h3] at u1
        cases u1
        exact ⟨v, u2, by rw [h2]; exact v2⟩
      have reads : ∀ e ∈ L, Reads h' (.ref e.1) e.2.data [] := fun e he => by
        obtain ⟨i, x, h1, h2, h3⟩ := dat e he
        obtain ⟨v, v1, v2⟩ := hRe e he
        obtain ⟨as', r'⟩ := Dp.readsAll I1 [e.2.data] [v] [.ref e.1] (.cons (Rp.dp _ _ (dpUp c.zh _ _ v2)) .nil) (.cons v1 .nil)
        have fl : flatD e.2.data = true := by rw [h2]; exact (keyAt (w1 x (List.mem_of_getElem? h1))).2.1
        cases r' with
        | cons r1 r2 =>
          cases r2
          obtain ⟨z, _⟩ := flatReads _ _ _ fl r1
          subst z
          exact PyProof.Rows.Reads.keeps kp r1
      -- the same members
      have on : (uniqD xs).Nodup := by
        refine (strictPw w4).1.imp fun {a b} z e => ?_
        rw [e] at z
        rw [z.1] at z
        exact absurd z.2 (by simp)
      have Ln : (L.map (·.2)).Nodup := N.nd
      have kn : ((uniqD xs).map nkey).Nodup := by
        refine List.pairwise_map.mpr (on.imp_of_mem fun {a b} ha hb z e => z ?_)
        exact keyInj (keyAt (w2 a ha)).2.1 (keyAt (w2 b hb)).2.1 e
      have pk : (L.map (·.2)).Perm ((uniqD xs).map nkey) := by
        refine (List.perm_ext_iff_of_nodup Ln kn).mpr fun k => ⟨fun hk => ?_, fun hk => ?_⟩
        · obtain ⟨e, he, rfl⟩ := List.mem_map.mp hk
          obtain ⟨i, x, h1, h2, _⟩ := row e he
          rw [← h2]
          exact w6 x (List.mem_of_getElem? h1)
        · obtain ⟨x, hx, rfl⟩ := List.mem_map.mp hk
          have := w7 x hx
          rw [← e2] at this
          obtain ⟨e, he, ee⟩ := List.mem_map.mp this
          rw [← ee]
          exact g.all e (by rw [List.take_length]; exact he)
      have pd : (L.map fun e => e.2.data).Perm (uniqD xs) := by
        have := pk.map NestedKey.data
        rw [List.map_map, List.map_map] at this
        have id_ : (uniqD xs).map (NestedKey.data ∘ nkey) = uniqD xs := by
          exact (List.map_congr_left (f := NestedKey.data ∘ nkey) (g := id) fun x hx => keyData x (keyAt (w2 x hx)).2.1).trans (List.map_id _)
        rw [id_] at this
        exact this
      refine nsorted (s := { s1 with heap := h', toks := tk }) (R := fun u d => ∃ v, RelV v u ∧ Rp X.K Hz v d) N (I2.ok.hd hc) w4 pd w5 (fun d hd => (keyAt (w2 d hd)).1) hRe reads (fun d hd => ?_) fun s' p out cc k gg oo hp hg' oe => ?_
      · have h4 := SeqAt.depth_of_shaped (keyAt (w2 d hd)).2.2.2
        have := hr.un
        omega
      · obtain ⟨ws, v1, v2⟩ := of_each oe
        have hn : H1 p = none := I2.hok.fresh hp
        have hlen : ws.length ≤ sizeLine := by
          rw [daLen v2, ← pd.length_eq, List.length_map, sizeLine_eq]
          have := N.fw
          omega
        have J : Inv X pins σ (upd H1 p (.lst ws)) { ({ s1 with heap := h', toks := tk } : Shared) with heap := s'.heap, gens := s'.gens, drawn := s'.drawn, toks := s'.toks } :=
          I2.call (ch := []) (Un.laid k hp hn) (I2.hok.laid k hp ⟨hlen, out, cc, v1, hg'⟩) (by rw [gg]; exact I2.bare) (fun _ z => nomatch z)
        have es : s' = { s1 with heap := s'.heap, gens := s'.gens, drawn := s'.drawn, toks := s'.toks } := by
          cases s'
          cases s1
          cases oo
          rfl
        rw [es]
        exact ⟨.ref p, _, J, rfl, made c qq hn (rpLst c hn v2)⟩
    · cases ed
theorem pe_sset {n : Nat} {e : Expr} {te : TE} {p p2 q pos : Pos} (hr : Room n X.A) (hc : X.calm = true) (hg : Gl X "sorted") (hm : X.mg "sorted" = none) (hg2 : Gl X "set") (hm2 : X.mg "set" = none) (ha : PE X e te) (ns : noStar e = true) :
    PE X (.Call (.Name "sorted" p) [.Call (.Name "set" p2) [e] [] q] [] pos) (tCB (rB1 X.K (b1D .sset)) (tCons te tNil)) := by
  refine ⟨fun pins s σ H Q I h => ?_⟩
  refine Call_ (ld_blt I hg hm PyProof.Rows.boot_sorted ?_)
  refine PyProof.Rows.callWith_builtin1 (PyProof.Rows.args_cons ?_ rfl) rfl rfl
  refine Call_ (ld_blt I hg2 hm2 PyProof.Rows.boot_set ?_)
  refine PyProof.Rows.callWith_type1 (PyProof.Rows.args_cons (thn (ha.run pins s σ H _ I h) fun v s1 ⟨x, H1, I1, r1, q1⟩ => PyProof.Rows.args_nil ?_) (starOne ns _ _)) (starOne ns _ _) rfl
  obtain ⟨ks, m, Hz, a, d, v', e', c, ra, ed, qq⟩ := q1
  obtain rfl : x = v' := by injection e'
  cases a with
  | list xs =>
    obtain ⟨l, vs, rfl, hl, hd⟩ := dpLst ra
    cases r1
    obtain ⟨its, rv, pl, hz⟩ := I1.list (SqL.of (c.zh _ _ hl))
    exact thn (sset_go hr hc I1 c hd rv (.inl pl.isList) ed qq rfl) fun u s2 z => PyProof.Rows.args_nil z
  | tuple xs =>
    obtain ⟨l, vs, rfl, hl, hd⟩ := dpTup ra
    cases r1
    obtain ⟨its, rv, pl, hz⟩ := I1.tuple (c.sqT hl)
    exact thn (sset_go hr hc I1 c hd rv (.inr pl) ed qq rfl) fun u s2 z => PyProof.Rows.args_nil z
  | _ => cases ed
end
end Mp

set_option Elab.async false
set_option linter.all false
set_option maxRecDepth 100000
set_option maxHeartbeats 1000000
namespace Mp
open PySem PySem.Spec PyProof.Rows L2
/-! ### what a walk gives -/
structure Wlk (K : PySem.W.Frag) (J : It) (xs : List MV) (Hz0 : Hp) : Prop where
  len : xs.length ≤ sizeLine
  go : ∀ i H, i < xs.length → Same Hz0 H → J.go i H
  stop : ∀ i H, i = xs.length → Same Hz0 H → J.stop i H
  yld : ∀ i H x H' ks m Hz mv, CR K ks m Hz H → Same Hz0 Hz → J.yld i H x H' → xs[i]? = some mv → ∃ Hz', Ext ks Hz H ks Hz' H' ∧ CR K ks m Hz' H' ∧ VR K ks Hz' x mv
abbrev tI (K : PySem.W.Frag) (W : WX) (ev : Ev (List MV)) : TI := tR K (fun _ Hz _ J xs => Wlk K J xs Hz) W ev
theorem wlkL {K : PySem.W.Frag} {a : Addr} {vs : List V} {ds : List D} {Hz : Hp} (h : Hz a = some (.lst vs)) (r : RpAll K Hz vs ds) (hl : vs.length ≤ sizeLine) : Wlk K (Itl K a) (ds.map .d) Hz where
  len := by rw [List.length_map, ← daLen r]; exact hl
  go := fun i H hi s => by
    rw [List.length_map, ← daLen r] at hi
    exact ⟨vs, vs[i], SqL.of (s _ _ h), List.getElem?_eq_getElem hi⟩
  stop := fun i H hi0 s => have hi := Nat.le_of_eq hi0.symm; ⟨vs, SqL.of (s _ _ h), by rw [List.length_map, ← daLen r] at hi; exact hi⟩
  yld := fun i H x H' ks m Hz1 mv c s y e => by
    obtain ⟨rfl, y⟩ := y
    have hx := y vs (SqL.of (c.zh _ _ (s _ _ h)))
    obtain ⟨d, h1, h2⟩ := daGet r hx
    rw [List.getElem?_map, h1] at e
    cases e
    exact ⟨Hz1, Ext.refl _ _ _, c, .d (dpUp s _ _ h2)⟩
theorem wlkT {K : PySem.W.Frag} {a : Addr} {vs : List V} {ds : List D} {Hz : Hp} (h : SqT K Hz a vs) (r : RpAll K Hz vs ds) (hl : vs.length ≤ sizeLine) : Wlk K (Itt K a) (ds.map .d) Hz where
  len := by rw [List.length_map, ← daLen r]; exact hl
  go := fun i H hi s => by
    rw [List.length_map, ← daLen r] at hi
    exact ⟨vs, vs[i], seqT s h, List.getElem?_eq_getElem hi⟩
  stop := fun i H hi0 s => have hi := Nat.le_of_eq hi0.symm; ⟨vs, seqT s h, by rw [List.length_map, ← daLen r] at hi; exact hi⟩
  yld := fun i H x H' ks m Hz1 mv c s y e => by
    obtain ⟨rfl, y⟩ := y
    have hx := y vs (c.sqT (seqT s h))
    obtain ⟨d, h1, h2⟩ := daGet r hx
    rw [List.getElem?_map, h1] at e
    cases e
    exact ⟨Hz1, Ext.refl _ _ _, c, .d (dpUp s _ _ h2)⟩
theorem wlkR {K : PySem.W.Frag} {lo hi : Int} {Hz : Hp} (hl : (hi - lo).toNat ≤ sizeLine) : Wlk K (Itr lo (hi - lo).toNat) ((rangeD lo hi).map .d) Hz where
  len := by simp only [rangeD, List.length_map, List.length_range]; exact hl
  go := fun i H h s => by
    simp only [rangeD, List.length_map, List.length_range] at h
    exact h
  stop := fun i H h0 s => by
    have h := Nat.le_of_eq h0.symm
    simp only [rangeD, List.length_map, List.length_range] at h
    exact h
  yld := fun i H x H' ks m Hz1 mv c s y e => by
    obtain ⟨rfl, rfl⟩ := y
    simp only [rangeD, List.getElem?_map] at e
    cases q : (List.range (hi - lo).toNat)[i]? with
    | none => rw [q] at e; cases e
    | some j =>
      rw [q] at e
      cases e
      obtain ⟨h1, h2⟩ := List.getElem?_eq_some_iff.mp q
      rw [List.getElem_range] at h2
      subst h2
      exact ⟨Hz1, Ext.refl _ _ _, c, .d (.int _)⟩
theorem enumGet : ∀ (xs : List D) (k i : Nat) (d : D), xs[i]? = some d → (enumD k xs)[i]? = some (.tuple [.int ((k + i : Nat) : Int), d])
  | [], k, i, d, e => by simp at e
  | x :: xs, k, 0, d, e => by simp at e; subst e; simp [enumD]
  | x :: xs, k, i + 1, d, e => by
    simp only [enumD, List.getElem?_cons_succ] at e ⊢
    rw [enumGet xs (k + 1) i d e]
    have : k + 1 + i = k + (i + 1) := by omega
    rw [this]
theorem enumLen : ∀ (xs : List D) (k : Nat), (enumD k xs).length = xs.length
  | [], _ => rfl
  | _ :: xs, k => by simp [enumD, enumLen xs]
theorem zipLen : ∀ (xs ys : List D), (zipD xs ys).length = min xs.length ys.length
  | [], _ => by simp [zipD]
  | _ :: _, [] => by simp [zipD]
  | x :: xs, y :: ys => by simp [zipD, zipLen xs ys]
theorem zipGet : ∀ (xs ys : List D) (i : Nat) (mv : D), (zipD xs ys)[i]? = some mv → ∃ x y, xs[i]? = some x ∧ ys[i]? = some y ∧ mv = .tuple [x, y]
  | [], _, _, _, e => by simp [zipD] at e
  | _ :: _, [], _, _, e => by simp [zipD] at e
  | x :: xs, y :: ys, 0, mv, e => by simp [zipD] at e; exact ⟨x, y, rfl, rfl, e.symm⟩
  | x :: xs, y :: ys, i + 1, mv, e => by simp [zipD] at e; simpa using zipGet xs ys i mv e
theorem wlkE {K : PySem.W.Frag} {a : Addr} {vs : List V} {ds : List D} {Hz : Hp} (h : Hz a = some (.lst vs)) (r : RpAll K Hz vs ds) (hl : vs.length ≤ sizeLine) : Wlk K (Ite K a) ((enumD 0 ds).map .d) Hz where
  len := by rw [List.length_map, enumLen, ← daLen r]; exact hl
  go := fun i H hi s => by
    rw [List.length_map, enumLen, ← daLen r] at hi
    exact ⟨vs, vs[i], SqL.of (s _ _ h), List.getElem?_eq_getElem hi⟩
  stop := fun i H hi0 s => have hi := Nat.le_of_eq hi0.symm; ⟨vs, SqL.of (s _ _ h), by rw [List.length_map, enumLen, ← daLen r] at hi; exact hi⟩
  yld := fun i H x H' ks m Hz1 mv c s y e => by
    obtain ⟨T, x0, rfl, n, rfl, y⟩ := y
    have hx := y vs (SqL.of (c.zh _ _ (s _ _ h)))
    obtain ⟨d, h1, h2⟩ := daGet r hx
    rw [List.getElem?_map, enumGet _ _ _ _ h1] at e
    cases e
    refine ⟨_, Ext.new c n _, c.new n _, .d (rpTup c n (.cons ?_ (.cons (dpUp s _ _ h2) .nil)))⟩
    rw [Nat.zero_add]
    exact .int _
theorem wlkZ {K : PySem.W.Frag} {a b : Addr} {vs ws : List V} {ds es : List D} {Hz : Hp} (h : Hz a = some (.lst vs)) (h' : Hz b = some (.lst ws)) (r : RpAll K Hz vs ds) (r' : RpAll K Hz ws es) (hl : vs.length ≤ sizeLine) : Wlk K (Itz K a b) ((zipD ds es).map .d) Hz where
  len := by rw [List.length_map, zipLen, ← daLen r]; omega
  go := fun i H hi s => by
    rw [List.length_map, zipLen, ← daLen r, ← daLen r'] at hi
    exact ⟨vs, ws, vs[i], ws[i], SqL.of (s _ _ h), SqL.of (s _ _ h'), List.getElem?_eq_getElem (by omega), List.getElem?_eq_getElem (by omega)⟩
  stop := fun i H hi0 s => by
    have hi := Nat.le_of_eq hi0.symm
    rw [List.length_map, zipLen, ← daLen r, ← daLen r'] at hi
    exact ⟨vs, ws, SqL.of (s _ _ h), SqL.of (s _ _ h'), by omega⟩
  yld := fun i H x H' ks m Hz1 mv c s y e => by
    obtain ⟨T, x0, y0, rfl, n, rfl, y1, y2⟩ := y
    rw [List.getElem?_map] at e
    cases q : (zipD ds es)[i]? with
    | none => rw [q] at e; cases e
    | some z =>
      rw [q] at e
      cases e
      obtain ⟨d1, d2, e1, e2, rfl⟩ := zipGet _ _ _ _ q
      obtain ⟨d, h1, h2⟩ := daGet r (y1 vs (SqL.of (c.zh _ _ (s _ _ h))))
      obtain ⟨d', h3, h4⟩ := daGet r' (y2 ws (SqL.of (c.zh _ _ (s _ _ h'))))
      rw [e1] at h1; cases h1
      rw [e2] at h3; cases h3
      exact ⟨_, Ext.new c n _, c.new n _, .d (rpTup c n (.cons (dpUp s _ _ h2) (.cons (dpUp s _ _ h4) .nil)))⟩
theorem wlkZT {K : PySem.W.Frag} {a b : Addr} {vs ws : List V} {ds es : List D} {Hz : Hp} (h : SqT K Hz a vs) (h' : SqT K Hz b ws) (r : RpAll K Hz vs ds) (r' : RpAll K Hz ws es) (hl : vs.length ≤ sizeLine) : Wlk K (RZ.ItzT K a b) ((zipD ds es).map .d) Hz where
  len := by rw [List.length_map, zipLen, ← daLen r]; omega
  go := fun i H hi s => by
    rw [List.length_map, zipLen, ← daLen r, ← daLen r'] at hi
    exact ⟨vs, ws, vs[i], ws[i], seqT s h, seqT s h', List.getElem?_eq_getElem (by omega), List.getElem?_eq_getElem (by omega)⟩
  stop := fun i H hi0 s => by
    have hi := Nat.le_of_eq hi0.symm
    rw [List.length_map, zipLen, ← daLen r, ← daLen r'] at hi
    exact ⟨vs, ws, seqT s h, seqT s h', by omega⟩
  yld := fun i H x H' ks m Hz1 mv c s y e => by
    obtain ⟨T, x0, y0, rfl, n, rfl, y1, y2⟩ := y
    rw [List.getElem?_map] at e
    cases q : (zipD ds es)[i]? with
    | none => rw [q] at e; cases e
    | some z =>
      rw [q] at e
      cases e
      obtain ⟨d1, d2, e1, e2, rfl⟩ := zipGet _ _ _ _ q
      obtain ⟨d, h1, h2⟩ := daGet r (y1 vs (c.sqT (seqT s h)))
      obtain ⟨d', h3, h4⟩ := daGet r' (y2 ws (c.sqT (seqT s h')))
      rw [e1] at h1; cases h1
      rw [e2] at h3; cases h3
      exact ⟨_, Ext.new c n _, c.new n _, .d (rpTup c n (.cons (dpUp s _ _ h2) (.cons (dpUp s _ _ h4) .nil)))⟩

/-! ### targets -/
def tLenT : CTs → Nat
  | .nil => 0
  | .cons _ ts => tLenT ts + 1
/-- a, b, .. = a tuple or a list of that length -/
def gSeq (K : PySem.W.Frag) (n : Nat) (t : TGs) : TG := fun v σ H Q => ∃ a xs, v = .ref a ∧ (SqT K H a xs ∨ SqL K H a xs) ∧ xs.length = n ∧ t xs σ H Q
theorem pg_seq {X : Cx} {pos : Pos} {es : List Expr} {k : Nat} {t : TGs} {n : Nat} (hc : X.calm = true) (h : PGs X es t) (hn : (assignEach es X.env).length = n) (hst : (assignEach es X.env).findIdx? (·.1) = none) : PG X (.Tuple es k pos) (gSeq X.K n t) := by
  refine ⟨fun pins s σ H v u Q I r q => ?_⟩
  obtain ⟨a, xs, e, hs, hl, q⟩ := q
  rcases hs with hs | hs
  · exact (pg_tup hc h hn hst).run pins s σ H v u Q I r ⟨a, xs, e, hs, hl, q⟩
  · exact (pg_lst hc h hn hst).run pins s σ H v u Q I r ⟨a, xs, e, hs, hl, q⟩
mutual
def gT (K : PySem.W.Frag) : CT → TG
  | .nm i => gName i
  | .tp ts => gSeq K (tLenT ts) (gTs K ts)
def gTs (K : PySem.W.Frag) : CTs → TGs
  | .nil => gNil
  | .cons t ts => gCons (gT K t) (gTs K ts)
end
/-- slots outside of os are as they were -/
def OutS (os : List Nat) (σ σ' : L2.St) : Prop := σ'.length = σ.length ∧ ∀ j, j ∉ os → σ'[j]? = σ[j]?
theorem OutS.refl (os : List Nat) (σ : L2.St) : OutS os σ σ := ⟨rfl, fun _ _ => rfl⟩
theorem OutS.trans {os : List Nat} {a b c : L2.St} (h : OutS os a b) (g : OutS os b c) : OutS os a c := ⟨g.1.trans h.1, fun j hj => (g.2 j hj).trans (h.2 j hj)⟩
theorem erSet {K : PySem.W.Frag} {ks : List Addr} {Hz H : Hp} {r : Env'} {σ : L2.St} {i : Nat} {v : V} {x : MV} (e : ER K ks Hz H r σ) (hi : i < r.length) (rv : VR K ks Hz v x) : ER K ks Hz H (r.set i (.v x)) (σ.set i (some v)) where
  len := by simp [e.len]
  at_ := fun j s h => by
    by_cases q : i = j
    · subst q
      rw [List.getElem?_set_self hi] at h
      cases h
      rw [List.getElem?_set_self (by rw [← e.len]; exact hi)]
      exact .v rv
    · rw [List.getElem?_set_ne q] at h ⊢
      exact e.at_ j s h
  ds := fun j k xs ys hjk h1 h2 => by
    by_cases q : i = j
    · subst q; rw [List.getElem?_set_self hi] at h1; cases h1
    · by_cases q2 : i = k
      · subst q2; rw [List.getElem?_set_self hi] at h2; cases h2
      · rw [List.getElem?_set_ne q] at h1 ⊢
        rw [List.getElem?_set_ne q2] at h2 ⊢
        exact e.ds j k xs ys hjk h1 h2
mutual
theorem rdT {K : PySem.W.Frag} {ks : List Addr} {m : Mem} {Hz H : Hp} (c : CR K ks m Hz H) (ok : Nat → Bool) (P : Env' → L2.St → Prop) (hP : ∀ r σ i x v, ok i = true → P r σ → P (r.set i (.v x)) (σ.set i (some v))) : ∀ (t : CT) (mv : MV) (r r' : Env') (σ : L2.St) (v : V) (Q : L2.St → Hp → Prop), tIn ok t = true → tgt t mv r = some r' → VR K ks Hz v mv → ER K ks Hz H r σ → P r σ →
    (∀ σ', ER K ks Hz H r' σ' → P r' σ' → Q σ' H) → gT K t v σ H Q
  | .nm i, mv, r, r', σ, v, Q, ho, e, rv, er, pp, h => by
    simp only [tgt] at e
    split at e
    · rename_i hi
      cases e
      exact h _ (erSet er hi rv) (hP _ _ _ _ _ ho pp)
    · cases e
  | .tp ts, mv, r, r', σ, v, Q, ho, e, rv, er, pp, h => by
    cases mv with
    | d x =>
      cases x with
      | tuple xs =>
        simp only [tgt] at e
        obtain ⟨a, vs, rfl, s, d⟩ := dpTup rv.rp
        refine ⟨a, vs, rfl, .inl (c.sqT s), ?_, rdTs c ok P hP ts xs r r' σ vs Q (by simpa [tIn] using ho) e d er pp h⟩
        rw [daLen d]
        exact tgtsLen ts xs r r' e
      | list xs =>
        simp only [tgt] at e
        obtain ⟨a, vs, rfl, s, d⟩ := dpLst rv.rp
        refine ⟨a, vs, rfl, .inr (SqL.of (c.zh _ _ s)), ?_, rdTs c ok P hP ts xs r r' σ vs Q (by simpa [tIn] using ho) e d er pp h⟩
        rw [daLen d]
        exact tgtsLen ts xs r r' e
      | _ => simp [tgt] at e
    | _ => simp [tgt] at e
theorem rdTs {K : PySem.W.Frag} {ks : List Addr} {m : Mem} {Hz H : Hp} (c : CR K ks m Hz H) (ok : Nat → Bool) (P : Env' → L2.St → Prop) (hP : ∀ r σ i x v, ok i = true → P r σ → P (r.set i (.v x)) (σ.set i (some v))) : ∀ (ts : CTs) (xs : List D) (r r' : Env') (σ : L2.St) (vs : List V) (Q : L2.St → Hp → Prop), tsIn ok ts = true → tgts ts xs r = some r' → RpAll K Hz vs xs → ER K ks Hz H r σ → P r σ →
    (∀ σ', ER K ks Hz H r' σ' → P r' σ' → Q σ' H) → gTs K ts vs σ H Q
  | .nil, [], r, r', σ, vs, Q, ho, e, d, er, pp, h => by
    cases d
    simp only [tgts] at e
    cases e
    exact ⟨rfl, h σ er pp⟩
  | .nil, _ :: _, r, r', σ, vs, Q, ho, e, d, er, pp, h => by simp [tgts] at e
  | .cons t ts, [], r, r', σ, vs, Q, ho, e, d, er, pp, h => by simp [tgts] at e
  | .cons t ts, x :: xs, r, r', σ, vs, Q, ho, e, d, er, pp, h => by
    simp only [tgts, Option.bind_eq_some_iff] at e
    obtain ⟨r1, e1, e2⟩ := e
    simp only [tsIn, Bool.and_eq_true] at ho
    cases d with
    | cons d1 d2 =>
      refine ⟨_, _, rfl, rdT c ok P hP t (.d x) r r1 σ _ _ ho.1 e1 (.d d1) er pp fun σ1 er1 pp1 => ?_⟩
      exact rdTs c ok P hP ts xs r1 r' σ1 _ Q ho.2 e2 d2 er1 pp1 h
theorem tgtsLen : ∀ (ts : CTs) (xs : List D) (r r' : Env'), tgts ts xs r = some r' → xs.length = tLenT ts
  | .nil, [], _, _, _ => rfl
  | .nil, _ :: _, _, _, e => by simp [tgts] at e
  | .cons t ts, [], _, _, e => by simp [tgts] at e
  | .cons t ts, x :: xs, r, r', e => by
    simp only [tgts, Option.bind_eq_some_iff] at e
    obtain ⟨r1, e1, e2⟩ := e
    simp [tLenT, tgtsLen ts xs r1 r' e2]
end
theorem wipeAt (σ : L2.St) : ∀ (vs : List Nat) (j : Nat), (wipe σ vs)[j]? = if j ∈ vs then (σ[j]?).map (fun _ => none) else σ[j]?
  | [], j => by simp [wipe]
  | v :: vs, j => by
    unfold wipe
    by_cases q : v = j
    · subst q
      rw [List.getElem?_set]
      simp only [List.mem_cons, true_or, if_true, wipe_length]
      by_cases hl : v < σ.length
      · simp [hl, List.getElem?_eq_getElem hl]
      · have : σ[v]? = none := by simp; omega
        simp [hl, this]
    · rw [List.getElem?_set_ne q, wipeAt σ vs j]
      have : (j ∈ v :: vs) ↔ j ∈ vs := by simp [Ne.symm q]
      simp only [this]
theorem wipeEAt (r : Env') : ∀ (vs : List Nat) (j : Nat), (wipeE r vs)[j]? = if j ∈ vs then (r[j]?).map (fun _ => .un) else r[j]?
  | [], j => by simp [wipeE]
  | v :: vs, j => by
    unfold wipeE
    have hl : ∀ us : List Nat, (wipeE r us).length = r.length := fun us => by
      induction us with
      | nil => rfl
      | cons a b ih => simp [wipeE, ih]
    by_cases q : v = j
    · subst q
      rw [List.getElem?_set]
      simp only [List.mem_cons, true_or, if_true, hl]
      by_cases hl : v < r.length
      · simp [hl, List.getElem?_eq_getElem hl]
      · have : r[v]? = none := by simp; omega
        simp [hl, this]
    · rw [List.getElem?_set_ne q, wipeEAt r vs j]
      have : (j ∈ v :: vs) ↔ j ∈ vs := by simp [Ne.symm q]
      simp only [this]
theorem wipeELen (r : Env') : ∀ us : List Nat, (wipeE r us).length = r.length
  | [] => rfl
  | a :: b => by simp [wipeE, wipeELen r b]
theorem erWipe {K : PySem.W.Frag} {ks : List Addr} {Hz H : Hp} {r : Env'} {σ : L2.St} (e : ER K ks Hz H r σ) (vs : List Nat) : ER K ks Hz H (wipeE r vs) (wipe σ vs) where
  len := by rw [wipeELen, wipe_length]; exact e.len
  at_ := fun j s h => by
    rw [wipeEAt] at h
    rw [wipeAt]
    split at h
    · rename_i hj
      simp only [Option.map_eq_some_iff] at h
      obtain ⟨_, _, rfl⟩ := h
      exact .un _
    · rename_i hj
      rw [if_neg hj]
      exact e.at_ j s h
  ds := fun j k xs ys hjk h1 h2 => by
    rw [wipeEAt] at h1 h2
    split at h1
    · simp only [Option.map_eq_some_iff] at h1
      obtain ⟨_, _, z⟩ := h1
      cases z
    · split at h2
      · simp only [Option.map_eq_some_iff] at h2
        obtain ⟨_, _, z⟩ := h2
        cases z
      · rename_i q1 q2
        rw [wipeAt, wipeAt, if_neg q1, if_neg q2]
        exact e.ds j k xs ys hjk h1 h2
theorem wipeSame {σ σ' : L2.St} {vs : List Nat} (h : OutS vs σ σ') : wipe σ' vs = wipe σ vs := by
  apply List.ext_getElem?
  intro j
  rw [wipeAt, wipeAt]
  split
  · by_cases q : j < σ.length
    · simp [List.getElem?_eq_getElem q, List.getElem?_eq_getElem (show j < σ'.length by rw [h.1]; exact q)]
    · have e1 : σ[j]? = none := by simp; omega
      have e2 : σ'[j]? = none := by simp [h.1]; omega
      rw [e1, e2]
  · exact h.2 j (by assumption)
theorem wipeTwice (σ : L2.St) (vs : List Nat) : wipe (wipe σ vs) vs = wipe σ vs := by
  apply List.ext_getElem?
  intro j
  rw [wipeAt, wipeAt]
  split
  · cases σ[j]? <;> rfl
  · rfl

/-! ### a list comprehension -/
theorem noEx_ok {α : Type} {r : Res α} {a : α} {m : Mem} (h : noEx r = .ok a m) : r = .ok a m := by
  cases r with
  | ok b m' => exact h
  | _ => cases h
def pick (o : Option D) (r : List D) : List D := match o with
  | some d => d :: r
  | none => r
theorem mapM'_cons (f : MV → Mem → Res (Option D)) (x : MV) (xs : List MV) (m : Mem) : mapM' f (x :: xs) m = (noEx (f x m)).bind fun o m1 => (mapM' f xs m1).bind fun r m2 => .ok (pick o r) m2 := by
  simp only [mapM']
  rfl
theorem Res.bind_assoc {α β γ : Type} (r : Res α) (f : α → Mem → Res β) (g : β → Mem → Res γ) : (r.bind f).bind g = r.bind fun a m => (f a m).bind g := by
  cases r <;> rfl
abbrev Wf : WX := fun _ _ _ _ => False
theorem aftNo {α β : Type} {K : PySem.W.Frag} {R : List Addr → Hp → Hp → β → α → Prop} {W : WX} {ks : List Addr} {Hz H : Hp} {σ : L2.St} {Q : β → Hp → Prop} {r : Res α} (h : Aft K R Wf ks Hz H σ Q r) : Aft K R W ks Hz H σ Q r := by
  cases r with
  | ok a m => exact h
  | ex c x m => exact fun k z h' d e cc xr => (h k z h' d e cc xr).elim
  | bad => exact h
/-- what one turn does: a test, an element -/
def turnE (ec ee : Ev MV) (r1 : Env') (m : Mem) : Res (Option D) := (ec r1 m).bind fun b m2 => (match b with
  | .d (.bool true) => (ee r1 m2).bind fun y m3 => (match y with
    | .d y => .ok (some y) m3
    | _ => .bad)
  | .d (.bool false) => .ok none m2
  | _ => .bad)
def turnT (t : CT) (ec ee : Ev MV) (r0 : Env') (x : MV) (m : Mem) : Res (Option D) := match tgt t x r0 with
  | some r1 => turnE ec ee r1 m
  | none => .bad
def compE (ei : Ev (List MV)) (t : CT) (ec ee : Ev MV) (vs : List Nat) : Ev MV := fun r m => (ei r m).bind fun xs m1 => (mapM' (turnT t ec ee (wipeE r vs)) xs m1).bind fun ys m2 => .ok (.d (.list ys)) m2
def compL (ei : Ev (List MV)) (t : CT) (ec ee : Ev MV) (vs : List Nat) : Ev (List D) := fun r m => (ei r m).bind fun xs m1 => mapM' (turnT t ec ee (wipeE r vs)) xs m1
/-- a list that has just been made and that nobody else holds -/
def RF (K : PySem.W.Frag) (ks0 : List Addr) (H0 : Hp) : List Addr → Hp → Hp → V → List D → Prop := fun ks Hz H v xs => ∃ p vs, v = .ref p ∧ H p = some (.lst vs) ∧ RpAll K Hz vs xs ∧ Hz p = none ∧ p ∉ ks ∧ H0 p = none
/-- the wish for such a list -/
def AftF (K : PySem.W.Frag) (W : WX) (ks : List Addr) (Hz H : Hp) (σ : L2.St) (Q : V → Hp → Prop) (r : Res (List D)) : Prop := Aft K (RF K ks H) W ks Hz H σ Q r
def tF (K : PySem.W.Frag) (W : WX) (ev : Ev (List D)) : TE := fun σ H Q => ∃ ks m Hz r, CR K ks m Hz H ∧ ER K ks Hz H r σ ∧ AftF K W ks Hz H σ Q (ev r m)
theorem rdComp {K : PySem.W.Frag} {W : WX} {ei : Ev (List MV)} {t : CT} {ec ee : Ev MV} {vs : List Nat} (ho : tIn vs.contains t = true) {σ : L2.St} {H : Hp} {Q : VK} (h : tF K W (compL ei t ec ee vs) σ H Q) :
    tLc (tI K W ei) (gT K t) (tB' K Wf (evT ec)) (tE K Wf ee) vs σ H Q := by
  obtain ⟨ks0, m0, Hz0, r, c0, e0, a0⟩ := h
  refine ⟨ks0, m0, Hz0, r, c0, e0, ?_⟩
  unfold AftF compL at a0
  cases hi : ei r m0 with
  | bad => rw [hi] at a0; exact a0.elim
  | ex c x m1 => rw [hi] at a0; exact a0
  | ok xs m1 =>
    rw [hi] at a0
    simp only [Res.bind_ok] at a0
    intro ks1 Hz1 H1 J x1 c1 w DD nD
    have nz1 : Hz1 DD = none := c1.znone nD
    have n0 : H DD = none := by
      cases q : H DD with
      | none => rfl
      | some o =>
        by_cases hk : DD ∈ ks0
        · obtain ⟨t', rfl⟩ := x1.pre
          exact absurd nD (c1.tr (List.mem_append_left _ hk))
        · rw [x1.fr _ _ q hk] at nD; cases nD
    let f := turnT t ec ee (wipeE r vs)
    -- the word
    let Wd : Nat → Nat → Hp → Prop := fun i n H' => n = xs.length - i ∧ i ≤ xs.length ∧ ∃ ks' m' Hz' us acc, Ext ks0 Hz0 H ks' Hz' H' ∧ CR K ks' m' Hz' H' ∧ Same Hz1 Hz' ∧
      H' DD = some (.lst us) ∧ RpAll K Hz' us acc ∧ Hz' DD = none ∧ DD ∉ ks' ∧ us.length ≤ i ∧ Aft K (RF K ks0 H) W ks0 Hz0 H σ Q ((mapM' f (xs.drop i) m').bind fun ys m2 => .ok (acc ++ ys) m2)
    refine ⟨Wd, ⟨xs.length, by simp, Nat.zero_le _, ks1, m1, Hz1, [], [], x1.trans (Ext.fresh nD _), c1.fresh nD _, Same.refl _, upd_same, .nil, nz1, c1.nin nD, Nat.le_refl _, ?_⟩, ?_⟩
    · simp only [List.drop_zero, List.nil_append]
      have : ((mapM' f xs m1).bind fun ys m2 => .ok ys m2) = mapM' f xs m1 := by cases mapM' f xs m1 <;> rfl
      rw [this]
      exact a0
    · rintro i n H' ⟨hn, hle, ks', m', Hz', us, acc, x', c', s', hD, hacc, nzD, nkD, hlen, a'⟩
      have e' := erWipe (e0.up x') vs
      have sH : Same Hz1 H' := s'.trans c'.zh
      by_cases hlt : i < xs.length
      · refine .inr ⟨w.go i H' hlt sH, fun H2 => ∃ n', n' < n ∧ Wd (i + 1) n' H2, fun H2 z => z, fun x H2 y => ?_⟩
        have hx : xs[i]? = some xs[i] := List.getElem?_eq_getElem hlt
        obtain ⟨Hz2, x2, c2, rx⟩ := w.yld i H' x H2 ks' m' Hz' xs[i] c' s' y hx
        rw [List.drop_eq_getElem_cons hlt, mapM'_cons, Res.bind_assoc] at a'
        have e2 := e'.up x2
        -- the target
        cases ht : tgt t xs[i] (wipeE r vs) with
        | none =>
          have : f xs[i] m' = .bad := by simp only [f, turnT, ht]
          rw [this] at a'
          exact a'.elim
        | some r1 =>
          have hf : f xs[i] m' = turnE ec ee r1 m' := by simp only [f, turnT, ht]
          rw [hf] at a'
          refine rdT c2 vs.contains (fun _ σ' => OutS vs (wipe σ vs) σ') (fun r σ' i x v hi p => p.trans ⟨by simp, fun j hj => List.getElem?_set_ne (fun z => hj (by rw [← z]; simpa using hi))⟩) t xs[i] _ r1 _ x _ ho ht rx e2 (OutS.refl _ _) fun σ2 er2 o2 => ⟨(wipeSame o2).trans (wipeTwice σ vs), ?_⟩
          have x02 := x'.trans x2
          have hD2 : H2 DD = some (.lst us) := x2.fr _ _ hD nkD
          -- the test
          unfold turnE at a'
          cases hc : ec r1 m' with
          | bad => rw [hc] at a'; exact a'.elim
          | ex c x m2 => rw [hc] at a'; exact a'.elim
          | ok b m2 =>
            rw [hc] at a'
            simp only [Res.bind_ok] at a'
            refine ⟨ks', m', Hz2, r1, c2, er2, ?_⟩
            unfold evT
            rw [hc]
            simp only [Res.bind_ok]
            cases b with
            | d b =>
              cases b with
              | bool b =>
                intro ks3 Hz3 H3 b' x3 c3 hb
                have hb' : b' = b := hb
                subst hb'
                have x03 := x02.trans x3
                have hD3 : H3 DD = some (.lst us) := x3.fr _ _ hD2 nkD
                have nk3 : DD ∉ ks3 := fun z => (x3.nw _ z).elim nkD fun q => by rw [hD2] at q; cases q
                have nz2 : Hz2 DD = none := by
                  cases q : Hz2 DD with
                  | none => rfl
                  | some o => rcases x2.nz _ _ q with z | z | z
                              · rw [nzD] at z; cases z
                              · rw [hD] at z; cases z
                              · exact (nkD z).elim
                have nz3 : Hz3 DD = none := by
                  cases q : Hz3 DD with
                  | none => rfl
                  | some o => rcases x3.nz _ _ q with z | z | z
                              · rw [nz2] at z; cases z
                              · rw [hD2] at z; cases z
                              · exact (nkD z).elim
                have er3 := er2.up x3
                cases b' with
                | false =>
                  simp only [noEx, Res.bind_ok, pick, if_false, Bool.false_eq_true] at a' ⊢
                  refine ⟨xs.length - (i + 1), by omega, rfl, hlt, ks3, m2, Hz3, us, acc, x03, c3, (s'.trans x2.zs).trans x3.zs, hD3, daUp (x2.zs.trans x3.zs) _ _ hacc, nz3, nk3, by omega, ?_⟩
                  simpa only [Res.bind_assoc, Res.bind_ok] using a'
                | true =>
                  simp only [if_true] at a' ⊢
                  cases he : ee r1 m2 with
                  | bad => rw [he] at a'; exact a'.elim
                  | ex c x m3 => rw [he] at a'; exact a'.elim
                  | ok y m3 =>
                    rw [he] at a'
                    refine ⟨ks3, m2, Hz3, r1, c3, er3, ?_⟩
                    rw [he]
                    cases y with
                    | d y =>
                      simp only [noEx, Res.bind_ok, pick] at a'
                      intro ks4 Hz4 H4 v x4 c4 rv
                      have hD4 : H4 DD = some (.lst us) := x4.fr _ _ hD3 nk3
                      have nk4 : DD ∉ ks4 := fun z => (x4.nw _ z).elim nk3 fun q => by rw [hD3] at q; cases q
                      have nz4 : Hz4 DD = none := by
                        cases q : Hz4 DD with
                        | none => rfl
                        | some o => rcases x4.nz _ _ q with z | z | z
                                    · rw [nz3] at z; cases z
                                    · rw [hD3] at z; cases z
                                    · exact (nk3 z).elim
                      have hz : us.length < sizeLine := by
                        have := w.len
                        omega
                      refine ⟨us, hD4, hz, xs.length - (i + 1), by omega, rfl, hlt, ks4, m3, Hz4, us ++ [v], acc ++ [y], ?_, ?_, (((s'.trans x2.zs).trans x3.zs).trans x4.zs), upd_same, daApp (daUp ((x2.zs.trans x3.zs).trans x4.zs) _ _ hacc) (.cons rv.rp .nil), nz4, nk4, by simp; omega, ?_⟩
                      · -- the new item is the comprehension's own
                        have x04 := x03.trans x4
                        exact ⟨x04.pre, x04.zs, fun b o q hb => by rw [upd_ne (fun z => by rw [z, n0] at q; cases q)]; exact x04.fr b o q hb, x04.nw, x04.nz⟩
                      · exact ⟨fun b u q => by rw [upd_ne (fun z => by rw [z, nz4] at q; cases q)]; exact c4.zh b u q, c4.len, c4.nd, fun k a zs h1 h2 => by
                          obtain ⟨q1, ws, q2, q3⟩ := c4.at_ k a zs h1 h2
                          exact ⟨q1, ws, by rw [upd_ne (fun z => nk4 (by rw [← z]; exact List.mem_of_getElem? h1))]; exact q2, q3⟩⟩
                      · simp only [List.append_assoc, List.singleton_append]
                        simpa only [Res.bind_assoc, Res.bind_ok] using a'
                    | _ => simp only [noEx, Res.bind_ok, Res.bind_bad] at a'; exact a'.elim
              | _ => simp only [noEx, Res.bind_bad] at a'; exact a'.elim
            | _ => simp only [noEx, Res.bind_bad] at a'; exact a'.elim
      · have hi2 : i = xs.length := by omega
        refine .inl ⟨w.stop i H' (by omega) sH, ?_⟩
        rw [hi2, List.drop_length] at a'
        simp only [mapM', Res.bind_ok, List.append_nil] at a'
        exact a' ks' Hz' H' (.ref DD) x' c' ⟨DD, us, rfl, hD, hacc, nzD, nkD, n0⟩
end Mp

set_option Elab.async false
set_option linter.all false
set_option maxRecDepth 100000
set_option maxHeartbeats 4000000
namespace Mp
open PySem PySem.Spec PyProof.Rows L2
/-! ### zip of two, each a list or a tuple -/
def SqK : Bool → PySem.W.Frag → Hp → Addr → List V → Prop
  | true => SqT
  | false => SqL
def IterK : Bool → Heap → Addr → Addr → Nat → Prop
  | true => fun h it l i => h.IsTupleIter it l i
  | false => fun h it l i => h.IsListIter it l i
def HoldK : Bool → Heap → Addr → Array Value → Prop
  | true => fun h l its => h.IsTuple l its
  | false => fun h l its => h.IsList l its
theorem drawsK (t : Bool) {prog : Program} {w : World} {A : Around} (hh : A.handled = none) (it l : Addr) (hne : l ≠ it) (its : Array Value) :
    Draws prog w A it [it, l] its.size (fun i v => its[i]? = some v) (fun i h => IterK t h it l i ∧ HoldK t h l its) := by
  cases t with
  | true => exact Draws.tuple hh it l hne its
  | false => exact Draws.list hh it l hne its
theorem IterK.over {t : Bool} {h h' : Heap} {it l : Addr} {i : Nat} (x : IterK t h it l i) (k : ∀ o, h.get? it = some o → h'.get? it = some o) : IterK t h' it l i := by
  cases t with
  | true => exact Heap.IsTupleIter.at x k
  | false => exact Heap.IsListIter.at x k
theorem IterK.ob {t : Bool} {h : Heap} {it l : Addr} {i : Nat} (x : IterK t h it l i) : ∃ o, h.get? it = some o ∧ ∀ v, o.data ≠ .cell v := by
  cases t with
  | true =>
    obtain ⟨o, e, _, q⟩ := x
    exact ⟨o, e, fun v z => by rw [q] at z; cases z⟩
  | false =>
    obtain ⟨o, e, _, q⟩ := x
    exact ⟨o, e, fun v z => by rw [q] at z; cases z⟩
theorem invK {t : Bool} {X : Cx} {pins : List (Addr × Obj)} {σ : L2.St} {H : Hp} {s : Shared} {a : Addr} {xs : List V} (I : Inv X pins σ H s) (h : SqK t X.K H a xs) :
    ∃ its : List Value, Vals xs its ∧ HoldK t s.heap a its.toArray ∧ a < s.heap.objs.size := by
  cases t with
  | true =>
    obtain ⟨its, v, p, _⟩ := I.tuple h
    obtain ⟨o, e, _⟩ := id p
    exact ⟨its, v, p, Heap.lt_size e⟩
  | false =>
    obtain ⟨its, v, p, _⟩ := I.list h
    exact ⟨its, v, p.isList, p.lt⟩
theorem injK {t : Bool} {X : Cx} {pins : List (Addr × Obj)} {σ : L2.St} {H : Hp} {s : Shared} {a : Addr} {xs ys : List V} (I : Inv X pins σ H s) (h : SqK t X.K H a xs) (h' : SqK t X.K H a ys) : xs = ys := by
  cases t with
  | true => exact I.tuple_inj h h'
  | false => exact I.list_inj h h'
/-- what such a zip gives, turn by turn -/
def ItzK (K : PySem.W.Frag) (t u : Bool) (a b : Addr) : It where
  go := fun i H => ∃ (xs ys : List V) (x y : V), SqK t K H a xs ∧ SqK u K H b ys ∧ xs[i]? = some x ∧ ys[i]? = some y
  yld := fun i H v H' => ∃ N x y, v = .ref N ∧ H N = none ∧ H' = upd H N (.tup [x, y]) ∧ (∀ xs, SqK t K H a xs → xs[i]? = some x) ∧ ∀ ys, SqK u K H b ys → ys[i]? = some y
  stop := fun i H => ∃ xs ys : List V, SqK t K H a xs ∧ SqK u K H b ys ∧ (xs.length = i ∧ i ≤ ys.length ∨ ys.length = i ∧ i ≤ xs.length)
def ZipAt (t u : Bool) (a b z TI TO p q : Addr) (i : Nat) (h : Heap) : Prop :=
  IsZip h z TI TO .none ∧ IsTupOf2 h TI (.ref p) (.ref q) ∧ (∃ x y, IsTupOf2 h TO x y) ∧ IterK t h p a i ∧ IterK u h q b i
theorem turnK {P : Program} {w : World} {K : PySem.W.Frag} {elts : List Expr} {kk : Nat} {tp : Pos} {t u : Bool} {a b z TI TO p q : Addr} (S : ZipSep2 z TI TO p q [p, a] [q, b]) (ha : a ≠ p) (hb : b ≠ q) :
    Turn P w K (.Tuple elts kk tp) (ItzK K t u a b) [z, TI, TO, p, q] z (ZipAt t u a b z TI TO p q) where
  mem := List.mem_cons_self
  obj := by
    rintro i h ⟨k1, k2, ⟨x, y, k3⟩, k4, k5⟩ c hc
    simp only [List.mem_cons, List.not_mem_nil, or_false] at hc
    rcases hc with rfl | rfl | rfl | rfl | rfl
    · exact ⟨_, k1, by intro v z; cases z⟩
    · exact ⟨_, k2, by intro v z; cases z⟩
    · exact ⟨_, k3, by intro v z; cases z⟩
    · exact k4.ob
    · exact k5.ob
  keep := by
    rintro i h h' ⟨k1, k2, ⟨x, y, k3⟩, k4, k5⟩ k
    exact ⟨k _ (by simp) _ k1, k _ (by simp) _ k2, ⟨x, y, k _ (by simp) _ k3⟩, k4.over (k _ (by simp)), k5.over (k _ (by simp))⟩
  item := by
    intro X eP ew eK hc i pins s σ H E I hf st hg
    subst eP ew eK
    obtain ⟨k1, k2, ⟨x0, y0, k3⟩, k4, k5⟩ := st
    obtain ⟨xs, ys, x, y, sx, sy, gx, gy⟩ := hg
    obtain ⟨us, vu, hu, lu⟩ := invK I sx
    obtain ⟨ws, vw, hw, lw⟩ := invK I sy
    obtain ⟨u1, e1, r1⟩ := vu.get gx
    obtain ⟨w1, e2, r2⟩ := vw.get gy
    have hh := I.ok.hd hc
    have zl : z < s.heap.objs.size := Heap.lt_size k1
    have il : i < us.toArray.size := by simpa using (List.getElem?_eq_some_iff.mp e1).1
    have jl : i < ws.toArray.size := by simpa using (List.getElem?_eq_some_iff.mp e2).1
    refine wpAny_pyNext_zipD2_item S (drawsK t (A := X.A.in1) hh p a ha us.toArray) (drawsK u (A := X.A.in1) hh q b hb ws.toArray) k1 k2 k3 ⟨k4, hu⟩ ⟨k5, hw⟩ il jl fun c1 c2 h' tk f1 f2 z' o' st1 st2 new' size' keep' => ?_
    have q1 : c1 = u1 := by rw [List.getElem?_toArray] at f1; rw [e1] at f1; exact (Option.some.inj f1).symm
    have q2 : c2 = w1 := by rw [List.getElem?_toArray] at f2; rw [e2] at f2; exact (Option.some.inj f2).symm
    subst q1 q2
    refine ⟨_, rfl, wpAny_letOwnedTupleGo_zip (s := { s with heap := h', toks := tk }) z' fun h2 z2 sb => ?_⟩
    have nn : h2.get? s.heap.objs.size = some { cls := .type "tuple", data := .seq #[c1, c2] } := (sb.2 _ (Nat.ne_of_gt zl)).trans new'
    have ok2 : ObjOk X.prog X.w (upd H s.heap.objs.size (.tup [x, y])) h2 s.heap.objs.size (.tup [x, y]) := ⟨by show 2 ≤ sizeLine; decide, [c1, c2], .cons r1 (.cons r2 .nil), ⟨_, nn, rfl, _, rfl⟩⟩
    have far : ∀ c o, c ∉ [z, TI, TO, p, q] → s.heap.get? c = some o → h2.get? c = some o := fun c o nc e => by
      simp only [List.mem_cons, List.not_mem_nil, or_false, not_or] at nc
      exact (sb.2 c nc.1).trans (keep' c o nc.1 nc.2.2.1 nc.2.2.2.1 nc.2.2.2.2 e)
    have J : Inv X pins σ (upd H s.heap.objs.size (.tup [x, y])) { s with heap := h2, toks := tk } := I.turnedNew far hf (Nat.le_refl _) ok2
    refine ⟨.ref s.heap.objs.size, _, J, rfl, ⟨_, x, y, rfl, I.hok.fresh (Nat.le_refl _), rfl, fun l hl => by rw [injK I hl sx]; exact gx, fun l hl => by rw [injK I hl sy]; exact gy⟩, ⟨z2, ?_, ⟨c1, c2, ?_⟩, ?_, ?_⟩, fun c hcm => ?_⟩
    · exact (sb.2 _ S.TIz).trans (keep' _ _ S.TIz S.TITO S.TIi1 S.TIi2 k2)
    · exact (sb.2 _ S.TOz).trans o'
    · exact st1.1.over fun o e => (sb.2 _ S.zi1.symm).trans e
    · exact st2.1.over fun o e => (sb.2 _ S.zi2.symm).trans e
    · have cl : c < s.heap.objs.size := by
        obtain ⟨o1, m1, _⟩ := k4.ob
        obtain ⟨o2, m2, _⟩ := k5.ob
        simp only [List.mem_cons, List.not_mem_nil, or_false] at hcm
        rcases hcm with rfl | rfl | rfl | rfl | rfl
        · exact zl
        · exact Heap.lt_size k2
        · exact Heap.lt_size k3
        · exact Heap.lt_size m1
        · exact Heap.lt_size m2
      rw [upd_ne (Nat.ne_of_lt cl)]
      exact (hf c hcm).1
  done := by
    intro X eP ew eK hc i pins s σ H E I hf st hg
    subst eP ew eK
    obtain ⟨k1, k2, ⟨x0, y0, k3⟩, k4, k5⟩ := st
    obtain ⟨xs, ys, sx, sy, he⟩ := hg
    obtain ⟨us, vu, hu, lu⟩ := invK I sx
    obtain ⟨ws, vw, hw, lw⟩ := invK I sy
    have hh := I.ok.hd hc
    have n1 : us.toArray.size = xs.length := by simpa using vu.length.symm
    have n2 : ws.toArray.size = ys.length := by simpa using vw.length.symm
    refine wpAny_pyNext_zipD2_end S (drawsK t (A := X.A.in1) hh p a ha us.toArray) (drawsK u (A := X.A.in1) hh q b hb ws.toArray) k1 k2 k3 ⟨k4, hu⟩ ⟨k5, hw⟩ (by omega) (by omega) (by omega) fun h' tk keep' => ⟨rfl, I.turnedL (fun c o nc e => ?_) hf⟩
    simp only [List.mem_cons, List.not_mem_nil, or_false, not_or] at nc
    exact keep' c o nc.1 nc.2.2.1 nc.2.2.2.1 nc.2.2.2.2 e
  self := fun A i s Q E st h => wpAny_pyIter_zip st.1 h
/-- zip(x, y): what it asks of its two arguments -/
def iZipK (K : PySem.W.Frag) (ta : TA) : TI := fun σ H R => ta σ H fun us H1 => ∃ (t u : Bool) (a b : Addr) (xs ys : List V), us = [.ref a, .ref b] ∧ SqK t K H1 a xs ∧ SqK u K H1 b ys ∧ R (ItzK K t u a b) H1
def begO (t : Bool) (a : Addr) : Obj := match t with
  | true => { cls := .type "tuple_iterator", data := .fields #[.ref a, .int 0 0] }
  | false => { cls := .type "list_iterator", data := .fields #[.ref a, .int 0 0] }
theorem begK (t : Bool) (a : Addr) (its : Array Value) : Begins (.ref a) (begO t a) fun h => HoldK t h a its := by
  cases t
  · exact begins_list a its
  · exact begins_tuple a its
theorem begI {t : Bool} {a p : Addr} {h : Heap} (e : h.get? p = some (begO t a)) : IterK t h p a 0 := by
  cases t
  · exact ⟨_, e, rfl, rfl⟩
  · exact ⟨_, e, rfl, rfl⟩
theorem fpNew {X : Cx} {pins : List (Addr × Obj)} {σ : L2.St} {H : Hp} {s : Shared} (I : Inv X pins σ H s) {c : Addr} (h : s.heap.objs.size ≤ c) : FpOk X pins H c := I.fpOk h (I.hok.fresh h)
theorem pi_zipK {X : Cx} {e e2 : Expr} {ta : TA} {p pos tpos : Pos} {elts : List Expr} {kk : Nat} (hg : Gl X "zip") (hm : X.mg "zip" = none) (ha : PA X [e, e2] ta)
    (hs : starEach [e, e2] X.env = (false, eval e X.env) :: starEach [e2] X.env) (hpl : (backTo pos (starEach [e2] X.env)).any (·.1) = false) :
    PI X (.Tuple elts kk tpos) (.Call (.Name "zip" p) [e, e2] [] pos) (iZipK X.K ta) where
  run := by
    intro pins s σ H R I w
    refine Call_ (ld_blt I hg hm boot_zip (callWith_type1 (thn (ha.run pos pins s σ H _ I w) ?_) hs hpl))
    rintro us s1 ⟨vs, H1, I1, rs, t, u, a, b, xs, ys, rfl, hx, hy, hR⟩
    match us, rs with
    | _, .cons r1 (.cons r2 .nil) =>
      cases r1
      cases r2
      obtain ⟨cx, _, px, lx⟩ := invK I1 hx
      obtain ⟨cy, _, py, ly⟩ := invK I1 hy
      refine zip_begins2 (begK t a _) (begK u b _) px py fun g gz gi go gp gq _ old => wpAny_pyIter_zip gz ?_
      have S : ZipSep2 (s1.heap.objs.size + 4) (s1.heap.objs.size + 2) (s1.heap.objs.size + 3) s1.heap.objs.size (s1.heap.objs.size + 1) [s1.heap.objs.size, a] [s1.heap.objs.size + 1, b] :=
        zip_sep2 (fun c hc => by rw [List.mem_singleton.mp hc]; exact lx) (fun c hc => by rw [List.mem_singleton.mp hc]; exact ly)
      refine ⟨_, [s1.heap.objs.size + 4, s1.heap.objs.size + 2, s1.heap.objs.size + 3, s1.heap.objs.size, s1.heap.objs.size + 1], _, ItzK X.K t u a b, H1, rfl, I1.kept (t' := s1.toks) old, turnK S (Nat.ne_of_lt lx) (Nat.ne_of_lt (Nat.lt_succ_of_lt ly)), ⟨gz, gi, ⟨_, _, go⟩, begI gp, begI gq⟩, fun c hc => ?_, hR⟩
      have hle : s1.heap.objs.size ≤ c := by
        have hc' : c = s1.heap.objs.size + 4 ∨ c = s1.heap.objs.size + 2 ∨ c = s1.heap.objs.size + 3 ∨ c = s1.heap.objs.size ∨ c = s1.heap.objs.size + 1 := by simpa using hc
        have q : ∀ c n : Nat, (c = n + 4 ∨ c = n + 2 ∨ c = n + 3 ∨ c = n ∨ c = n + 1) → n ≤ c := fun c n h => by omega
        exact q _ _ hc'
      exact fpNew I1 hle
theorem sqUp {K : PySem.W.Frag} {H H' : Hp} (s : Same H H') {t : Bool} {a : Addr} {xs : List V} (h : SqK t K H a xs) : SqK t K H' a xs := by
  cases t with
  | true => exact seqT s h
  | false => exact h.imp (fun q => q.imp (fun q => s _ _ q) fun ⟨o, q⟩ => ⟨o, s _ _ q⟩) id
theorem crSq {K : PySem.W.Frag} {ks : List Addr} {m : Mem} {Hz H : Hp} (c : CR K ks m Hz H) {t : Bool} {a : Addr} {xs : List V} (h : SqK t K Hz a xs) : SqK t K H a xs := sqUp c.zh h
theorem wlkK {K : PySem.W.Frag} {t u : Bool} {a b : Addr} {vs ws : List V} {ds es : List D} {Hz : Hp} (h : SqK t K Hz a vs) (h' : SqK u K Hz b ws) (r : RpAll K Hz vs ds) (r' : RpAll K Hz ws es) (hl : vs.length ≤ sizeLine) : Wlk K (ItzK K t u a b) ((zipD ds es).map .d) Hz := by
  have n1 := daLen r
  have n2 := daLen r'
  have nz : ((zipD ds es).map MV.d).length = min ds.length es.length := by rw [List.length_map, zipLen]
  refine ⟨by omega, fun i H hi s => ?_, fun i H hi s => ?_, fun i H x H' ks m Hz1 mv c s y e => ?_⟩
  · exact ⟨vs, ws, vs[i], ws[i], sqUp s h, sqUp s h', List.getElem?_eq_getElem (by omega), List.getElem?_eq_getElem (by omega)⟩
  · exact ⟨vs, ws, sqUp s h, sqUp s h', by omega⟩
  · obtain ⟨N, x0, y0, rfl, n, rfl, g1, g2⟩ := y
    obtain ⟨z, q, rfl⟩ : ∃ z, (zipD ds es)[i]? = some z ∧ mv = .d z := by
      rw [List.getElem?_map] at e
      obtain ⟨z, q1, q2⟩ := Option.map_eq_some_iff.mp e
      exact ⟨z, q1, q2.symm⟩
    obtain ⟨d1, d2, e1, e2, rfl⟩ := zipGet _ _ _ _ q
    obtain ⟨_, k1, w1⟩ := daGet r (g1 _ (crSq c (sqUp s h)))
    obtain ⟨_, k2, w2⟩ := daGet r' (g2 _ (crSq c (sqUp s h')))
    cases e1.symm.trans k1
    cases e2.symm.trans k2
    exact ⟨_, Ext.new c n _, c.new n _, .d (rpTup c n (.cons (dpUp s _ _ w1) (.cons (dpUp s _ _ w2) .nil)))⟩
/-! ### enumerate of a list or a tuple -/
/-- what it gives: the place, the item -/
def ItE (K : PySem.W.Frag) (t : Bool) (a : Addr) : It where
  go := fun i H => ∃ (xs : List V) (x : V), SqK t K H a xs ∧ xs[i]? = some x
  yld := fun i H v H' => ∃ N x, v = .ref N ∧ H N = none ∧ H' = upd H N (.tup [.int (i : Nat), x]) ∧ ∀ xs, SqK t K H a xs → xs[i]? = some x
  stop := fun i H => ∃ xs : List V, SqK t K H a xs ∧ xs.length = i
def EnumAt (t : Bool) (a z p : Addr) (i : Nat) (h : Heap) : Prop := (∃ last, IsEnum h z p ((i : Nat) : Int) last) ∧ IterK t h p a i
theorem turnEK {P : Program} {w : World} {K : PySem.W.Frag} {elts : List Expr} {kk : Nat} {tp : Pos} {t : Bool} {a z p : Addr} (hzp : z ≠ p) (hza : z ≠ a) (hap : a ≠ p) :
    Turn P w K (.Tuple elts kk tp) (ItE K t a) [z, p] z (EnumAt t a z p) where
  mem := List.mem_cons_self
  obj := by
    rintro i h ⟨⟨last, k1⟩, k2⟩ c hc
    simp only [List.mem_cons, List.not_mem_nil, or_false] at hc
    rcases hc with rfl | rfl
    · exact ⟨_, k1, by intro v q; cases q⟩
    · exact k2.ob
  keep := by
    rintro i h h' ⟨⟨last, k1⟩, k2⟩ k
    exact ⟨⟨last, k _ (by simp) _ k1⟩, k2.over (k _ (by simp))⟩
  item := by
    intro X eP ew eK hc i pins s σ H E I hf st hg
    subst eP ew eK
    obtain ⟨⟨last, k1⟩, k2⟩ := st
    obtain ⟨xs, x, sx, gx⟩ := hg
    obtain ⟨us, vu, hu, lu⟩ := invK I sx
    obtain ⟨u1, e1, r1⟩ := vu.get gx
    have zl : z < s.heap.objs.size := Heap.lt_size k1
    have il : i < us.toArray.size := by simpa using (List.getElem?_eq_some_iff.mp e1).1
    refine wpAny_pyNext_enum_itemD (drawsK t (A := X.A.in1) (I.ok.hd hc) p a hap us.toArray) k1 ⟨k2, hu⟩ il hzp (by simp [hzp, hza]) fun c1 h' tk f1 out st' new' size' keep' => ?_
    have q1 : c1 = u1 := by rw [List.getElem?_toArray] at f1; rw [e1] at f1; exact (Option.some.inj f1).symm
    subst q1
    refine ⟨_, rfl, wpAny_letOwnedTupleGo_enum (s := { s with heap := h', toks := tk + 1 }) out fun h2 z2 sb => ?_⟩
    have nn : h2.get? s.heap.objs.size = some { cls := .type "tuple", data := .seq #[.int i tk, c1] } := (sb.2 _ (Nat.ne_of_gt zl)).trans new'
    have ok2 : ObjOk X.prog X.w (upd H s.heap.objs.size (.tup [.int (i : Nat), x])) h2 s.heap.objs.size (.tup [.int (i : Nat), x]) := ⟨by show 2 ≤ sizeLine; decide, [.int i tk, c1], .cons ⟨_, rfl⟩ (.cons r1 .nil), ⟨_, nn, rfl, _, rfl⟩⟩
    have far : ∀ c o, c ∉ [z, p] → s.heap.get? c = some o → h2.get? c = some o := fun c o nc e => by
      simp only [List.mem_cons, List.not_mem_nil, or_false, not_or] at nc
      exact (sb.2 c nc.1).trans (keep' c o nc.1 nc.2 e)
    have J : Inv X pins σ (upd H s.heap.objs.size (.tup [.int (i : Nat), x])) { s with heap := h2, toks := tk + 1 } := I.turnedNew far hf (Nat.le_refl _) ok2
    refine ⟨.ref s.heap.objs.size, _, J, rfl, ⟨_, x, rfl, I.hok.fresh (Nat.le_refl _), rfl, fun l hl => by rw [injK I hl sx]; exact gx⟩, ⟨⟨c1, ?_⟩, st'.1.over fun o e => (sb.2 _ hzp.symm).trans e⟩, fun c hcm => ?_⟩
    · have e3 : ((i + 1 : Nat) : Int) = (i : Int) + 1 := Int.natCast_succ i
      rw [e3]
      exact z2
    · have cl : c < s.heap.objs.size := by
        obtain ⟨o1, m1, _⟩ := k2.ob
        simp only [List.mem_cons, List.not_mem_nil, or_false] at hcm
        rcases hcm with rfl | rfl
        · exact zl
        · exact Heap.lt_size m1
      rw [upd_ne (Nat.ne_of_lt cl)]
      exact (hf c hcm).1
  done := by
    intro X eP ew eK hc i pins s σ H E I hf st hg
    subst eP ew eK
    obtain ⟨⟨last, k1⟩, k2⟩ := st
    obtain ⟨xs, sx, he⟩ := hg
    obtain ⟨us, vu, hu, lu⟩ := invK I sx
    have n1 : i = us.toArray.size := by rw [← he]; simpa using vu.length
    refine wpAny_pyNext_enum_endD (drawsK t (A := X.A.in1) (I.ok.hd hc) p a hap us.toArray) k1 ⟨n1 ▸ k2, hu⟩ fun h' keep' => ⟨rfl, I.turnedL (t' := s.toks) (fun c o nc e => ?_) hf⟩
    simp only [List.mem_cons, List.not_mem_nil, or_false, not_or] at nc
    exact keep' c o nc.2 e
  self := fun A i s Q E st h => by
    obtain ⟨last, k1⟩ := st.1
    exact wpAny_pyIter_enum k1 h
set_option maxHeartbeats 4000000 in
theorem enumNew {v : Value} {o : Obj} {G : Heap → Prop} (B : Begins v o G) :
    Meets (Builtin.«enumerate.__new__» ⟨[.type "enumerate", v], []⟩) (fun _ R s => G s.heap ∧
      R (.ok (.ret (.ref (s.heap.push o).objs.size))) { s with heap := (s.heap.push o).push { cls := .type "enumerate", data := .fields #[.none, .bool false, .ref s.heap.objs.size, rawInt 0, .none, .none] } }) :=
  .of_wp fun prog w A R st q => by
    obtain ⟨hp, gl, ds, tk, io⟩ := st
    obtain ⟨g0, q⟩ := q
    have sub0 := sub_enumerate
    have step : ∀ {A' : Around} {E : Value → Shared → Prop} {Q : Value → Shared → Prop}, Q (.ref hp.objs.size) ⟨hp.push o, gl, ds, tk, io⟩ → wpAny (model prog w) A' (pyIter v) Q E ⟨hp, gl, ds, tk, io⟩ :=
      fun x => B.iter prog w _ _ ⟨hp, gl, ds, tk, io⟩ _ g0 x
    wp_walk using step
    refine wpAny_stack_any fun _ => wpAny_pure ?_
    split
    · rename_i c _ _ _ _ _
      cases (c == Value.type "enumerate") <;> wp_walk using step <;> exact ⟨_, rfl, q⟩
    · wp_walk using step
      exact ⟨_, rfl, q⟩
theorem enumCall {prog : Program} {w : World} {A : Around} {E : Value → Shared → Prop} {s : Shared} {v : Value} {o : Obj} {G : Heap → Prop} {Q : Value → Shared → Prop} (B : Begins v o G) (g0 : G s.heap)
    (q : ∀ g, IsEnum g (s.heap.objs.size + 1) s.heap.objs.size 0 .none → g.get? s.heap.objs.size = some o → (∀ c u, s.heap.get? c = some u → g.get? c = some u) → Q (.ref (s.heap.objs.size + 1)) { s with heap := g }) :
    wpAny (model prog w) A (call (.type "enumerate") [v]) Q E s := by
  have one : (s.heap.push o).objs.size = s.heap.objs.size + 1 := Heap.size_push ..
  refine callType_new F.called_enumerate (by decide) (F.typeCall_enumerate_1 _) (F.newCall_enumerate_1 _) (fun x => F.args_object_init_2 x _) F.entry_enumerate_new (enumNew B) ⟨g0, ?_⟩
  have fin : ∀ g : Heap, g = (s.heap.push o).push { cls := .type "enumerate", data := .fields #[.none, .bool false, .ref s.heap.objs.size, rawInt 0, .none, .none] } → IsEnum g (s.heap.objs.size + 1) s.heap.objs.size 0 .none := by
    rintro g rfl
    rw [← one]
    exact Heap.get?_push_size _ rfl
  have k := fin _ rfl
  show _ ∧ _
  rw [one]
  exact ⟨⟨_, k, rfl⟩, q _ k (Heap.get?_push_of_some _ (Heap.get?_push_size _ B.free)) fun c u e => Heap.get?_push_of_some _ (Heap.get?_push_of_some _ e)⟩
def iEnumK (K : PySem.W.Frag) (ta : TA) : TI := fun σ H R => ta σ H fun us H1 => ∃ (t : Bool) (a : Addr) (xs : List V), us = [.ref a] ∧ SqK t K H1 a xs ∧ R (ItE K t a) H1
theorem pi_enumK {X : Cx} {e : Expr} {ta : TA} {p pos tpos : Pos} {elts : List Expr} {kk : Nat} (hg : Gl X "enumerate") (hm : X.mg "enumerate" = none) (ha : PA X [e] ta) (hs : starEach [e] X.env = [(false, eval e X.env)]) :
    PI X (.Tuple elts kk tpos) (.Call (.Name "enumerate" p) [e] [] pos) (iEnumK X.K ta) where
  run := by
    intro pins s σ H R I w
    refine Call_ (ld_blt I hg hm boot_enumerate (callWith_type1 (thn (ha.run pos pins s σ H _ I w) ?_) hs rfl))
    rintro us s1 ⟨vs, H1, I1, rs, t, a, xs, rfl, hx, hR⟩
    match us, rs with
    | _, .cons r1 .nil =>
      cases r1
      obtain ⟨cx, _, px, lx⟩ := invK I1 hx
      refine enumCall (begK t a _) px fun g ge gp old => wpAny_pyIter_enum ge ?_
      refine ⟨_, [s1.heap.objs.size + 1, s1.heap.objs.size], _, ItE X.K t a, H1, rfl, I1.kept (t' := s1.toks) old, turnEK (Nat.succ_ne_self _) (Nat.ne_of_gt (Nat.lt_succ_of_lt lx)) (Nat.ne_of_lt lx), ⟨⟨_, ge⟩, begI gp⟩, fun c hc => ?_, hR⟩
      have hle : s1.heap.objs.size ≤ c := by
        have hc' : c = s1.heap.objs.size + 1 ∨ c = s1.heap.objs.size := by simpa using hc
        have q : ∀ c n : Nat, (c = n + 1 ∨ c = n) → n ≤ c := fun c n h => by omega
        exact q _ _ hc'
      exact fpNew I1 hle
theorem wlkEK {K : PySem.W.Frag} {t : Bool} {a : Addr} {vs : List V} {ds : List D} {Hz : Hp} (h : SqK t K Hz a vs) (r : RpAll K Hz vs ds) (hl : vs.length ≤ sizeLine) : Wlk K (ItE K t a) ((enumD 0 ds).map .d) Hz := by
  have n1 := daLen r
  have nz : ((enumD 0 ds).map MV.d).length = ds.length := by rw [List.length_map, enumLen]
  refine ⟨by omega, fun i H hi s => ?_, fun i H hi s => ?_, fun i H x H' ks m Hz1 mv c s y e => ?_⟩
  · exact ⟨vs, vs[i], sqUp s h, List.getElem?_eq_getElem (by omega)⟩
  · exact ⟨vs, sqUp s h, by omega⟩
  · obtain ⟨N, x0, rfl, n, rfl, g1⟩ := y
    obtain ⟨d, k1, w1⟩ := daGet r (g1 _ (crSq c (sqUp s h)))
    rw [List.getElem?_map, enumGet _ _ _ _ k1] at e
    cases e
    refine ⟨_, Ext.new c n _, c.new n _, .d (rpTup c n (.cons ?_ (.cons (dpUp s _ _ w1) .nil)))⟩
    rw [Nat.zero_add]
    exact .int _
end Mp

set_option Elab.async false
set_option linter.all false
set_option maxRecDepth 100000
set_option maxHeartbeats 1000000
namespace Mp
open PySem PySem.Spec PyProof.Rows L2
/-! ### a comprehension of two clauses -/
/-- a list D grows while names stay as they are -/
structure Gr (K : PySem.W.Frag) (DD : Addr) (es : List (Env' × L2.St)) (ks0 : List Addr) (Hz0 H0 Z : Hp) (ks : List Addr) (m : Mem) (Hz H : Hp) (acc : List PyData) : Prop where
  x : Ext ks0 Hz0 H0 ks Hz H
  c : CR K ks m Hz H
  s : Same Z Hz
  e : ∀ p ∈ es, ER K ks Hz H p.1 p.2
  dn : ∀ p ∈ es, ∀ (i : Nat) (ys : List PyData), p.1[i]? = some (Slot.own ys) → p.2[i]? ≠ some (some (V.ref DD))
  d : ∃ us, H DD = some (.lst us) ∧ RpAll K Hz us acc
  nz : Hz DD = none
  nk : DD ∉ ks
section
variable {K : PySem.W.Frag} {DD : Addr} {es : List (Env' × L2.St)} {ks0 ks ks' : List Addr} {Hz0 H0 Z Hz H Hz' H' : Hp} {m m' : Mem} {acc : List PyData}
theorem Gr.up (g : Gr K DD es ks0 Hz0 H0 Z ks m Hz H acc) (x : Ext ks Hz H ks' Hz' H') (c : CR K ks' m' Hz' H') : Gr K DD es ks0 Hz0 H0 Z ks' m' Hz' H' acc := by
  obtain ⟨us, h1, h2⟩ := g.d
  refine ⟨g.x.trans x, c, g.s.trans x.zs, fun p hp => (g.e p hp).up x, g.dn, ⟨us, x.fr _ _ h1 g.nk, daUp x.zs _ _ h2⟩, ?_, fun z => (x.nw _ z).elim g.nk fun q => by rw [h1] at q; cases q⟩
  cases q : Hz' DD with
  | none => rfl
  | some o => rcases x.nz _ _ q with z | z | z
              · rw [g.nz] at z; cases z
              · rw [h1] at z; cases z
              · exact (g.nk z).elim
theorem Gr.push (g : Gr K DD es ks0 Hz0 H0 Z ks m Hz H acc) (n0 : H0 DD = none) {us : List V} (h : H DD = some (.lst us)) {v : V} {y : PyData} (rv : Rp K Hz v y) : Gr K DD es ks0 Hz0 H0 Z ks m Hz (upd H DD (.lst (us ++ [v]))) (acc ++ [y]) := by
  obtain ⟨us', h1, h2⟩ := g.d
  rw [h] at h1; cases h1
  refine ⟨⟨g.x.pre, g.x.zs, fun b o q hb => by rw [upd_ne (fun z => by rw [z, n0] at q; cases q)]; exact g.x.fr b o q hb, g.x.nw, g.x.nz⟩,
    ⟨fun b u q => by rw [upd_ne (fun z => by rw [z, g.nz] at q; cases q)]; exact g.c.zh b u q, g.c.len, g.c.nd, fun k a zs q1 q2 => ?_⟩, g.s, fun p hp => ⟨(g.e p hp).len, fun i s q => ?_, (g.e p hp).ds⟩, g.dn, ⟨_, upd_same, daApp h2 (.cons rv .nil)⟩, g.nz, g.nk⟩
  · obtain ⟨w1, ws, w2, w3⟩ := g.c.at_ k a zs q1 q2
    exact ⟨w1, ws, by rw [upd_ne (fun z => g.nk (by rw [← z]; exact List.mem_of_getElem? q1))]; exact w2, w3⟩
  · have w := (g.e p hp).at_ i s q
    have nd := fun ys (e : s = .own ys) => g.dn p hp i ys (by rw [← e]; exact q)
    generalize p.2[i]? = o at w nd
    cases w with
    | un => exact .un _
    | v a => exact .v a
    | own a1 a2 a3 a4 => exact .own (by rw [upd_ne (fun z => nd _ rfl (by rw [z]))]; exact a1) a2 a3 a4
theorem Gr.lens (g : Gr K DD es ks0 Hz0 H0 Z ks m Hz H acc) {us : List V} (h : H DD = some (.lst us)) : us.length = acc.length := by
  obtain ⟨us', h1, h2⟩ := g.d
  rw [h] at h1; cases h1
  exact daLen h2
end
def notEx {α : Type} : Res α → Prop
  | .ex _ _ _ => False
  | _ => True
theorem noEx_bind {α β : Type} (r : Res α) (k : α → Mem → Res β) : (noEx r).bind k = (match r with | .ok a m => k a m | _ => .bad) := by
  cases r <;> rfl
/-- one loop that makes a list grow -/
theorem loopA {K : PySem.W.Frag} {DD : Addr} {es : List (Env' × L2.St)} {ks0 : List Addr} {Hz0 H0 Z Z1 : Hp} {J : It} {xs : List MV} (w : Wlk K J xs Z1) (zz : Same Z Z1) (f : MV → List PyData → Mem → Res (List PyData)) (G : Res (List PyData) → Prop) (Fin : Hp → Prop)
    (hbad : ¬ G .bad) (hfin : ∀ acc ks m Hz H, Gr K DD es ks0 Hz0 H0 Z ks m Hz H acc → G (.ok acc m) → Fin H) (body : V → Hp → (Hp → Prop) → Prop)
    (hbody : ∀ (mv : MV) (rest : List MV) (acc : List PyData) (ks : List Addr) (m : Mem) (Hz H : Hp) (x : V) (Nx : Hp → Prop), Gr K DD es ks0 Hz0 H0 Z1 ks m Hz H acc → VR K ks Hz x mv → G ((noEx (f mv acc m)).bind fun acc1 m1 => foldA f rest acc1 m1) →
      (∀ acc1 ks1 m1 Hz1 H1, f mv acc m = .ok acc1 m1 → Gr K DD es ks0 Hz0 H0 Z1 ks1 m1 Hz1 H1 acc1 → G (foldA f rest acc1 m1) → Nx H1) → body x H Nx)
    {acc : List PyData} {ks : List Addr} {m : Mem} {Hz H : Hp} (g : Gr K DD es ks0 Hz0 H0 Z1 ks m Hz H acc) (hG : G (foldA f xs acc m)) :
    ∃ Wd : Nat → Nat → Hp → Prop, (∃ k, Wd 0 k H) ∧ ∀ i n H, Wd i n H → (J.stop i H ∧ Fin H) ∨ (J.go i H ∧ ∃ Nx : Hp → Prop, (∀ H', Nx H' → ∃ k, k < n ∧ Wd (i + 1) k H') ∧ ∀ x H', J.yld i H x H' → body x H' Nx) := by
  refine ⟨fun i n H => n = xs.length - i ∧ i ≤ xs.length ∧ ∃ acc ks m Hz, Gr K DD es ks0 Hz0 H0 Z1 ks m Hz H acc ∧ G (foldA f (xs.drop i) acc m), ⟨xs.length, by simp, Nat.zero_le _, acc, ks, m, Hz, g, by simpa using hG⟩, ?_⟩
  rintro i n H ⟨hn, hle, acc, ks, m, Hz, g, hG⟩
  have sH : Same Z1 H := g.s.trans g.c.zh
  by_cases hlt : i < xs.length
  · refine .inr ⟨w.go i H hlt sH, fun H2 => ∃ acc ks m Hz, Gr K DD es ks0 Hz0 H0 Z1 ks m Hz H2 acc ∧ G (foldA f (xs.drop (i + 1)) acc m), fun H2 q => ⟨xs.length - (i + 1), by omega, rfl, hlt, q⟩, fun x H2 y => ?_⟩
    have hx : xs[i]? = some xs[i] := List.getElem?_eq_getElem hlt
    obtain ⟨Hz2, x2, c2, rx⟩ := w.yld i H x H2 ks m Hz xs[i] g.c g.s y hx
    rw [List.drop_eq_getElem_cons hlt] at hG
    exact hbody xs[i] (xs.drop (i + 1)) acc ks m Hz2 H2 x _ (g.up x2 c2) rx hG fun acc1 ks1 m1 Hz1 H1 _ g1 h1 => ⟨acc1, ks1, m1, Hz1, g1, h1⟩
  · have hi2 : i = xs.length := by omega
    refine .inl ⟨w.stop i H (by omega) sH, ?_⟩
    rw [hi2, List.drop_length] at hG
    exact hfin acc ks m Hz H ⟨g.x, g.c, zz.trans g.s, g.e, g.dn, g.d, g.nz, g.nk⟩ hG
/-- the inner turn, the outer turn -/
def turnIn (t1 : CT) (ec1 ee : Ev MV) (r0 : Env') (y : MV) (acc : List PyData) (m : Mem) : Res (List PyData) := match tgt t1 y r0 with
  | some r2 => (ec1 r2 m).bind fun b m2 => (match b with
    | .d (.bool true) => (ee r2 m2).bind fun z m3 => (match z with
      | .d z => if acc.length < sizeLine then .ok (acc ++ [z]) m3 else .bad
      | _ => .bad)
    | .d (.bool false) => .ok acc m2
    | _ => .bad)
  | none => .bad
def turnOut (t : CT) (ec : Ev MV) (t1 : CT) (ei1 : Ev (List MV)) (ec1 ee : Ev MV) (vs1 : List Nat) (r0 : Env') (x : MV) (acc : List PyData) (m : Mem) : Res (List PyData) := match tgt t x r0 with
  | some r1 => (ec r1 m).bind fun b m2 => (match b with
    | .d (.bool true) => (ei1 r1 m2).bind fun ys m3 => foldA (turnIn t1 ec1 ee (wipeE r1 vs1)) ys acc m3
    | .d (.bool false) => .ok acc m2
    | _ => .bad)
  | none => .bad
def comp2L (ei : Ev (List MV)) (t : CT) (ec : Ev MV) (t1 : CT) (ei1 : Ev (List MV)) (ec1 ee : Ev MV) (vs vs1 : List Nat) : Ev (List PyData) := fun r m => (ei r m).bind fun xs m1 => foldA (turnOut t ec t1 ei1 ec1 ee vs1 (wipeE r vs)) xs [] m1
def OwnD (DD : Addr) (r : Env') (σ : L2.St) : Prop := r.length = σ.length ∧ ∀ (i : Nat) (ys : List PyData), r[i]? = some (Slot.own ys) → σ[i]? ≠ some (some (V.ref DD))
theorem ownD_set {DD : Addr} (r : Env') (σ : L2.St) (i : Nat) (x : MV) (v : V) (h : OwnD DD r σ) : OwnD DD (r.set i (.v x)) (σ.set i (some v)) := by
  refine ⟨by simp [h.1], fun j ys h1 => ?_⟩
  by_cases q : i = j
  · subst q
    by_cases hi : i < r.length
    · rw [List.getElem?_set_self hi] at h1; cases h1
    · have : (r.set i (.v x))[i]? = none := by simp; omega
      rw [this] at h1; cases h1
  · rw [List.getElem?_set_ne q] at h1 ⊢
    exact h.2 j ys h1
theorem ownD_wipe {DD : Addr} {r : Env'} {σ : L2.St} (vs : List Nat) (h : OwnD DD r σ) : OwnD DD (wipeE r vs) (wipe σ vs) := by
  refine ⟨by rw [wipeELen, wipe_length]; exact h.1, fun j ys h1 => ?_⟩
  rw [wipeEAt] at h1
  split at h1
  · simp only [Option.map_eq_some_iff] at h1
    obtain ⟨_, _, z⟩ := h1
    cases z
  · rename_i hj
    rw [wipeAt, if_neg hj]
    exact h.2 j ys h1
/-- a target, in a comprehension's turn -/
theorem tgtIn {K : PySem.W.Frag} {DD : Addr} {ks : List Addr} {m : Mem} {Hz H : Hp} (c : CR K ks m Hz H) {vs : List Nat} {t : CT} (ho : tIn vs.contains t = true) {mv : MV} {r r1 : Env'} {σ : L2.St} {v : V} {Q : L2.St → Hp → Prop} (ht : tgt t mv (wipeE r vs) = some r1) (rv : VR K ks Hz v mv) (er : ER K ks Hz H r σ) (od : OwnD DD r σ)
    (h : ∀ σ', ER K ks Hz H r1 σ' → OwnD DD r1 σ' → wipe σ' vs = wipe σ vs → Q σ' H) : gT K t v (wipe σ vs) H Q :=
  rdT c vs.contains (fun r' σ' => OwnD DD r' σ' ∧ OutS vs (wipe σ vs) σ') (fun r σ' i x v hi p => ⟨ownD_set r σ' i x v p.1, p.2.trans ⟨by simp, fun j hj => List.getElem?_set_ne (fun z => hj (by rw [← z]; simpa using hi))⟩⟩) t mv _ r1 _ v _ ho ht rv (erWipe er vs) ⟨ownD_wipe vs od, OutS.refl _ _⟩ fun σ' e p => h σ' e p.1 ((wipeSame p.2).trans (wipeTwice σ vs))
theorem rdComp2 {K : PySem.W.Frag} {W : WX} {ei ei1 : Ev (List MV)} {t t1 : CT} {ec ec1 ee : Ev MV} {vs vs1 : List Nat} (ho : tIn vs.contains t = true) (ho1 : tIn vs1.contains t1 = true) {σ : L2.St} {H : Hp} {Q : VK} (h : tF K W (comp2L ei t ec t1 ei1 ec1 ee vs vs1) σ H Q) :
    tLc2 (tI K W ei) (gT K t) (tB' K Wf (evT ec)) (tI K Wf ei1) (gT K t1) (tB' K Wf (evT ec1)) (tE K Wf ee) vs vs1 σ H Q := by
  obtain ⟨ks0, m0, Hz0, r, c0, e0, a0⟩ := h
  refine ⟨ks0, m0, Hz0, r, c0, e0, ?_⟩
  unfold AftF comp2L at a0
  cases hi : ei r m0 with
  | bad => rw [hi] at a0; exact a0.elim
  | ex c x m1 => rw [hi] at a0; exact a0
  | ok xs m1 =>
    rw [hi] at a0
    simp only [Res.bind_ok] at a0
    intro ks1 Hz1 H1 J x1 c1 w DD nD
    have n0 : H DD = none := by
      cases q : H DD with
      | none => rfl
      | some o =>
        by_cases hk : DD ∈ ks0
        · obtain ⟨t', rfl⟩ := x1.pre
          exact absurd nD (c1.tr (List.mem_append_left _ hk))
        · rw [x1.fr _ _ q hk] at nD; cases nD
    have od0 : OwnD DD r σ := ⟨e0.len, fun i ys q z => by
      have := e0.at_ i _ q
      rw [z] at this
      cases this with
      | own a _ _ _ => rw [n0] at a; cases a⟩
    have er1 : ER K ks1 Hz1 (upd H1 DD (.lst [])) r σ := (e0.up x1).up (Ext.fresh nD _)
    have g0 : Gr K DD [(r, σ)] ks0 Hz0 H Hz1 ks1 m1 Hz1 (upd H1 DD (.lst [])) [] := ⟨x1.trans (Ext.fresh nD _), c1.fresh nD _, Same.refl _, fun p hp => by rw [List.mem_singleton.mp hp]; exact er1, fun p hp => by rw [List.mem_singleton.mp hp]; exact od0.2, ⟨[], upd_same, .nil⟩, c1.znone nD, c1.nin nD⟩
    refine loopA (es := [(r, σ)]) w (Same.refl _) (turnOut t ec t1 ei1 ec1 ee vs1 (wipeE r vs)) (Aft K (RF K ks0 H) W ks0 Hz0 H σ Q) (Q (.ref DD)) (fun z => z) (fun acc ks m Hz H' g hG => ?_) _ (fun mv rest acc ks m Hz H2 x Nx g rx hG hNx => ?_) g0 a0
    · obtain ⟨us, h1, h2⟩ := g.d
      exact hG ks Hz H' _ g.x g.c ⟨DD, us, rfl, h1, h2, g.nz, g.nk, n0⟩
    · -- the outer target
      cases ht : tgt t mv (wipeE r vs) with
      | none =>
        have : turnOut t ec t1 ei1 ec1 ee vs1 (wipeE r vs) mv acc m = .bad := by simp only [turnOut, ht]
        rw [this] at hG
        exact hG.elim
      | some r1 =>
        have hf : turnOut t ec t1 ei1 ec1 ee vs1 (wipeE r vs) mv acc m = (ec r1 m).bind fun b m2 => (match b with
          | .d (.bool true) => (ei1 r1 m2).bind fun ys m3 => foldA (turnIn t1 ec1 ee (wipeE r1 vs1)) ys acc m3
          | .d (.bool false) => .ok acc m2
          | _ => .bad) := by simp only [turnOut, ht]
        rw [hf] at hG hNx
        refine tgtIn g.c ho ht rx (g.e (r, σ) (by simp)) od0 fun σ2 er2 od2 hw => ⟨hw, ?_⟩
        refine ⟨ks, m, Hz, r1, g.c, er2, ?_⟩
        unfold evT
        cases hc : ec r1 m with
        | bad => rw [hc] at hG; exact hG.elim
        | ex c x m2 => rw [hc] at hG; exact hG.elim
        | ok b m2 =>
          rw [hc] at hG hNx
          simp only [Res.bind_ok] at hG hNx ⊢
          cases b with
          | d b =>
            cases b with
            | bool b =>
              intro ks3 Hz3 H3 b' x3 c3 hb
              have hb' : b' = b := hb
              subst hb'
              have g3 := g.up x3 c3
              have er3 := er2.up x3
              cases b' with
              | false =>
                simp only [noEx, Res.bind_ok] at hG hNx
                simp only [Bool.false_eq_true, if_false]
                exact hNx acc ks3 m2 Hz3 H3 rfl g3 hG
              | true =>
                simp only at hG hNx
                simp only [if_true]
                -- the inner walk
                refine ⟨ks3, m2, Hz3, r1, c3, er3, ?_⟩
                cases hi1 : ei1 r1 m2 with
                | bad => rw [hi1] at hG; exact hG.elim
                | ex c x m3 => rw [hi1] at hG; exact hG.elim
                | ok ys m3 =>
                  rw [hi1] at hG hNx
                  simp only [Res.bind_ok] at hG hNx
                  intro ks4 Hz4 H4 J1 x4 c4 w1
                  have g4' := g3.up x4 c4
                  have g4 : Gr K DD [(r, σ), (r1, σ2)] ks0 Hz0 H Hz4 ks4 m3 Hz4 H4 acc := ⟨g4'.x, g4'.c, Same.refl _, fun p hp => by
                    rcases List.mem_cons.mp hp with q | q
                    · rw [q]; exact g4'.e (r, σ) (by simp)
                    · rw [List.mem_singleton.mp q]; exact er3.up x4, fun p hp => by
                    rcases List.mem_cons.mp hp with q | q
                    · rw [q]; exact od0.2
                    · rw [List.mem_singleton.mp q]; exact od2.2, g4'.d, g4'.nz, g4'.nk⟩
                  refine loopA (es := [(r, σ), (r1, σ2)]) (Z := Hz1) w1 g4'.s (turnIn t1 ec1 ee (wipeE r1 vs1)) (fun z => Aft K (RF K ks0 H) W ks0 Hz0 H σ Q ((noEx z).bind fun acc1 m1 => foldA (turnOut t ec t1 ei1 ec1 ee vs1 (wipeE r vs)) rest acc1 m1) ∧ (∀ acc1 ks1 m1 Hz1' H1, z = .ok acc1 m1 → Gr K DD [(r, σ)] ks0 Hz0 H Hz1 ks1 m1 Hz1' H1 acc1 → Aft K (RF K ks0 H) W ks0 Hz0 H σ Q (foldA (turnOut t ec t1 ei1 ec1 ee vs1 (wipeE r vs)) rest acc1 m1) → Nx H1)) Nx (fun z => z.1) (fun acc1 ks5 m5 Hz5 H5 g5 hG5 => ?_) _ (fun mv1 rest1 acc1 ks5 m5 Hz5 H5 x5 Nx1 g5 rx5 hG5 hNx1 => ?_) g4 ⟨hG, hNx⟩
                  · exact hG5.2 acc1 ks5 m5 Hz5 H5 rfl ⟨g5.x, g5.c, g5.s, fun p hp => g5.e p (by rw [List.mem_singleton.mp hp]; simp), fun p hp => g5.dn p (by rw [List.mem_singleton.mp hp]; simp), g5.d, g5.nz, g5.nk⟩ hG5.1
                  · cases ht1 : tgt t1 mv1 (wipeE r1 vs1) with
                    | none =>
                      have : turnIn t1 ec1 ee (wipeE r1 vs1) mv1 acc1 m5 = .bad := by simp only [turnIn, ht1]
                      rw [this] at hG5
                      exact hG5.1.elim
                    | some r2 =>
                      have hf1 : turnIn t1 ec1 ee (wipeE r1 vs1) mv1 acc1 m5 = (ec1 r2 m5).bind fun b m2 => (match b with
                        | .d (.bool true) => (ee r2 m2).bind fun z m3 => (match z with
                          | .d z => if acc1.length < sizeLine then .ok (acc1 ++ [z]) m3 else .bad
                          | _ => .bad)
                        | .d (.bool false) => .ok acc1 m2
                        | _ => .bad) := by simp only [turnIn, ht1]
                      rw [hf1] at hG5 hNx1
                      refine tgtIn g5.c ho1 ht1 rx5 (g5.e (r1, σ2) (by simp)) od2 fun σ3 er6 od6 hw6 => ⟨hw6, ?_⟩
                      refine ⟨ks5, m5, Hz5, r2, g5.c, er6, ?_⟩
                      show Aft K RB Wf ks5 Hz5 H5 σ3 _ ((ec1 r2 m5).bind toB)
                      cases hc1 : ec1 r2 m5 with
                      | bad => rw [hc1] at hG5; exact hG5.1.elim
                      | ex c x m6 => rw [hc1] at hG5; exact hG5.1.elim
                      | ok b1 m6 =>
                        rw [hc1] at hG5 hNx1
                        simp only [Res.bind_ok] at hG5 hNx1 ⊢
                        cases b1 with
                        | d b1 =>
                          cases b1 with
                          | bool b1 =>
                            intro ks7 Hz7 H7 b1' x7 c7 hb1
                            have hb1' : b1' = b1 := hb1
                            subst hb1'
                            have g7 := g5.up x7 c7
                            have er7 := er6.up x7
                            cases b1' with
                            | false =>
                              simp only [noEx, Res.bind_ok] at hG5 hNx1
                              simp only [Bool.false_eq_true, if_false]
                              exact hNx1 acc1 ks7 m6 Hz7 H7 rfl g7 hG5
                            | true =>
                              simp only at hG5 hNx1
                              simp only [if_true]
                              refine ⟨ks7, m6, Hz7, r2, c7, er7, ?_⟩
                              cases he : ee r2 m6 with
                              | bad => rw [he] at hG5; exact hG5.1.elim
                              | ex c x m8 => rw [he] at hG5; exact hG5.1.elim
                              | ok z m8 =>
                                rw [he] at hG5 hNx1
                                simp only [Res.bind_ok] at hG5 hNx1
                                cases z with
                                | d z =>
                                  simp only at hG5 hNx1
                                  by_cases hl : acc1.length < sizeLine
                                  · rw [if_pos hl] at hG5 hNx1
                                    simp only [noEx, Res.bind_ok] at hG5
                                    intro ks9 Hz9 H9 v x9 c9 rv
                                    have g9 := g7.up x9 c9
                                    obtain ⟨us, u1, u2⟩ := g9.d
                                    refine ⟨us, u1, by rw [daLen u2]; exact hl, hNx1 _ ks9 m8 Hz9 _ rfl (g9.push n0 u1 rv.rp) hG5⟩
                                  · rw [if_neg hl] at hG5; exact hG5.1.elim
                                | _ => exact hG5.1.elim
                          | _ => exact hG5.1.elim
                        | _ => exact hG5.1.elim
            | _ => exact hG.elim
          | _ => exact hG.elim
end Mp

set_option Elab.async false
set_option linter.all false
set_option maxRecDepth 100000
set_option maxHeartbeats 1000000
namespace Mp
open PySem PySem.Spec PyProof.Rows L2 HT
/-! ### xs[::-1] of lists and tuples -/
section
variable {P : Program} {w : World} {A : Around} {E : Value → Shared → Prop} {s : Shared}
theorem revAdjust (n : Nat) : Builtin.Slice.sliceAdjust none none (-1) (n : Int) = ((n : Int) - 1, -1) := by
  unfold Builtin.Slice.sliceAdjust
  simp
theorem revPlaces (n : Nat) : Builtin.Slice.slicePlaces ((n : Int) - 1) (-1) (-1) = n := by
  unfold Builtin.Slice.slicePlaces
  simp
  omega
theorem revPick (xs : List Value) : ((List.range xs.length).filterMap fun (m : Nat) => xs.toArray[((xs.length : Int) - 1 + (m : Int) * -1).toNat]?) = xs.reverse := by
  have e : ∀ m, m ∈ List.range xs.length → xs.toArray[((xs.length : Int) - 1 + (m : Int) * -1).toNat]? = some (xs.reverse.getD m .none) := fun m hm => by
    have hm' := List.mem_range.mp hm
    have : ((xs.length : Int) - 1 + (m : Int) * -1).toNat = xs.length - 1 - m := by omega
    rw [this, List.getElem?_toArray, List.getD_eq_getElem?_getD, List.getElem?_reverse hm', List.getElem?_eq_getElem (by omega)]
    rfl
  have cong : ∀ l : List Nat, (∀ m ∈ l, m ∈ List.range xs.length) → (l.filterMap fun (m : Nat) => xs.toArray[((xs.length : Int) - 1 + (m : Int) * -1).toNat]?) = l.map fun m => xs.reverse.getD m .none := by
    intro l
    induction l with
    | nil => exact fun _ => rfl
    | cons m l ih =>
      intro h
      simp only [List.filterMap_cons, e m (h m List.mem_cons_self), List.map_cons]
      rw [ih fun k hk => h k (List.mem_cons_of_mem _ hk)]
  rw [cong _ fun _ h => h]
  apply List.ext_getElem
  · simp
  · intro i h1 h2
    simp [List.getD_eq_getElem?_getD, List.getElem?_eq_getElem h2]
theorem getItem_tuple_rev {t sl : Addr} {its : List Value} {vs : Value} {Q : Value → Shared → Prop} (ht : IsTup s.heap t its.toArray) (hs : s.heap.IsSliceOf sl .none .none vs) (ps : IsPart vs (some (-1)))
    (h : Q (.ref s.heap.objs.size) { s with heap := s.heap.push { cls := .type "tuple", data := .seq its.reverse.toArray } }) (hsz : its.length ≤ sizeLine) : wpAny (model P w) A (getItem (.ref t) (.ref sl)) Q E s := by
  obtain ⟨os, hos, hcs, hds⟩ := id hs
  have hTs : s.TypeIs (.ref sl) "slice" := ⟨os, hos, hcs⟩
  unfold getItem
  try with_reducible refine wpAny_holding ?_
  first | refine wpAny_bind (wpAny_pure ?_) | skip
  refine wpAny_bind (wpAny_sequenceKey ht.typeIs (by decide) ?_)
  refine wpAny_bind (wpAny_callSpecial?_slot (name := Str.ofString "__getitem__") ht.typeIs PyProof.Rows.slot_tuple_getitem (wpAny_call_entry PyProof.Rows.slot_tuple_getitem ht.typeIs entry_tuple_getitem ?_ (args_tuple_getitem _ _)))
  show wpAny _ _ (Builtin.Tuple.tupleItemsOf (.ref t) >>= _) _ _ s
  refine wpAny_bind (tupleItemsOf_ ht ?_)
  refine wpAny_bind (wpAny_typeOf hTs ?_)
  rw [if_pos (by decide)]
  have app : ∀ {R : Int × Int × Nat → Shared → Prop}, R ((its.length : Int) - 1, -1, its.length) s → wpAny (model P w) A.in1 (Builtin.Slice.sliceApplied (.ref sl) (pure (its.length : Int))) R E s := fun {R} r => by
    unfold Builtin.Slice.sliceApplied Builtin.Slice.sliceFields
    refine wpAny_bind (wpAny_bind (wpAny_field hos hds (x := .none) rfl (wpAny_bind (wpAny_field hos hds (x := .none) rfl (wpAny_bind (wpAny_field hos hds (x := vs) rfl (wpAny_pure ?_)))))))
    refine wpAny_bind (slicePart_ ps ?_)
    show wpAny _ _ (if ((-1 : Int) == 0) = true then _ else _) _ _ s
    rw [if_neg (by decide)]
    refine wpAny_bind (slicePart_none (wpAny_bind (slicePart_none (wpAny_bind (wpAny_pure ?_)))))
    show wpAny _ _ (match Builtin.Slice.sliceAdjust none none (-1) (its.length : Int) with | (lo, hi) => pure (lo, (-1 : Int), Builtin.Slice.slicePlaces lo hi (-1))) _ _ s
    rw [revAdjust]
    show wpAny _ _ (pure ((its.length : Int) - 1, (-1 : Int), Builtin.Slice.slicePlaces ((its.length : Int) - 1) (-1) (-1))) _ _ s
    rw [revPlaces]
    exact wpAny_pure r
  refine wpAny_bind ?_
  rw [show its.toArray.size = its.length from rfl]
  refine app ?_
  have hno : ¬ ((((its.length : Int) - 1) == 0 && (-1 : Int) == 1 && its.length == its.toArray.size) = true) := by simp
  show wpAny _ _ (if ((((its.length : Int) - 1) == 0 && (-1 : Int) == 1 && its.length == its.toArray.size) = true) then _ else _) _ _ s
  rw [if_neg hno, revPick]
  have hok : sizeOk (.seq its.reverse.toArray) := by
    show its.reverse.toArray.size ≤ sizeLine
    simpa using hsz
  first
    | exact wpAny_bind (m := Builtin.Tuple.tupleExact _) (wpAny_newObj_type (wpAny_pure ⟨_, rfl, wpAny_pure h⟩) hok)
    | exact wpAny_bind (m := Builtin.Tuple.tupleExact _) (wpAny_newObj_type (wpAny_bind (wpAny_pure (wpAny_pure ⟨_, rfl, wpAny_pure h⟩))) hok)
    | exact wpAny_bind (wpAny_bind (m := Builtin.Tuple.tupleExact _) (wpAny_newObj_type (wpAny_pure (wpAny_pure ⟨_, rfl, wpAny_pure h⟩)) hok))
    | exact wpAny_bind (wpAny_bind (m := Builtin.Tuple.tupleExact _) (wpAny_newObj_type (wpAny_pure ⟨_, rfl, wpAny_pure h⟩) hok))
end
def tRevA (K : PySem.W.Frag) (te : TE) : TE := fun σ H Q => te σ H fun x H1 => ∃ a xs, x = .ref a ∧ ((SqL K H1 a xs ∧ ∀ p, H1 p = none → Q (.ref p) (upd H1 p (.lst xs.reverse))) ∨ (SqT K H1 a xs ∧ ∀ p, H1 p = none → Q (.ref p) (upd H1 p (.tup xs.reverse))))
theorem pe_revA {X : Cx} {e : Expr} {te : TE} {k : Nat} {p1 p2 p3 pos : Pos} (he : PE X e te) : PE X (.Subscript e (.Slice none none (some (.UnaryOp .USub (.Constant (.int 1) k p1) p2)) p3) pos) (tRevA X.K te) := by
  refine ⟨fun pins s σ H Q I h => Subscript_ (thn (he.run pins s σ H _ I h) fun v s1 ⟨x, H1, I1, r1, a, xs, ex, q⟩ => ?_)⟩
  subst ex
  cases r1
  have hst : PO X (some (.UnaryOp .USub (.Constant (.int 1) k p1) p2)) (tPart (tUn (rU fun i => .int (-i)) (tC (.int 1)))) := po_some (pe_un un_neg pe_int)
  refine wpAny_Slice (thn (po_none.run pins s1 σ H1 (fun o G => o = none ∧ G = H1) I1 ⟨rfl, rfl⟩) fun vl s2 ⟨l, H2, I2, pl, el, e2⟩ => thn (po_none.run pins s2 σ H2 (fun o G => o = none ∧ G = H2) I2 ⟨rfl, rfl⟩) fun vu s3 ⟨u, H3, I3, pu, eu, e3⟩ =>
    thn (hst.run pins s3 σ H3 (fun o G => o = some (-1) ∧ G = H3) I3 ⟨1, rfl, -1, rfl, rfl, rfl⟩) fun vs s4 ⟨o, H4, I4, ps, eo, e4⟩ => ?_)
  subst el e2 eu e3 eo e4
  have I5 : Inv X pins σ H4 { s4 with heap := s4.heap.push { cls := .type "slice", data := .fields #[vl, vu, vs] } } := I4.kept (t' := s4.toks) fun b ob q => Heap.get?_push_of_some _ q
  show wpAny (model X.prog X.w) X.A (subscriptTail e (.Slice none none (some (.UnaryOp .USub (.Constant (.int 1) k p1) p2)) p3) (.ref a) (.ref s4.heap.objs.size)) (EP X pins σ Q) X.xe { s4 with heap := s4.heap.push { cls := .type "slice", data := .fields #[vl, vu, vs] } }
  rcases q with ⟨hx, q⟩ | ⟨hx, q⟩
  · obtain ⟨its, r, ht, hz⟩ := I5.list hx
    have hlen := r.length
    refine tail_any (ops := [.ref a, .ref s4.heap.objs.size]) ht.isList.typeIs (PySem.slot_list_getitem.lookup) (wpAny_getItem_list_slice ht.isList (Heap.IsSliceOf.new _ vl vu vs) pl pu ps (by decide) ?_ (by rw [List.size_toArray]; omega)) (by with_unfolding_all rfl)
    rw [PySem.W.krv_pick]
    refine ⟨.ref _, _, I5.laid (t' := s4.toks) (o := .lst xs.reverse) (fun b ob q => Heap.get?_push_of_some _ q) (Nat.le_refl _) ⟨by rw [List.length_reverse]; exact hz, _, 0, r.reverse, Heap.get?_push_size _ rfl⟩, rfl, q _ (I5.hok.fresh (Nat.le_refl _))⟩
  · obtain ⟨its, r, ht, hz⟩ := I5.tuple hx
    have hlen := r.length
    cases pl
    cases pu
    refine tail_any (ops := [.ref a, .ref s4.heap.objs.size]) ht.typeIs (PyProof.Rows.slot_tuple_getitem.lookup) (getItem_tuple_rev ht (Heap.IsSliceOf.new _ _ _ vs) ps ?_ (by omega)) (by with_unfolding_all rfl)
    exact ⟨.ref _, _, I5.laid (t' := s4.toks) (o := .tup xs.reverse) (fun b ob q => Heap.get?_push_of_some _ q) (Nat.le_refl _) ⟨by rw [List.length_reverse]; exact hz, _, r.reverse, IsTup.new _ _⟩, rfl, q _ (I5.hok.fresh (Nat.le_refl _))⟩
end Mp

set_option Elab.async false
set_option linter.all false
set_option maxRecDepth 100000
set_option maxHeartbeats 1000000
namespace Mp
open PySem PySem.Spec PyProof.Rows L2
/-! ### an expression whose length we know -/
def tLen (K : PySem.W.Frag) (t : TE) : TE := fun σ H Q => t σ H fun x H1 => (∀ a xs, x = .ref a → (SqL K H1 a xs ∨ SqT K H1 a xs) → xs.length ≤ sizeLine) → Q x H1
theorem pe_len {X : Cx} {e : Expr} {t : TE} (h : PE X e t) : PE X e (tLen X.K t) := ⟨fun pins s σ H Q I q => by
  refine thn (h.run pins s σ H _ I q) fun v s1 ⟨x, H1, I1, r1, q1⟩ => ⟨x, H1, I1, r1, q1 fun a xs _ z => ?_⟩
  rcases z with z | z
  · obtain ⟨_, _, _, hz⟩ := I1.list z; exact hz
  · obtain ⟨_, _, _, hz⟩ := I1.tuple z; exact hz⟩
section
variable {X : Cx} {W : WX} {K : PySem.W.Frag} {ea eb ec : Ev MV} {σ : L2.St} {H : Hp}
/-! ### tests -/
theorem tB_E {Q : Bool → Hp → Prop} (h : tB' K W (evT ea) σ H Q) : tE K W ea σ H (fun x H' => ∃ k, x = V.bl k ∧ Q k H') := by
  obtain ⟨ks, m, Hz, r, c, e, a⟩ := h
  refine ⟨ks, m, Hz, r, c, e, Aft.bind a fun x m1 ks1 Hz1 H1 v _ x1 c1 rv a1 => ?_⟩
  cases x with
  | d x =>
    cases x with
    | bool b => exact ⟨b, dpBool rv.rp, a1 ks1 Hz1 H1 b (Ext.refl _ _ _) c1 rfl⟩
    | _ => exact a1.elim
  | _ => exact a1.elim
def andE (ea eb : Ev MV) : Ev MV := fun r m => (ea r m).bind fun x m1 => (match x with
  | .d (.bool true) => eb r m1
  | .d (.bool false) => .ok (.d (.bool false)) m1
  | _ => .bad)
def orE (ea eb : Ev MV) : Ev MV := fun r m => (ea r m).bind fun x m1 => (match x with
  | .d (.bool false) => eb r m1
  | .d (.bool true) => .ok (.d (.bool true)) m1
  | _ => .bad)
theorem rdAnd {Q : Bool → Hp → Prop} (h : tB' K W (evT (andE ea eb)) σ H Q) : tAnd (tB' K W (evT ea)) (tB' K W (evT eb)) σ H Q := by
  obtain ⟨ks, m, Hz, r, c, e, a⟩ := h
  unfold evT andE at a
  rw [Res.bind_assoc] at a
  refine ⟨ks, m, Hz, r, c, e, ?_⟩
  unfold evT
  cases q : ea r m with
  | bad => rw [q] at a; exact a.elim
  | ex cc x m1 => rw [q] at a; exact a
  | ok x m1 =>
    rw [q] at a
    cases x with
    | d x =>
      cases x with
      | bool b =>
        intro ks1 Hz1 H1 b' x1 c1 hb
        have hb' : b' = b := hb
        subst hb'
        cases b' with
        | true => exact ⟨ks1, m1, Hz1, r, c1, e.up x1, Aft.up x1 a⟩
        | false => exact a ks1 Hz1 H1 false x1 c1 rfl
      | _ => exact a.elim
    | _ => exact a.elim
theorem rdOr {Q : Bool → Hp → Prop} (h : tB' K W (evT (orE ea eb)) σ H Q) : tOr (tB' K W (evT ea)) (tB' K W (evT eb)) σ H Q := by
  obtain ⟨ks, m, Hz, r, c, e, a⟩ := h
  unfold evT orE at a
  rw [Res.bind_assoc] at a
  refine ⟨ks, m, Hz, r, c, e, ?_⟩
  unfold evT
  cases q : ea r m with
  | bad => rw [q] at a; exact a.elim
  | ex cc x m1 => rw [q] at a; exact a
  | ok x m1 =>
    rw [q] at a
    cases x with
    | d x =>
      cases x with
      | bool b =>
        intro ks1 Hz1 H1 b' x1 c1 hb
        have hb' : b' = b := hb
        subst hb'
        cases b' with
        | false => exact ⟨ks1, m1, Hz1, r, c1, e.up x1, Aft.up x1 a⟩
        | true => exact a ks1 Hz1 H1 true x1 c1 rfl
      | _ => exact a.elim
    | _ => exact a.elim
theorem rdAndV {Q : VK} (h : tE K W (andE ea eb) σ H Q) : tAndV (tE K W ea) (tE K W eb) σ H Q := by
  obtain ⟨ks, m, Hz, r, c, e, a⟩ := h
  refine ⟨ks, m, Hz, r, c, e, Aft.bind a fun x m1 ks1 Hz1 H1 v _ x1 c1 rv a1 => ?_⟩
  cases x with
  | d x =>
    cases x with
    | bool b =>
      refine ⟨b, dpBool rv.rp, ?_⟩
      cases b with
      | true => exact ⟨ks1, m1, Hz1, r, c1, e.up x1, a1⟩
      | false => exact a1 ks1 Hz1 H1 _ (Ext.refl _ _ _) c1 (.d (.bl _))
    | _ => exact a1.elim
  | _ => exact a1.elim
theorem rdOrV {Q : VK} (h : tE K W (orE ea eb) σ H Q) : tOrV (tE K W ea) (tE K W eb) σ H Q := by
  obtain ⟨ks, m, Hz, r, c, e, a⟩ := h
  refine ⟨ks, m, Hz, r, c, e, Aft.bind a fun x m1 ks1 Hz1 H1 v _ x1 c1 rv a1 => ?_⟩
  cases x with
  | d x =>
    cases x with
    | bool b =>
      refine ⟨b, dpBool rv.rp, ?_⟩
      cases b with
      | false => exact ⟨ks1, m1, Hz1, r, c1, e.up x1, a1⟩
      | true => exact a1 ks1 Hz1 H1 _ (Ext.refl _ _ _) c1 (.d (.bl _))
    | _ => exact a1.elim
  | _ => exact a1.elim
def notE (ea : Ev MV) : Ev MV := fun r m => (ea r m).bind fun x m1 => (match x with
  | .d (.bool c) => .ok (.d (.bool (!c))) m1
  | _ => .bad)
theorem rdNot {Q : Bool → Hp → Prop} (h : tB' K W (evT (notE ea)) σ H Q) : tNot (tB' K W (evT ea)) σ H Q := by
  obtain ⟨ks, m, Hz, r, c, e, a⟩ := h
  unfold evT notE at a
  rw [Res.bind_assoc] at a
  refine ⟨ks, m, Hz, r, c, e, ?_⟩
  unfold evT
  cases q : ea r m with
  | bad => rw [q] at a; exact a.elim
  | ex cc x m1 => rw [q] at a; exact a
  | ok x m1 =>
    rw [q] at a
    cases x with
    | d x =>
      cases x with
      | bool b =>
        intro ks1 Hz1 H1 b' x1 c1 hb
        have hb' : b' = b := hb
        subst hb'
        exact a ks1 Hz1 H1 (!b') x1 c1 rfl
      | _ => exact a.elim
    | _ => exact a.elim
theorem rdNotV {Q : VK} (h : tE K W (notE ea) σ H Q) : tNotV (tE K W ea) σ H Q := by
  obtain ⟨ks, m, Hz, r, c, e, a⟩ := h
  refine ⟨ks, m, Hz, r, c, e, Aft.bind a fun x m1 ks1 Hz1 H1 v _ x1 c1 rv a1 => ?_⟩
  cases x with
  | d x =>
    cases x with
    | bool b => exact ⟨b, dpBool rv.rp, a1 ks1 Hz1 H1 _ (Ext.refl _ _ _) c1 (.d (.bl _))⟩
    | _ => exact a1.elim
  | _ => exact a1.elim
def iteE (et ea eb : Ev MV) : Ev MV := fun r m => (et r m).bind fun x m1 => (match x with
  | .d (.bool true) => ea r m1
  | .d (.bool false) => eb r m1
  | _ => .bad)
theorem rdIte {Q : VK} (h : tE K W (iteE ec ea eb) σ H Q) : tIf (tB' K W (evT ec)) (tE K W ea) (tE K W eb) σ H Q := by
  obtain ⟨ks, m, Hz, r, c, e, a⟩ := h
  unfold iteE at a
  refine ⟨ks, m, Hz, r, c, e, ?_⟩
  unfold evT
  cases q : ec r m with
  | bad => rw [q] at a; exact a.elim
  | ex cc x m1 => rw [q] at a; exact a
  | ok x m1 =>
    rw [q] at a
    cases x with
    | d x =>
      cases x with
      | bool b =>
        intro ks1 Hz1 H1 b' x1 c1 hb
        have hb' : b' = b := hb
        subst hb'
        cases b' with
        | true => exact ⟨ks1, m1, Hz1, r, c1, e.up x1, Aft.up x1 a⟩
        | false => exact ⟨ks1, m1, Hz1, r, c1, e.up x1, Aft.up x1 a⟩
      | _ => exact a.elim
    | _ => exact a.elim
theorem rdOrT {Q : VK} (h : tE K W (fun r m => (ea r m).bind fun x m1 => (match x with
    | .d (.list []) => eb r m1
    | .d (.list (x :: xs)) => .ok (.d (.list (x :: xs))) m1
    | _ => .bad)) σ H Q) : tOrT K (tE K W ea) (tE K W eb) σ H Q := by
  obtain ⟨ks, m, Hz, r, c, e, a⟩ := h
  refine ⟨ks, m, Hz, r, c, e, Aft.bind a fun x m1 ks1 Hz1 H1 v _ x1 c1 rv a1 => ?_⟩
  cases x with
  | d x =>
    cases x with
    | list xs =>
      obtain ⟨p, vs, rfl, hs, hd⟩ := dpLst rv.rp
      cases xs with
      | nil =>
        cases hd
        exact ⟨false, .inl ⟨[], SqL.of (c1.zh _ _ hs), rfl⟩, iteF ⟨ks1, m1, Hz1, r, c1, e.up x1, a1⟩⟩
      | cons y ys =>
        have hd' := hd
        cases hd with
        | cons d1 d2 => exact ⟨true, .inl ⟨_, SqL.of (c1.zh _ _ hs), rfl⟩, iteT (a1 ks1 Hz1 H1 _ (Ext.refl _ _ _) c1 (.d (.lst hs hd')))⟩
    | _ => exact a1.elim
  | _ => exact a1.elim
theorem rdChain {f g : D → D → Option Bool} {Q : VK} (h : tE K W (fun r m => (ea r m).bind fun x m1 => (eb r m1).bind fun y m2 => (match x, y with
    | .d x, .d y => (match f x y with
      | some true => (ec r m2).bind fun z m3 => (match z with
        | .d z => optB (g y z) m3
        | _ => .bad)
      | some false => .ok (.d (.bool false)) m2
      | none => .bad)
    | _, _ => .bad)) σ H Q) : tChain (rC2 K f) (rC2 K g) (tE K W ea) (tE K W eb) (tE K W ec) σ H Q := by
  obtain ⟨ks, m, Hz, r, c, e, a⟩ := h
  refine ⟨ks, m, Hz, r, c, e, Aft.bind a fun x m1 ks1 Hz1 H1 v _ x1 c1 rv a1 => ?_⟩
  refine ⟨ks1, m1, Hz1, r, c1, e.up x1, Aft.bind a1 fun y m2 ks2 Hz2 H2 u _ x2 c2 ru a2 => ?_⟩
  cases x with
  | d x =>
    cases y with
    | d y =>
      cases hf : f x y with
      | none => simp only [hf] at a2; exact a2.elim
      | some b =>
        cases b with
        | false =>
          simp only [hf] at a2
          exact ⟨ks2, m2, Hz2, x, y, false, c2, (rv.up x2).rp, ru.rp, hf, false, rfl, iteF (a2 ks2 Hz2 H2 _ (Ext.refl _ _ _) c2 (.d (.bl _)))⟩
        | true =>
          simp only [hf] at a2
          refine ⟨ks2, m2, Hz2, x, y, true, c2, (rv.up x2).rp, ru.rp, hf, true, rfl, iteT ⟨ks2, m2, Hz2, r, c2, (e.up x1).up x2, Aft.bind a2 fun z m3 ks3 Hz3 H3 w _ x3 c3 rw' a3 => ?_⟩⟩
          cases z with
          | d z =>
            cases hg : g y z with
            | none => simp only [hg, optB] at a3; exact a3.elim
            | some t =>
              simp only [hg, optB] at a3
              exact ⟨ks3, m3, Hz3, y, z, t, c3, (ru.up x3).rp, rw'.rp, hg, a3 ks3 Hz3 H3 _ (Ext.refl _ _ _) c3 (.d (.bl _))⟩
          | _ => exact a3.elim
    | _ => exact a2.elim
  | _ => exact a2.elim
theorem rdNeg {Q : VK} (h : tE K W (fun r m => (ea r m).bind fun x m1 => (match x with
    | .d (.int i) => .ok (.d (.int (-i))) m1
    | _ => .bad)) σ H Q) : tUn (rU fun i => .int (-i)) (tE K W ea) σ H Q := by
  obtain ⟨ks, m, Hz, r, c, e, a⟩ := h
  refine ⟨ks, m, Hz, r, c, e, Aft.bind a fun x m1 ks1 Hz1 H1 v _ x1 c1 rv a1 => ?_⟩
  cases x with
  | d x =>
    cases x with
    | int i => exact ⟨i, dpInt rv.rp, a1 ks1 Hz1 H1 _ (Ext.refl _ _ _) c1 (.d (.int _))⟩
    | _ => exact a1.elim
  | _ => exact a1.elim

/-! ### places and parts -/
theorem atI_map {α β : Type} {P : α → β → Prop} {xs : List α} {ys : List β} (hl : xs.length = ys.length) (h : ∀ (j : Nat) (b : β), ys[j]? = some b → ∃ a, xs[j]? = some a ∧ P a b) {i : Int} {b : β} (e : atI ys i = some b) : ∃ a, atI xs i = some a ∧ P a b := by
  unfold atI at e ⊢
  rw [hl]
  cases q : ixN ys.length i with
  | none => rw [q] at e; cases e
  | some j => rw [q] at e; exact h j b e
def rIdx (K : PySem.W.Frag) : R2 := fun x y H Q => ∃ ks m Hz mv d res, CR K ks m Hz H ∧ VR K ks Hz x mv ∧ Rp K Hz y d ∧ idxM mv d m = .ok (.d res) m ∧ ∀ v, Rp K Hz v res → Q v H
theorem optD_ok {o : Option D} {m : Mem} {res : D} (h : optD o m = .ok (.d res) m) : o = some res := by
  cases o with
  | none => cases h
  | some d => simp only [optD, Res.ok.injEq, MV.d.injEq, and_true] at h; rw [h]
theorem ix_ok {n : Nat} (hr : Room n X.A) : IxR X (rIdx X.K) := by
  intro e1 e2 pins s σ H x y v u Q I rx ry h hsub
  obtain ⟨ks, m, Hz, mv, d, res, c, rv, rd, e, q⟩ := h
  cases d with
  | int i =>
    rw [dpInt rd] at ry
    cases mv with
    | d z =>
      cases z with
      | list xs =>
        obtain ⟨p, vs, rfl, hs, hd⟩ := dpLst rv.rp
        have e' := optD_ok e
        obtain ⟨a, h1, h2⟩ := atI_map (daLen hd) (fun j b hb => daGetD hd hb) e'
        exact ix_list e1 e2 pins s σ H _ _ v u Q I rx ry ⟨p, vs, i, a, rfl, rfl, SqL.of (c.zh _ _ hs), h1, q a h2⟩ hsub
      | tuple xs =>
        obtain ⟨p, vs, rfl, hs, hd⟩ := dpTup rv.rp
        have e' := optD_ok e
        obtain ⟨a, h1, h2⟩ := atI_map (daLen hd) (fun j b hb => daGetD hd hb) e'
        exact ix_tup e1 e2 pins s σ H _ _ v u Q I rx ry ⟨p, vs, i, a, rfl, rfl, c.sqT hs, h1, q a h2⟩ hsub
      | _ => simp [idxM] at e
    | c k =>
      simp only [idxM] at e
      cases hm : m[k]? with
      | none => rw [hm] at e; cases e
      | some xs =>
        rw [hm] at e
        have e' := optD_ok e
        cases rv with
        | c hk =>
          obtain ⟨_, vs, hv, hd⟩ := c.at_ k _ xs hk hm
          obtain ⟨a, h1, h2⟩ := atI_map (daLen hd) (fun j b hb => daGetD hd hb) e'
          exact ix_list e1 e2 pins s σ H _ _ v u Q I rx ry ⟨_, vs, i, a, rfl, rfl, SqL.of hv, h1, q a h2⟩ hsub
    | t kvs =>
      have e' := optD_ok e
      have hu : X.A.units + 1 < cLine := by have := hr.un; omega
      cases rv with
      | t g1 g2 g3 =>
        rename_i a vs
        cases rx
        obtain ⟨w, k1, k2⟩ := (valT (i := i) g2).2 res e'
        have g : DGet H a (.int i) (some w) := by
          have := DGet.k (k := Sum.inl i) (c.zh _ _ g1)
          rw [k1] at this
          exact this
        exact tail_any (dict_typeIs I g) PySem.F.slot_dict_getitem.lookup (d_getItem hu I g ry fun w' s' I' rw' => ⟨w, H, I', rw', q w k2⟩) hsub
    | _ => simp [idxM] at e
  | _ => cases mv <;> simp [idxM] at e
theorem idxOk {mv : MV} {d : D} {m : Mem} {r : Res MV} (h : idxM mv d m = r) : r = .bad ∨ ∃ res, r = .ok (.d res) m := by
  subst h
  have : ∀ o : Option D, optD o m = .bad ∨ ∃ res, optD o m = .ok (.d res) m := fun o => by
    cases o with
    | none => exact .inl rfl
    | some d => exact .inr ⟨d, rfl⟩
  unfold idxM
  split
  · exact this _
  · exact this _
  · split
    · exact this _
    · exact .inl rfl
  · exact this _
  · exact .inl rfl
theorem rdIdx {Q : VK} (h : tE K W (fun r m => (ea r m).bind fun x m1 => (eb r m1).bind fun y m2 => (match y with
    | .d y => idxM x y m2
    | _ => .bad)) σ H Q) : tOp (rIdx K) (tE K W ea) (tE K W eb) σ H Q := by
  obtain ⟨ks, m, Hz, r, c, e, a⟩ := h
  refine ⟨ks, m, Hz, r, c, e, Aft.bind a fun x m1 ks1 Hz1 H1 v _ x1 c1 rv a1 => ?_⟩
  refine ⟨ks1, m1, Hz1, r, c1, e.up x1, Aft.bind a1 fun y m2 ks2 Hz2 H2 u _ x2 c2 ru a2 => ?_⟩
  cases y with
  | d y =>
    rcases idxOk (r := idxM x y m2) rfl with z | ⟨res, z⟩
    · simp only [z] at a2; exact a2.elim
    · simp only [z] at a2
      exact ⟨ks2, m2, Hz2, x, y, res, c2, rv.up x2, ru.rp, z, fun w hw => a2 ks2 Hz2 H2 w (Ext.refl _ _ _) c2 (.d hw)⟩
  | _ => exact a2.elim
/-- slices -/
def sD : MV → Option Int → Option Int → Option D
  | .d x, l, h => slcD x l h
  | .s ns, l, h => slcD (.list (ns.map .int)) l h
  | _, _, _ => none
def rSlc (K : PySem.W.Frag) : V → Option Int → Option Int → Hp → VK → Prop := fun x lo hi H Q => ∃ ks m Hz mv d, CR K ks m Hz H ∧ VR K ks Hz x mv ∧ sD mv lo hi = some d ∧ ∀ Hz' H' v, Ext ks Hz H ks Hz' H' → CR K ks m Hz' H' → Rp K Hz' v d → Q v H'
theorem daCut {Hz : Hp} {vs : List V} {ds : List D} (h : RpAll K Hz vs ds) (lo hi : Option Int) : RpAll K Hz (cutV vs lo hi) (cutD ds lo hi) := by
  unfold cutV cutD
  rw [daLen h]
  exact daTake _ (daDrop _ h)
theorem daInts {Hz : Hp} : ∀ ns : List Int, RpAll K Hz (ns.map V.int) (ns.map PyData.int)
  | [] => .nil
  | n :: ns => .cons (.int n) (daInts ns)
theorem slc_ok : SlR X (rSlc X.K) := by
  intro pins s σ H x v vl vu lo hi sl Q I rx hs pl pu h
  obtain ⟨ks, m, Hz, mv, d, c, rv, e, q⟩ := h
  cases mv with
  | d z =>
    cases z with
    | list xs =>
      obtain ⟨p, vs, rfl, h1, hd⟩ := dpLst rv.rp
      cases e
      exact sl_list pins s σ H _ v vl vu lo hi sl Q I rx hs pl pu ⟨p, vs, rfl, SqL.of (c.zh _ _ h1), fun p' n => made c q n (rpLst c n (daCut hd lo hi))⟩
    | tuple xs =>
      obtain ⟨p, vs, rfl, h1, hd⟩ := dpTup rv.rp
      cases e
      refine sl_tupA pins s σ H _ v vl vu lo hi sl Q I rx hs pl pu ⟨p, vs, rfl, c.sqT h1, fun z => ?_, fun z p' n => made c q n (rpTup c n (daCut hd lo hi))⟩
      have ec : cutD xs lo hi = xs := by
        unfold cutD
        rw [← daLen hd, z.1, z.2]
        have := daLen hd
        rw [List.drop_zero, Nat.sub_zero, this, List.take_length]
      rw [ec] at q
      exact stay c q rv.rp
    | _ => cases e
  | s ns =>
    cases rv with
    | s h1 =>
      cases e
      refine sl_list pins s σ H _ v vl vu lo hi sl Q I rx hs pl pu ⟨_, _, rfl, ?_, fun p' n => made c q n (rpLst c n (daCut (daInts ns) lo hi))⟩
      exact c.zh.seq h1
  | _ => cases e
def tOo (K : PySem.W.Frag) (W : WX) (ev : Ev (Option Int)) : TO := fun σ H Q => tR K (fun _ _ _ (v : Option Int) x => v = x) W ev σ H Q
theorem rdSlc {eo ep : Ev (Option Int)} {Q : VK} (h : tE K W (fun r m => (ea r m).bind fun x m1 => (eo r m1).bind fun l m2 => (ep r m2).bind fun h m3 => (match x with
    | .d x => optD (slcD x l h) m3
    | .s ns => optD (slcD (.list (ns.map .int)) l h) m3
    | _ => .bad)) σ H Q) : tSl (rSlc K) (tE K W ea) (tOo K W eo) (tOo K W ep) σ H Q := by
  obtain ⟨ks, m, Hz, r, c, e, a⟩ := h
  refine ⟨ks, m, Hz, r, c, e, Aft.bind a fun x m1 ks1 Hz1 H1 v _ x1 c1 rv a1 => ?_⟩
  refine ⟨ks1, m1, Hz1, r, c1, e.up x1, Aft.bind a1 fun l m2 ks2 Hz2 H2 l' _ x2 c2 rl a2 => ?_⟩
  refine ⟨ks2, m2, Hz2, r, c2, (e.up x1).up x2, Aft.bind a2 fun h m3 ks3 Hz3 H3 h' _ x3 c3 rh a3 => ?_⟩
  subst rl rh
  have go : ∀ o : Option D, sD x l' h' = o → Aft K (RV K) W ks3 Hz3 H3 σ Q (optD o m3) → rSlc K v l' h' H3 Q := fun o eo ao => by
    cases o with
    | none => exact ao.elim
    | some d => exact ⟨ks3, m3, Hz3, x, d, c3, (rv.up x2).up x3, eo, fun Hz4 H4 w x4 c4 rw' => ao ks3 Hz4 H4 w x4 c4 (.d rw')⟩
  cases x with
  | d x => exact go _ rfl a3
  | s ns => exact go _ rfl a3
  | _ => exact a3.elim
theorem rdNo {Q : Option Int → Hp → Prop} (h : tOo K W (fun _ m => .ok none m) σ H Q) : tNoPart σ H Q := by
  obtain ⟨ks, m, Hz, r, c, e, a⟩ := h
  exact a ks Hz H none (Ext.refl _ _ _) c rfl
theorem rdPart {Q : Option Int → Hp → Prop} (h : tOo K W (fun r m => (ea r m).bind fun x m1 => (match x with
    | .d (.int i) => .ok (some i) m1
    | _ => .bad)) σ H Q) : tPart (tE K W ea) σ H Q := by
  obtain ⟨ks, m, Hz, r, c, e, a⟩ := h
  refine ⟨ks, m, Hz, r, c, e, Aft.bind a fun x m1 ks1 Hz1 H1 v _ x1 c1 rv a1 => ?_⟩
  cases x with
  | d x =>
    cases x with
    | int i => exact ⟨i, dpInt rv.rp, a1 ks1 Hz1 H1 _ (Ext.refl _ _ _) c1 rfl⟩
    | _ => exact a1.elim
  | _ => exact a1.elim
theorem daRev {Hz : Hp} {vs : List V} {xs : List D} (hd : RpAll K Hz vs xs) : RpAll K Hz vs.reverse xs.reverse := daOf (by simp [daLen hd]) fun i v d h1 h2 => by
  have hl := daLen hd
  have hi : i < vs.length := by simpa using (List.getElem?_eq_some_iff.mp h1).1
  rw [List.getElem?_reverse hi] at h1
  rw [List.getElem?_reverse (by omega)] at h2
  rw [hl] at h1
  obtain ⟨d', q1, q2⟩ := daGet hd h1
  rw [q1] at h2
  cases h2
  exact q2
theorem rdRev {Q : VK} (h : tE K W (fun r m => (ea r m).bind fun x m1 => (match x with
    | .d (.list xs) => .ok (.d (.list xs.reverse)) m1
    | .d (.tuple xs) => .ok (.d (.tuple xs.reverse)) m1
    | _ => .bad)) σ H Q) : tRevA K (tE K W ea) σ H Q := by
  obtain ⟨ks, m, Hz, r, c, e, a⟩ := h
  refine ⟨ks, m, Hz, r, c, e, Aft.bind a fun x m1 ks1 Hz1 H1 v _ x1 c1 rv a1 => ?_⟩
  cases x with
  | d x =>
    cases x with
    | list xs =>
      obtain ⟨p, vs, rfl, hs, hd⟩ := dpLst rv.rp
      exact ⟨p, vs, rfl, .inl ⟨SqL.of (c1.zh _ _ hs), fun q n => a1 ks1 _ _ _ (Ext.new c1 n _) (c1.new n _) (.d (rpLst c1 n (daRev hd)))⟩⟩
    | tuple xs =>
      obtain ⟨p, vs, rfl, hs, hd⟩ := dpTup rv.rp
      exact ⟨p, vs, rfl, .inr ⟨c1.sqT hs, fun q n => a1 ks1 _ _ _ (Ext.new c1 n _) (c1.new n _) (.d (rpTup c1 n (daRev hd)))⟩⟩
    | _ => exact a1.elim
  | _ => exact a1.elim
/-- own lists -/
theorem rdLenO {i : Nat} {Q : VK} (h : tE K W (fun r m => (match r[i]? with
    | some (.own xs) => .ok (.d (.int xs.length)) m
    | _ => .bad)) σ H Q) : tCB (fun xs H Q => ∃ p ys, xs = [.ref p] ∧ (SqL K H p ys ∨ SqT K H p ys) ∧ Q (.int ys.length) H) (tCons (tVar i) tNil) σ H Q := by
  obtain ⟨ks, m, Hz, r, c, e, a⟩ := h
  cases hr : r[i]? with
  | none => simp only [hr] at a; exact a.elim
  | some s =>
    cases s with
    | own xs =>
      simp only [hr] at a
      have z := e.at_ i _ hr
      generalize ho : σ[i]? = o at z
      cases z with
      | own h1 h2 h3 h4 =>
        refine ⟨_, ho, _, _, rfl, .inl (SqL.of h1), ?_⟩
        rw [daLen h2]
        exact a ks Hz H _ (Ext.refl _ _ _) c (.d (.int _))
    | _ => simp only [hr] at a; exact a.elim
theorem rdIdxO {i : Nat} {Q : VK} (h : tE K W (fun r m => (match r[i]? with
    | some (.own xs) => (ea r m).bind fun y m1 => (match y with
      | .d (.int j) => optD (atI xs j) m1
      | _ => .bad)
    | _ => .bad)) σ H Q) : tOp (rIxL K) (tVar i) (tE K W ea) σ H Q := by
  obtain ⟨ks, m, Hz, r, c, e, a⟩ := h
  cases hr : r[i]? with
  | none => simp only [hr] at a; exact a.elim
  | some s =>
    cases s with
    | own xs =>
      simp only [hr] at a
      have z := e.at_ i _ hr
      generalize ho : σ[i]? = o at z
      cases z with
      | own h1 h2 h3 h4 =>
        refine ⟨_, ho, ks, m, Hz, r, c, e, Aft.bind a fun y m1 ks1 Hz1 H1 v _ x1 c1 rv a1 => ?_⟩
        cases y with
        | d y =>
          cases y with
          | int j =>
            cases q : atI xs j with
            | none => simp only [q, optD] at a1; exact a1.elim
            | some d =>
              simp only [q, optD] at a1
              obtain ⟨w, q1, q2⟩ := atI_map (daLen h2) (fun j b hb => daGetD h2 hb) q
              exact ⟨_, _, j, w, rfl, dpInt rv.rp, SqL.of (x1.fr _ _ h1 h4), q1, a1 ks1 Hz1 H1 w (Ext.refl _ _ _) c1 (.d (dpUp x1.zs _ _ q2))⟩
          | _ => exact a1.elim
        | _ => exact a1.elim
    | _ => simp only [hr] at a; exact a.elim
end
end Mp

set_option Elab.async false
set_option linter.all false
set_option maxRecDepth 100000
set_option maxHeartbeats 1000000
namespace Mp
open PySem PySem.Spec PyProof.Rows L2
/-! ### isinstance -/
def tyN : D → String
  | .none => "NoneType"
  | .bool _ => "bool"
  | .int _ => "int"
  | .str _ => "str"
  | .list _ => "list"
  | .tuple _ => "tuple"
  | .dict _ => "dict"
theorem kit_tab : ∀ a ∈ ["NoneType", "bool", "int", "str", "list", "tuple"], ∀ t ∈ ["int", "bool", "str", "list", "tuple", "dict"], kitB a t = some (a == t || (a == "bool" && t == "int")) := by decide +kernel
theorem kit_is {d : D} {t : String} (hd : ∀ k, d ≠ .dict k) (h : tyName t = true) : kitB (tyN d) t = some (isD d t) := by
  have ht : t ∈ ["int", "bool", "str", "list", "tuple", "dict"] := by
    unfold tyName at h
    simp only [Bool.or_eq_true, beq_iff_eq] at h
    simp only [List.mem_cons, List.not_mem_nil, or_false]
    rcases h with ((((h | h) | h) | h) | h) | h <;> simp [h]
  have ha : tyN d ∈ ["NoneType", "bool", "int", "str", "list", "tuple"] := by
    cases d <;> first | (exact absurd rfl (hd _)) | (simp [tyN])
  rw [kit_tab _ ha _ ht]
  simp only [List.mem_cons, List.not_mem_nil, or_false] at ht
  cases d with
  | dict k => exact absurd rfl (hd _)
  | _ => rcases ht with rfl | rfl | rfl | rfl | rfl | rfl <;> rfl
theorem rpNoDict {K : PySem.W.Frag} {Hz : Hp} {v : V} {d : D} (r : Rp K Hz v d) : ∀ k, d ≠ .dict k := fun k e => by subst e; cases r
theorem tyx {K : PySem.W.Frag} {ks : List Addr} {m : Mem} {Hz H : Hp} {v : V} {d : D} (c : CR K ks m Hz H) (r : Rp K Hz v d) : TyX K H v (.type (tyN d)) := by
  cases r with
  | non => exact .base .non
  | bl b => exact .base (.bl b)
  | int i => exact .base (.int i)
  | str x => exact .base (.str x)
  | lst a b => exact .base (.lst (c.zh _ _ a))
  | tup a b =>
    rcases c.sqT a with (z | ⟨o, z⟩) | ⟨o, its, n, hk, hc, hd, _⟩
    · exact .base (.tup z)
    · exact .fTuple z
    · exact .kTuple hk hc
theorem kit_any {K : PySem.W.Frag} {d : D} (hd : ∀ k, d ≠ .dict k) : ∀ {ts : List String}, ts.all tyName = true → PySem.W.kitAny K (.type (tyN d)) (ts.map Value.type) = some (ts.any fun t => isD d t)
  | [], _ => kitAny_nil
  | t :: ts, h => by
    simp only [List.all_cons, Bool.and_eq_true] at h
    simp only [List.map_cons, List.any_cons]
    refine kitAny_cons (kit_ty (kit_is hd h.1)) (fun e => ?_) fun e => by rw [e]; rfl
    rw [e, Bool.false_or]
    exact kit_any hd h.2
theorem cls_all : ∀ ts : List String, Paired ClsV (ts.map V.ty) (ts.map Value.type)
  | [] => .nil
  | t :: ts => .cons (.ty t) (cls_all ts)
def tTys : List String → TA
  | [] => tNil
  | t :: ts => tCons (tC (.ty t)) (tTys ts)
theorem tTys_rd {σ : L2.St} {H : Hp} {Q : List V → Hp → Prop} : ∀ {ts : List String}, Q (ts.map V.ty) H → tTys ts σ H Q
  | [], h => h
  | t :: ts, h => by
    show tTys ts σ H fun xs H2 => Q (V.ty t :: xs) H2
    exact tTys_rd (Q := fun xs H2 => Q (V.ty t :: xs) H2) h
theorem bootTy {t : String} (h : tyName t = true) : bootBuiltins (Str.ofString t) = some (.type t) := by
  unfold tyName at h
  simp only [Bool.or_eq_true, beq_iff_eq] at h
  rcases h with ((((h | h) | h) | h) | h) | h <;> subst h <;> decide +kernel
theorem tyInB {t : String} (h : tyName t = true) : Str.ofString t ∈ bnames := by
  unfold tyName at h
  simp only [Bool.or_eq_true, beq_iff_eq] at h
  rcases h with ((((h | h) | h) | h) | h) | h <;> subst h <;> decide +kernel
theorem tyOkN {t : String} (h : tyName t = true) : okName (Str.ofString t) = true := by
  unfold tyName at h
  simp only [Bool.or_eq_true, beq_iff_eq] at h
  rcases h with ((((h | h) | h) | h) | h) | h <;> subst h <;> decide +kernel
section
variable {T : Tab} {cl : Calls} {n : Nat} {W : WX} {X : Cx}
theorem pe_ty (o : OkX T cl n W X) {t : String} {e : Expr} (h : tyIs X.env.scope t e = true) : PE X e (tC (.ty t)) := by
  cases e <;> simp only [tyIs, Bool.and_eq_true, beq_iff_eq, Bool.false_eq_true] at h
  obtain ⟨⟨h1, h2⟩, h3⟩ := h
  subst h1
  obtain ⟨k1, k2, k3⟩ := okN (tyOkN h3)
  exact pe_bltn (gl_of h2) (o.free _ (tyInB h3)) (bootTy h3) rfl k3 k1
theorem pa_tys (o : OkX T cl n W X) : ∀ {ts : List String} {es : List Expr}, tysAre X.env.scope ts es = true → es.all noStar = true → PA X es (tTys ts)
  | [], [], _, _ => pa_nil
  | t :: ts, e :: es, h, s => by
    simp only [tysAre, Bool.and_eq_true] at h
    simp only [List.all_cons, Bool.and_eq_true] at s
    exact pa_cons (pe_ty o h.1) (pa_tys o h.2 s.2) (starOne s.1 _ _)
  | [], _ :: _, h, _ => by simp [tysAre] at h
  | _ :: _, [], h, _ => by simp [tysAre] at h
theorem tysNames {sc : Scope} : ∀ {ts : List String} {es : List Expr}, tysAre sc ts es = true → ts.all tyName = true
  | [], _, _ => rfl
  | t :: ts, e :: es, h => by
    simp only [tysAre, Bool.and_eq_true] at h
    have := tysNames h.2
    have h1 := h.1
    cases e <;> simp only [tyIs, Bool.and_eq_true, Bool.false_eq_true] at h1
    simp [h1.2, this]
  | _ :: _, [], h => by simp [tysAre] at h
theorem rdIsin1 {K : PySem.W.Frag} {ea : Ev MV} {t : String} (ht : tyName t = true) {σ : L2.St} {H : Hp} {Q : VK} (h : tE K W (fun r m => (ea r m).bind fun x m1 => (match x with
    | .d x => .ok (.d (.bool ([t].any fun t => isD x t))) m1
    | _ => .bad)) σ H Q) : tCB (rIsi K) (tCons (tE K W ea) (tCons (tC (.ty t)) tNil)) σ H Q := by
  obtain ⟨ks, m, Hz, r, c, e, a⟩ := h
  refine ⟨ks, m, Hz, r, c, e, Aft.bind a fun x m1 ks1 Hz1 H1 v _ x1 c1 rv a1 => ?_⟩
  cases x with
  | d x =>
    have rr := rv.rp
    refine ⟨v, .ty t, .type (tyN x), .type t, isD x t, rfl, .ty t, tyx c1 rr, kit_ty (kit_is (rpNoDict rr) ht), ?_⟩
    have z : ([t].any fun t => isD x t) = isD x t := by simp
    rw [← z]
    exact a1 ks1 Hz1 H1 _ (Ext.refl _ _ _) c1 (.d (.bl _))
  | _ => exact a1.elim
theorem rdIsinT {K : PySem.W.Frag} {ea : Ev MV} {ts : List String} (ht : ts.all tyName = true) (hl : ts.length ≤ 100) {σ : L2.St} {H : Hp} {Q : VK} (h : tE K W (fun r m => (ea r m).bind fun x m1 => (match x with
    | .d x => .ok (.d (.bool (ts.any fun t => isD x t))) m1
    | _ => .bad)) σ H Q) : tCB (rIsiT K) (tCons (tE K W ea) (tCons (tTup (tTys ts)) tNil)) σ H Q := by
  obtain ⟨ks, m, Hz, r, c, e, a⟩ := h
  refine ⟨ks, m, Hz, r, c, e, Aft.bind a fun x m1 ks1 Hz1 H1 v _ x1 c1 rv a1 => ?_⟩
  have hs : (100 : Nat) ≤ sizeLine := by decide
  refine tTys_rd ⟨by rw [List.length_map]; omega, fun p np => ?_⟩
  cases x with
  | d x =>
    have rr := rv.rp
    refine ⟨v, p, ts.map V.ty, .type (tyN x), ts.map Value.type, ts.any fun t => isD x t, rfl, upd_same, cls_all ts, ?_, kit_any (rpNoDict rr) ht, ?_⟩
    · exact tyx (c1.new np _) (dpUp (Ext.new c1 np _).zs _ _ rr)
    · exact a1 ks1 _ _ _ (Ext.new c1 np _) (c1.new np _) (.d (.bl _))
  | _ => exact a1.elim

/-! ### what is walked -/
def iAny (K : PySem.W.Frag) (tl : TE) : TI := fun σ H R => tl σ H fun x H1 => ∃ a, x = .ref a ∧ ((∃ xs, SqL K H1 a xs ∧ R (Itl K a) H1) ∨ ∃ xs, SqT K H1 a xs ∧ R (Itt K a) H1)
theorem pi_any {tg l : Expr} {tl : TE} (hl : PE X l tl) : PI X tg l (iAny X.K tl) := ⟨fun pins s σ H R I h => by
  refine thn (hl.run pins s σ H _ I h) fun v s1 w => ?_
  obtain ⟨x, H1, J, rx, a, rfl, w⟩ := w
  cases rx
  have fin : ∀ (tn : Nat) (it : Addr), s1.heap.objs.size = it → FpOk X pins H1 it := fun tn it e => by
    subst e
    exact J.fpOk (Nat.le_refl _) (J.hok.fresh (Nat.le_refl _))
  rcases w with ⟨xs, hx, w⟩ | ⟨xs, hx, w⟩
  · obtain ⟨us, _, pl, _⟩ := J.list hx
    refine wpAny_pyIter_list pl.isList ⟨s1.heap.objs.size, [s1.heap.objs.size], _, _, H1, rfl, J.kept (t' := s1.toks) fun b o q => Heap.get?_push_of_some _ q, turn_list a _, ⟨_, Heap.get?_push_size _ rfl, rfl, rfl⟩, fun b hb => ?_, w⟩
    exact fin 0 b (List.mem_singleton.mp hb).symm
  · obtain ⟨us, _, pt, _⟩ := J.tuple hx
    refine wpAny_pyIter_tuple (show s1.heap.IsTuple a us.toArray from pt) ⟨s1.heap.objs.size, [s1.heap.objs.size], _, _, H1, rfl, J.kept (t' := s1.toks) fun b o q => Heap.get?_push_of_some _ q, turn_tuple a _, ⟨_, Heap.get?_push_size _ rfl, rfl, rfl⟩, fun b hb => ?_, w⟩
    exact fin 0 b (List.mem_singleton.mp hb).symm⟩
theorem piMono {tg e : Expr} {t t' : TI} (h : PI X tg e t) (f : ∀ σ H R, t' σ H R → t σ H R) : PI X tg e t' := ⟨fun pins s σ H R I q => h.run pins s σ H R I (f σ H R q)⟩
theorem rdIDat {K : PySem.W.Frag} {ea : Ev MV} {σ : L2.St} {H : Hp} {R : It → Hp → Prop} (h : tI K W (fun r m => (ea r m).bind fun x m1 => (match x with
    | .d (.list xs) => .ok (xs.map .d) m1
    | .d (.tuple xs) => .ok (xs.map .d) m1
    | _ => .bad)) σ H R) : iAny K (tLen K (tE K W ea)) σ H R := by
  obtain ⟨ks, m, Hz, r, c, e, a⟩ := h
  refine ⟨ks, m, Hz, r, c, e, Aft.bind a fun x m1 ks1 Hz1 H1 v _ x1 c1 rv a1 hlen => ?_⟩
  cases x with
  | d x =>
    cases x with
    | list xs =>
      obtain ⟨p, vs, rfl, hs, hd⟩ := dpLst rv.rp
      exact ⟨p, rfl, .inl ⟨vs, SqL.of (c1.zh _ _ hs), a1 ks1 Hz1 H1 _ (Ext.refl _ _ _) c1 (wlkL hs hd (hlen p vs rfl (.inl (SqL.of (c1.zh _ _ hs)))))⟩⟩
    | tuple xs =>
      obtain ⟨p, vs, rfl, hs, hd⟩ := dpTup rv.rp
      exact ⟨p, rfl, .inr ⟨vs, c1.sqT hs, a1 ks1 Hz1 H1 _ (Ext.refl _ _ _) c1 (wlkT hs hd (hlen p vs rfl (.inr (c1.sqT hs))))⟩⟩
    | _ => exact a1.elim
  | _ => exact a1.elim
theorem rgB {a b : Int} (h : rgOk a b = true) : -(2 ^ 62) ≤ a ∧ a < 2 ^ 62 ∧ -(2 ^ 62) ≤ b ∧ b < 2 ^ 62 ∧ (b - a).toNat ≤ sizeLine := of_decide_eq_true h
theorem rdRg1 {K : PySem.W.Frag} {ea : Ev MV} {σ : L2.St} {H : Hp} {R : It → Hp → Prop} (h : tI K W (fun r m => (ea r m).bind fun x m1 => (match x with
    | .d (.int n) => if rgOk 0 n then .ok ((rangeD 0 n).map .d) m1 else .bad
    | _ => .bad)) σ H R) : iRng1 (tCons (tE K W ea) tNil) σ H R := by
  obtain ⟨ks, m, Hz, r, c, e, a⟩ := h
  refine ⟨ks, m, Hz, r, c, e, Aft.bind a fun x m1 ks1 Hz1 H1 v _ x1 c1 rv a1 => ?_⟩
  cases x with
  | d x =>
    cases x with
    | int n =>
      simp only at a1
      split at a1
      · rename_i hr
        obtain ⟨b1, b2, b3, b4, b5⟩ := rgB hr
        refine ⟨n, by rw [dpInt rv.rp], b3, b4, ?_⟩
        have w : Wlk K (Itr 0 (n - 0).toNat) ((rangeD 0 n).map .d) Hz1 := wlkR b5
        rw [Int.sub_zero] at w
        exact a1 ks1 Hz1 H1 _ (Ext.refl _ _ _) c1 w
      · exact a1.elim
    | _ => exact a1.elim
  | _ => exact a1.elim
theorem rdRg2 {K : PySem.W.Frag} {ea eb : Ev MV} {σ : L2.St} {H : Hp} {R : It → Hp → Prop} (h : tI K W (fun r m => (ea r m).bind fun x m1 => (eb r m1).bind fun y m2 => (match x, y with
    | .d (.int i), .d (.int n) => if rgOk i n then .ok ((rangeD i n).map .d) m2 else .bad
    | _, _ => .bad)) σ H R) : iRng2 (tCons (tE K W ea) (tCons (tE K W eb) tNil)) σ H R := by
  obtain ⟨ks, m, Hz, r, c, e, a⟩ := h
  refine ⟨ks, m, Hz, r, c, e, Aft.bind a fun x m1 ks1 Hz1 H1 v _ x1 c1 rv a1 => ?_⟩
  refine ⟨ks1, m1, Hz1, r, c1, e.up x1, Aft.bind a1 fun y m2 ks2 Hz2 H2 u _ x2 c2 ru a2 => ?_⟩
  cases x with
  | d x =>
    cases x with
    | int i =>
      cases y with
      | d y =>
        cases y with
        | int n =>
          simp only at a2
          split at a2
          · rename_i hr
            obtain ⟨b1, b2, b3, b4, b5⟩ := rgB hr
            exact ⟨i, n, by rw [dpInt rv.rp, dpInt ru.rp], ⟨b1, b2, b3, b4⟩, a2 ks2 Hz2 H2 _ (Ext.refl _ _ _) c2 (wlkR b5)⟩
          · exact a2.elim
        | _ => exact a2.elim
      | _ => exact a2.elim
    | _ => exact a2.elim
  | _ => exact a2.elim
theorem seqOf {K : PySem.W.Frag} {ks : List Addr} {m : Mem} {Hz H : Hp} {v : V} {x : D} {xs : List D} (c : CR K ks m Hz H) (rv : VR K ks Hz v (.d x)) (h : itemsOf x = some xs) : ∃ t p vs, v = .ref p ∧ SqK t K Hz p vs ∧ RpAll K Hz vs xs ∧ (SqL K H p vs ∨ SqT K H p vs) := by
  cases x with
  | list ys =>
    cases h
    obtain ⟨p, vs, rfl, hs, hd⟩ := dpLst rv.rp
    exact ⟨false, p, vs, rfl, SqL.of hs, hd, .inl (SqL.of (c.zh _ _ hs))⟩
  | tuple ys =>
    cases h
    obtain ⟨p, vs, rfl, hs, hd⟩ := dpTup rv.rp
    exact ⟨true, p, vs, rfl, hs, hd, .inr (c.sqT hs)⟩
  | _ => cases h
theorem rdEnum {K : PySem.W.Frag} {ea : Ev MV} {σ : L2.St} {H : Hp} {R : It → Hp → Prop} (h : tI K W (fun r m => (ea r m).bind fun x m1 => (match x with
    | .d (.list xs) => .ok ((enumD 0 xs).map .d) m1
    | .d (.tuple xs) => .ok ((enumD 0 xs).map .d) m1
    | _ => .bad)) σ H R) : iEnumK K (tCons (tLen K (tE K W ea)) tNil) σ H R := by
  obtain ⟨ks, m, Hz, r, c, e, a⟩ := h
  refine ⟨ks, m, Hz, r, c, e, Aft.bind a fun x m1 ks1 Hz1 H1 v _ x1 c1 rv a1 hlen => ?_⟩
  have go : ∀ dx xs, x = .d dx → itemsOf dx = some xs → Aft K (fun _ Hz _ J xs => Wlk K J xs Hz) W ks1 Hz1 H1 σ R (.ok ((enumD 0 xs).map .d) m1) → ∃ (t : Bool) (a : Addr) (vs : List V), [v] = [.ref a] ∧ SqK t K H1 a vs ∧ R (ItE K t a) H1 := by
    rintro dx xs rfl hx a3
    obtain ⟨t, p, vs, rfl, hs, hd, hq⟩ := seqOf c1 rv hx
    exact ⟨t, p, vs, rfl, crSq c1 hs, a3 ks1 Hz1 H1 _ (Ext.refl _ _ _) c1 (wlkEK hs hd (hlen p vs rfl hq))⟩
  split at a1
  · exact go _ _ rfl rfl a1
  · exact go _ _ rfl rfl a1
  · exact a1.elim
theorem rdZip {K : PySem.W.Frag} {ea eb : Ev MV} {σ : L2.St} {H : Hp} {R : It → Hp → Prop} (h : tI K W (fun r m => (ea r m).bind fun x m1 => (eb r m1).bind fun y m2 => (match x, y with
    | .d (.list xs), .d (.list ys) => .ok ((zipD xs ys).map .d) m2
    | .d (.tuple xs), .d (.tuple ys) => .ok ((zipD xs ys).map .d) m2
    | .d (.list xs), .d (.tuple ys) => .ok ((zipD xs ys).map .d) m2
    | .d (.tuple xs), .d (.list ys) => .ok ((zipD xs ys).map .d) m2
    | _, _ => .bad)) σ H R) : iZipK K (tCons (tLen K (tE K W ea)) (tCons (tE K W eb) tNil)) σ H R := by
  obtain ⟨ks, m, Hz, r, c, e, a⟩ := h
  refine ⟨ks, m, Hz, r, c, e, Aft.bind a fun x m1 ks1 Hz1 H1 v _ x1 c1 rv a1 hlen => ?_⟩
  refine ⟨ks1, m1, Hz1, r, c1, e.up x1, Aft.bind a1 fun y m2 ks2 Hz2 H2 u _ x2 c2 ru a2 => ?_⟩
  have go : ∀ dx dy xs ys, x = .d dx → y = .d dy → itemsOf dx = some xs → itemsOf dy = some ys →
      Aft K (fun _ Hz _ J xs => Wlk K J xs Hz) W ks2 Hz2 H2 σ R (.ok ((zipD xs ys).map .d) m2) → ∃ (t u' : Bool) (a b : Addr) (vs ws : List V), [v, u] = [.ref a, .ref b] ∧ SqK t K H2 a vs ∧ SqK u' K H2 b ws ∧ R (ItzK K t u' a b) H2 := by
    rintro dx dy xs ys rfl rfl hx hy a3
    obtain ⟨t, p, vs, rfl, hs, hd, hq⟩ := seqOf c1 rv hx
    obtain ⟨u', q, ws, rfl, ht, he, _⟩ := seqOf c2 ru hy
    have hs2 := sqUp x2.zs hs
    exact ⟨t, u', p, q, vs, ws, rfl, crSq c2 hs2, crSq c2 ht, a3 ks2 Hz2 H2 _ (Ext.refl _ _ _) c2 (wlkK hs2 ht (daUp x2.zs _ _ hd) he (hlen p vs rfl hq))⟩
  split at a2
  · exact go _ _ _ _ rfl rfl rfl rfl a2
  · exact go _ _ _ _ rfl rfl rfl rfl a2
  · exact go _ _ _ _ rfl rfl rfl rfl a2
  · exact go _ _ _ _ rfl rfl rfl rfl a2
  · exact a2.elim
/-- list(range(..)), tuple(range(..)) -/
theorem rgV_D {a b : Int} {Hz : Hp} {K : PySem.W.Frag} : RpAll K Hz (rgV a b) (rangeD a b) := by
  refine daOf (by simp [rgV, rangeD]) fun i v d h1 h2 => ?_
  simp only [rgV, rangeD, List.getElem?_map] at h1 h2
  cases q : (List.range (b - a).toNat)[i]? with
  | none => rw [q] at h1; cases h1
  | some j =>
    rw [q] at h1 h2
    cases h1
    cases h2
    exact .int _
theorem rdLrg {K : PySem.W.Frag} {ea : Ev MV} {σ : L2.St} {H : Hp} {Q : VK} (h : tE K W (fun r m => (ea r m).bind fun x m1 => (match x with
    | .d x => optD (b1D .lrg x) m1
    | _ => .bad)) σ H Q) : tLstRg (tRg1 (tE K W ea)) σ H Q := by
  obtain ⟨ks, m, Hz, r, c, e, a⟩ := h
  refine ⟨ks, m, Hz, r, c, e, Aft.bind a fun x m1 ks1 Hz1 H1 v _ x1 c1 rv a1 => ?_⟩
  cases x with
  | d x =>
    cases x with
    | int n =>
      simp only [b1D] at a1
      split at a1
      · rename_i hr
        obtain ⟨b1, b2, b3, b4, b5⟩ := rgB hr
        have hs : (sizeLine : Nat) = 2 ^ 24 := by decide
        refine ⟨n, dpInt rv.rp, ⟨b1, b2, b3, b4, by omega⟩, fun q np => ?_⟩
        exact a1 ks1 _ _ _ (Ext.new c1 np _) (c1.new np _) (.d (rpLst c1 np rgV_D))
      · exact a1.elim
    | _ => exact a1.elim
  | _ => exact a1.elim
theorem rdTrg {K : PySem.W.Frag} {ea : Ev MV} {σ : L2.St} {H : Hp} {Q : VK} (h : tE K W (fun r m => (ea r m).bind fun x m1 => (match x with
    | .d x => optD (b1D .trg x) m1
    | _ => .bad)) σ H Q) : tTupRg (tRg1 (tE K W ea)) σ H Q := by
  obtain ⟨ks, m, Hz, r, c, e, a⟩ := h
  refine ⟨ks, m, Hz, r, c, e, Aft.bind a fun x m1 ks1 Hz1 H1 v _ x1 c1 rv a1 => ?_⟩
  cases x with
  | d x =>
    cases x with
    | int n =>
      simp only [b1D] at a1
      split at a1
      · rename_i hr
        obtain ⟨b1, b2, b3, b4, b5⟩ := rgB hr
        have hs : (sizeLine : Nat) = 2 ^ 24 := by decide
        refine ⟨n, dpInt rv.rp, ⟨b1, b2, b3, b4, by omega⟩, fun q np => ?_⟩
        exact a1 ks1 _ _ _ (Ext.new c1 np _) (c1.new np _) (.d (rpTup c1 np rgV_D))
      · exact a1.elim
    | _ => exact a1.elim
  | _ => exact a1.elim
theorem rdMm {K : PySem.W.Frag} {W : WX} {ea eb : Ev MV} {mx : Bool} {σ : L2.St} {H : Hp} {Q : VK} (h : tE K W (fun r m => (ea r m).bind fun x m1 => (eb r m1).bind fun y m2 => (match x, y with
    | .d (.int i), .d (.int j) => .ok (.d (.int (if mx then (if j > i then j else i) else (if j < i then j else i)))) m2
    | _, _ => .bad)) σ H Q) : tCB (fun xs H Q => ∃ i j : Int, xs = [.int i, .int j] ∧ Q (.int (if mx then (if j > i then j else i) else (if j < i then j else i))) H) (tCons (tE K W ea) (tCons (tE K W eb) tNil)) σ H Q := by
  obtain ⟨ks, m, Hz, r, c, e, a⟩ := h
  refine ⟨ks, m, Hz, r, c, e, Aft.bind a fun x m1 ks1 Hz1 H1 v _ x1 c1 rv a1 => ?_⟩
  refine ⟨ks1, m1, Hz1, r, c1, e.up x1, Aft.bind a1 fun y m2 ks2 Hz2 H2 u _ x2 c2 ru a2 => ?_⟩
  cases x with
  | d x =>
    cases y with
    | d y =>
      cases x with
      | int i =>
        cases y with
        | int j =>
          exact ⟨i, j, by rw [dpInt rv.rp, dpInt ru.rp], a2 ks2 Hz2 H2 _ (Ext.refl _ _ _) c2 (.d (.int _))⟩
        | _ => exact a2.elim
      | _ => cases y <;> exact a2.elim
    | _ => cases x <;> exact a2.elim
  | _ => exact a2.elim
theorem findMin {ds : List D} {x : D} : ∀ {i : Nat}, findD ds x = some i → ∃ z, ds[i]? = some z ∧ PyData.eqv z x = true ∧ ∀ (m : Nat) (z' : PyData), m < i → ds[m]? = some z' → PyData.eqv z' x = false := by
  unfold findD
  induction ds with
  | nil => intro i h; simp at h
  | cons d ds ih =>
    intro i h
    rw [List.findIdx?_cons] at h
    cases hd : PyData.eqv d x with
    | true =>
      simp only [hd, if_true, Option.some.injEq] at h
      subst h
      exact ⟨d, rfl, hd, fun m z' hm _ => by omega⟩
    | false =>
      simp only [hd] at h
      simp only [Bool.false_eq_true, if_false, Option.map_eq_some_iff] at h
      obtain ⟨j, hj, rfl⟩ := h
      obtain ⟨z, h1, h2, h3⟩ := ih hj
      refine ⟨z, by simpa using h1, h2, fun m z' hm hz => ?_⟩
      cases m with
      | zero => simp at hz; subst hz; exact hd
      | succ m => exact h3 m z' (by omega) (by simpa using hz)
theorem rdIndex {K : PySem.W.Frag} {W : WX} {ea eb : Ev MV} {σ : L2.St} {H : Hp} {Q : VK} (h : tE K W (fun r m => (ea r m).bind fun x m1 => (match x with
    | .d (.list xs) => (eb r m1).bind fun y m2 => (match y with
      | .d y => if plain y = true ∧ plain (.list xs) = true then (match findD xs y with
        | some i => .ok (.d (.int (i : Int))) m2
        | none => .bad) else .bad
      | _ => .bad)
    | _ => .bad)) σ H Q) : tBM K "list" (rIndexD K) (tE K W ea) (tCons (tE K W eb) tNil) σ H Q := by
  obtain ⟨ks, m, Hz, r, c, e, a⟩ := h
  refine ⟨ks, m, Hz, r, c, e, Aft.bind a fun x m1 ks1 Hz1 H1 v _ x1 c1 rv a1 => ?_⟩
  cases x with
  | d x =>
    cases x with
    | list xs =>
      obtain ⟨p, vs, rfl, hs, hd⟩ := dpLst rv.rp
      refine ⟨.inl ⟨rfl, vs, SqL.of (c1.zh _ _ hs)⟩, ks1, m1, Hz1, r, c1, e.up x1, Aft.bind a1 fun y m2 ks2 Hz2 H2 u _ x2 c2 ru a2 => ?_⟩
      cases y with
      | d y =>
        simp only at a2
        split at a2
        · rename_i hp
          cases hf : findD xs y with
          | none => rw [hf] at a2; exact a2.elim
          | some i =>
            rw [hf] at a2
            obtain ⟨z, z1, z2, z3⟩ := findMin hf
            have rl : Rp K H2 (.ref p) (.list xs) := dpUp (x2.zs.trans c2.zh) (.list xs) (.ref p) (.lst hs hd)
            exact ⟨p, u, y, xs, i, z, rfl, rfl, Rp.dp _ _ rl, Rp.dp _ _ (dpUp c2.zh _ _ ru.rp), hp.2, hp.1, z1, z2, z3, a2 ks2 Hz2 H2 _ (Ext.refl _ _ _) c2 (.d (.int _))⟩
        · exact a2.elim
      | _ => exact a2.elim
    | _ => exact a1.elim
  | _ => exact a1.elim
end
end Mp

set_option Elab.async false
set_option linter.all false
set_option maxRecDepth 100000
set_option maxHeartbeats 4000000
namespace Mp
open PySem PySem.Spec PyProof.Rows L2
theorem nmB : (∀ op : B1, b1Name op ∈ bnames) := by intro op; cases op <;> decide +kernel
theorem nmOk : (∀ op : B1, okName (b1Name op) = true) := by intro op; cases op <;> decide +kernel
theorem attrBase {y : Str} {p : Pos} (nm : Str) (env : Env) : attributeBase (.Name y p) nm env (eval (.Name y p) env) = eval (.Name y p) env := rfl
theorem few {e : Expr} (h : noStar e = true) (cp : Pos) (env : Env) : ((backTo cp (starEach [e] env)).all (fun x => !x.1) && (backToKw cp (keywordEach [] env)).all (fun x => x.1.isSome)
      && decide ([e].length + ([] : List Keyword).length + (if ([] : List Keyword).isEmpty then 0 else 1) < 30)) = true := by
  rw [starOne h]; rfl
theorem peBad {X : Cx} {e : Expr} {t : TE} (h : ∀ σ H Q, t σ H Q → False) : PE X e t := ⟨fun pins s σ H Q I q => (h σ H Q q).elim⟩
section
variable {T : Tab} {cl : Calls} {n : Nat} {W : WX} {X : Cx}
/-- one built-in of one argument -/
theorem pe_b1 (o : OkX T cl n W X) {op : B1} {x : Str} {p pos : Pos} {y : Expr} {ta : TE} (hx : x = b1Name op) (hg : glB X.env.scope x = true) (hs : noStar y = true) (ho : op ≠ .lrg ∧ op ≠ .trg ∧ op ≠ .sset) (ha : PE X y ta) :
    PE X (.Call (.Name x p) [y] [] pos) (tCB (rB1 X.K (b1D op)) (tCons ta tNil)) := by
  have g := gl_of hg
  have f := o.free _ (nmB op)
  have k := okN (nmOk op)
  rw [← hx] at f k
  have st := starOne hs [] X.env
  have sn := starNone (es := []) pos X.env rfl
  subst hx
  have pa := pa_cons ha pa_nil st
  cases op with
  | len => exact pe_callB cb_len g f (by decide +kernel) pa k.2.2 k.1 st sn
  | tup => exact pe_callTy cb_tup g f (by decide +kernel) pa k.2.2 k.1 st sn
  | lst => exact pe_callTy cb_lst g f (by decide +kernel) pa k.2.2 k.1 st sn
  | srt => exact pe_callB (cb_srt o.room) g f (by decide +kernel) pa k.2.2 k.1 st sn
  | all => exact pe_callB (cb_all o.calm) g f (by decide +kernel) pa k.2.2 k.1 st sn
  | any => exact pe_callB (cb_any o.calm) g f (by decide +kernel) pa k.2.2 k.1 st sn
  | int => exact pe_callTy cb_int g f (by decide +kernel) pa k.2.2 k.1 st sn
  | abs => exact pe_callB cb_abs g f (by decide +kernel) pa k.2.2 k.1 st sn
  | sum => exact pe_callB (cb_sum o.calm) g f (by decide +kernel) pa k.2.2 k.1 st sn
  | max => exact pe_callB (cb_max o.calm) g f (by decide +kernel) pa k.2.2 k.1 st sn
  | min => exact pe_callB (cb_min o.calm) g f (by decide +kernel) pa k.2.2 k.1 st sn
  | lrg => exact absurd rfl ho.1
  | trg => exact absurd rfl ho.2.1
  | sset => exact absurd rfl ho.2.2
theorem evA_len {N : List Str} {cl : Calls} : ∀ (es : CL) (sc : Scope) (xs : List Expr) (r : Env') (m : Mem) (ys : List MV) (m1 : Mem), xs.all noStar = true → chkL T N es sc xs = true → evA cl es r m = .ok ys m1 → ys.length = xs.length
  | .nil, sc, [], r, m, ys, m1, _, _, e => by
    simp only [evA, Res.ok.injEq] at e
    rw [← e.1]; rfl
  | .cons c es, sc, x :: xs, r, m, ys, m1, h, k, e => by
    simp only [chkL, Bool.and_eq_true] at k
    simp only [List.all_cons, Bool.and_eq_true] at h
    simp only [evA] at e
    cases q : evE cl c r m with
    | ok a m2 =>
      rw [q] at e
      simp only [Res.bind_ok] at e
      cases q2 : evA cl es r m2 with
      | ok b m3 =>
        rw [q2] at e
        simp only [Res.bind_ok, Res.ok.injEq] at e
        rw [← e.1]
        simp [evA_len es sc xs r m2 b m3 h.2 k.2 q2]
      | ex _ _ _ => rw [q2] at e; cases e
      | bad => rw [q2] at e; cases e
    | ex _ _ _ => rw [q] at e; cases e
    | bad => rw [q] at e; cases e
  | .nil, sc, _ :: _, r, m, ys, m1, _, k, _ => by simp [chkL] at k
  | .cons _ _, sc, [], r, m, ys, m1, _, k, _ => by simp [chkL] at k
  | .star _ _, sc, [], r, m, ys, m1, _, k, _ => by simp [chkL] at k
  | .star _ _, sc, x :: xs, r, m, ys, m1, h, k, _ => by
    cases x <;> simp [chkL] at k
    simp [noStar] at h
/-- a list that has just been made comes to stand still -/
theorem aftStill {K : PySem.W.Frag} {W : WX} {ks : List Addr} {Hz H : Hp} {σ : L2.St} {Q : VK} {z : Res (List PyData)} (a : Aft K (RV K) W ks Hz H σ Q (z.bind fun ys m2 => .ok (.d (.list ys)) m2)) : AftF K W ks Hz H σ Q z := by
  unfold AftF
  cases z with
  | ok ys m2 =>
    intro ks' Hz' H' b x c' rf
    obtain ⟨p, us, rfl, h1, h2, h3, h4, h5⟩ := rf
    have sz : Same Hz' (upd Hz' p (.lst us)) := fun b u q => by rw [upd_ne (fun z => by rw [z, h3] at q; cases q)]; exact q
    refine a ks' (upd Hz' p (.lst us)) H' _ ⟨x.pre, x.zs.trans sz, x.fr, x.nw, fun b u q => ?_⟩ (c'.still h1 h4) (.d (.lst upd_same (daUp sz _ _ h2)))
    by_cases z : b = p
    · subst z; exact .inr (.inl h5)
    · rw [upd_ne z] at q; exact x.nz b u q
  | ex q x m2 => exact a
  | bad => exact a
/-- a comprehension's list comes to stand still -/
theorem tF_of {K : PySem.W.Frag} {ei : Ev (List MV)} {t : CT} {ec ee : Ev MV} {vs : List Nat} {σ : L2.St} {H : Hp} {Q : VK} (h : tE K W (compE ei t ec ee vs) σ H Q) : tF K W (compL ei t ec ee vs) σ H Q := by
  obtain ⟨ks, m, Hz, r, c, e, a⟩ := h
  refine ⟨ks, m, Hz, r, c, e, ?_⟩
  have ec' : compE ei t ec ee vs r m = (compL ei t ec ee vs r m).bind fun ys m2 => .ok (.d (.list ys)) m2 := by
    unfold compE compL
    rw [Res.bind_assoc]
  rw [ec'] at a
  exact aftStill a

theorem tF2_of {K : PySem.W.Frag} {W : WX} {ei ei1 : Ev (List MV)} {t t1 : CT} {ec ec1 ee : Ev MV} {vs vs1 : List Nat} {σ : L2.St} {H : Hp} {Q : VK} (h : tE K W (fun r m => (comp2L ei t ec t1 ei1 ec1 ee vs vs1 r m).bind fun ys m2 => .ok (.d (.list ys)) m2) σ H Q) : tF K W (comp2L ei t ec t1 ei1 ec1 ee vs vs1) σ H Q := by
  obtain ⟨ks, m, Hz, r, c, e, a⟩ := h
  exact ⟨ks, m, Hz, r, c, e, aftStill a⟩
theorem comp2_eq (cl : Calls) (t : CT) (it : CI) (c : CE) (t1 : CT) (it1 : CI) (c1 e : CE) (own : List (Str × Nat)) (vs1 : List Nat) :
  evE cl (.comp2 t it c t1 it1 c1 e own vs1) = fun r m => (comp2L (evI cl it) t (evE cl c) t1 (evI cl it1) (evE cl c1) (evE cl e) (own.map (·.2)) vs1 r m).bind fun ys m2 => .ok (.d (.list ys)) m2 := by
  funext r m
  show ((evI cl it r m).bind _) = _
  unfold comp2L
  rw [Res.bind_assoc]
  congr 1
theorem rdYes {K : PySem.W.Frag} {σ : L2.St} {H : Hp} {Q : Bool → Hp → Prop} (h : tB' K W (evT fun _ m => .ok (.d (.bool true)) m) σ H Q) : tYes σ H Q := by
  obtain ⟨ks, m, Hz, r, c, e, a⟩ := h
  exact a ks Hz H true (Ext.refl _ _ _) c rfl
theorem ptsMono {e : List Expr} {t t' : TT} (h : PTs X e t) (f : ∀ σ H Q, t' σ H Q → t σ H Q) : PTs X e t' := ⟨fun pins s σ H Q I q => h.run pins s σ H Q I (f σ H Q q)⟩
theorem pwMono {e : Expr} {t t' : TT} (h : PW X e t) (f : ∀ σ H Q, t' σ H Q → t σ H Q) : PW X e t' := ⟨fun w pins s σ H Q I q => h.run w pins s σ H Q I (f σ H Q q)⟩
theorem pgMono {e : Expr} {t t' : TG} (h : PG X e t) (f : ∀ v σ H Q, t' v σ H Q → t v σ H Q) : PG X e t' := ⟨fun pins s σ H v u Q I r q => h.run pins s σ H v u Q I r (f v σ H Q q)⟩
theorem poMono {e : Option Expr} {t t' : TO} (h : PO X e t) (f : ∀ σ H Q, t' σ H Q → t σ H Q) : PO X e t' := ⟨fun pins s σ H Q I q => h.run pins s σ H Q I (f σ H Q q)⟩
/-- targets -/
structure TgOk (X : Cx) (sc : Scope) : Prop where
  nd : X.N.Nodup
  calm : X.calm = true
  lc : ∀ x, locB sc x = true → Loc X.env.scope x ∧ (X.fn x = true ∨ X.env.scope.names.lookup x = some .local)
theorem assignOne {e : Expr} (h : noStar e = true) (es : List Expr) (env : Env) : assignEach (e :: es) env = (false, assign e env) :: assignEach es env := by
  cases e <;> first | rfl | (simp [noStar] at h)
mutual
theorem sT {X : Cx} {sc : Scope} (o : TgOk X sc) : ∀ (t : CT) (e : Expr), chkT X.N t sc e = true → PG X e (gT X.K t)
  | .nm i, e, h => by
    cases e <;> simp only [chkT, Bool.false_eq_true] at h
    simp only [Bool.and_eq_true, beq_iff_eq] at h
    exact pg_name o.nd h.1 (o.lc _ h.2).1 (o.lc _ h.2).2
  | .tp ts, e, h => by
    cases e <;> simp only [chkT, Bool.false_eq_true] at h
    obtain ⟨h1, h2, h3⟩ := sTs o ts _ h
    exact pg_seq o.calm h1 h2 h3
theorem sTs {X : Cx} {sc : Scope} (o : TgOk X sc) : ∀ (ts : CTs) (es : List Expr), chkTs X.N ts sc es = true → PGs X es (gTs X.K ts) ∧ (assignEach es X.env).length = tLenT ts ∧ (assignEach es X.env).findIdx? (·.1) = none
  | .nil, [], h => ⟨pgs_nil, rfl, rfl⟩
  | .nil, _ :: _, h => by simp [chkTs] at h
  | .cons t ts, [], h => by simp [chkTs] at h
  | .cons t ts, e :: es, h => by
    simp only [chkTs, Bool.and_eq_true] at h
    obtain ⟨⟨h1, h2⟩, h3⟩ := h
    obtain ⟨k1, k2, k3⟩ := sTs o ts es h3
    refine ⟨pgs_cons (sT o t e h2) k1 (by rw [assignOne h1]; rfl), by rw [assignOne h1]; simp [k2, tLenT], ?_⟩
    rw [assignOne h1, List.findIdx?_cons]
    simp [k3]
end
theorem locUp {sc scope : Scope} {x : Str} (h : locB scope x = true) : Loc (relS scope sc) x := by
  rcases loc_of h with h | h
  · exact .inl (lookup_relS_keep (by decide) h)
  · exact .inr (lookup_relS_keep (by decide) h)
theorem OkX.tg (o : OkX T cl n W X) (s : Shared) (H : Hp) (scope : Scope) (ce : Env) (fp : List Addr) (hs : ce.scope = relS scope X.env.scope) : TgOk (X.blk s H scope ce fp) scope := by
  refine ⟨o.nd, o.calm, fun x h => ?_⟩
  show Loc ce.scope x ∧ ((scope.names.lookup x == some .cell) = true ∨ ce.scope.names.lookup x = some .local)
  rw [hs]
  refine ⟨locUp h, ?_⟩
  rcases loc_of h with h | h
  · exact .inr (lookup_relS_keep (by decide) h)
  · exact .inl (by rw [h]; rfl)
end
theorem ptV {X : Cx} {K : PySem.W.Frag} {W : WX} {e : Expr} {ev : Ev MV} (hk : K = X.K) (h : PE X e (tE X.K W ev)) (he : ∀ whole, isTrue e X.env whole = (do let v ← whole; standAt e.pos; holding [v] (truthy v)) := by intro _; rfl) : PT X e (tB' X.K W (evT ev)) := ptMono (pt_val h he) fun _ _ _ q => tB_E q
section
variable {T : Tab} {cl : Calls} {n : Nat} {W : WX} {X : Cx}
theorem sO (c : CE) (o : OkX T cl n W X) {l : Option Expr} (hE : ∀ e, chkE T X.N c X.env.scope e = true → PE X e (tE X.K W (evE cl c))) (h : optC c (chkE T X.N c X.env.scope) l = true) : PO X l (tOo X.K W (partO c (evE cl c))) := by
  cases l with
  | none =>
    have hb : noB c = true := h
    refine poMono po_none fun _ _ _ q => rdNo (K := X.K) (W := W) ?_
    have : partO c (evE cl c) = fun _ m => .ok none m := by
      funext r m; simp only [partO, hb, if_true]
    rw [this] at q
    exact q
  | some x =>
    have h' : (!noB c && chkE T X.N c X.env.scope x) = true := h
    simp only [Bool.and_eq_true, Bool.not_eq_true'] at h'
    refine poMono (po_some (hE x h'.2)) fun _ _ _ q => rdPart ?_
    have : partO c (evE cl c) = fun r m => (evE cl c r m).bind fun x m1 => (match x with
      | .d (.int i) => .ok (some i) m1
      | _ => .bad) := by
      funext r m; simp only [partO, h'.1]; rfl
    rw [this] at q
    exact q
theorem pe_callS0 {CX : CXT} {k : Nat} {f : Addr} {fd : FuncData} {ps : List Str} {sp : Sp} {E : L2.St → XK} {x : Str} {p pos : Pos} (F : FnOk X.prog X.w X.K X.mg X.base CX k f fd ps sp) (hr : Room k X.A) (hg : Gl X x) (hm : X.mg x = some (.ref f)) (hk : PySem.W.keepIn X.K (.ref f) = true) (hb : Binds X.K fd ps []) (hx : ∀ σ, PassesAt CX X σ (E σ))
    (hdb : (x == ("__debug__" : Str)) = false) : PE X (.Call (.Name x p) [] [] pos) (tCallS sp E tNil) := by
  refine ⟨fun pins s σ H Q I h => ?_⟩
  refine wpAny_Call_Name_kw (ld_glob I hg hm ?_ hdb)
  exact PySem.W.callWith_K0 I.kIn hk (run_fnS (us := []) F hr hb (hx σ) I .nil h)
theorem sCall (f : Nat) (es : CL) (o : OkX T cl n W X) {x : Str} {p1 p : Pos} {xs : List Expr} (h : (match T.fs[f]? with
    | some d => x == d.name && glB X.env.scope x && okName x && xs.all noStar && chkL T X.N es X.env.scope xs && xs.length == d.ps.length
    | none => false) = true) (hA : xs.all noStar = true → chkL T X.N es X.env.scope xs = true → PA X xs (tAs X.K W (evA cl es))) :
    PE X (.Call (.Name x p1) xs [] p) (tE X.K W (evE cl (.call f es))) := by
  cases hT : T.fs[f]? with
  | none => rw [hT] at h; cases h
  | some d =>
    rw [hT] at h
    simp only [Bool.and_eq_true, beq_iff_eq] at h
    obtain ⟨⟨⟨⟨⟨h1, h2⟩, h3⟩, h4⟩, h5⟩, h6⟩ := h
    subst h1
    obtain ⟨fa, fd, k1, k2, k3, _, _, F⟩ := o.fns f d hT
    cases xs with
    | nil =>
      refine peMono (pe_callS0 F o.room (gl_of h2) k1 k2 k3 (passAt o.tk) (okN h3).1) fun _ _ _ q => ?_
      have q' := rdCall (K := X.K) (W := W) (ea := evA cl es) (fun r m zs m1 e => by rw [evA_len es _ _ r m zs m1 h4 h5 e, h6]) q
      cases es with
      | nil => exact rdNilA q'
      | cons _ _ => simp [chkL] at h5
      | star _ _ => simp [chkL] at h5
    | cons y ys =>
      have h4' := h4
      simp only [List.all_cons, Bool.and_eq_true] at h4'
      refine peMono (pe_callS F o.room (gl_of h2) k1 k2 k3 (passAt o.tk) (hA h4 h5) (okN h3).1 (starOne h4'.1 _ _) (starNone _ _ h4'.2)) fun _ _ _ q => rdCall (fun r m zs m1 e => ?_) q
      rw [evA_len es _ _ r m zs m1 h4 h5 e, h6]
theorem sB1 (op : B1) (a : CE) (o : OkX T cl n W X) {x : Str} {p1 p : Pos} {y : Expr} (h1 : x = b1Name op) (h2 : glB X.env.scope x = true) (h3 : noStar y = true) (ho : op ≠ .lrg ∧ op ≠ .trg ∧ op ≠ .sset) (ha : PE X y (tE X.K W (evE cl a))) :
    PE X (.Call (.Name x p1) [y] [] p) (tE X.K W (evE cl (.b1 op a))) := peMono (pe_b1 o h1 h2 h3 ho ha) fun _ _ _ q => b1_read q
theorem sIsin (a : CE) (ts : List String) (o : OkX T cl n W X) {x : Str} {p1 p : Pos} {y z : Expr} (h : (x == ("isinstance" : Str) && glB X.env.scope x && noStar y && chkE T X.N a X.env.scope y && (match ts, z with
    | [t], z => tyIs X.env.scope t z
    | ts, .Tuple es _ _ => tysAre X.env.scope ts es && es.all noStar && decide (ts.length ≤ 100)
    | _, _ => false)) = true) (ha : chkE T X.N a X.env.scope y = true → PE X y (tE X.K W (evE cl a))) :
    PE X (.Call (.Name x p1) [y, z] [] p) (tE X.K W (evE cl (.isin a ts))) := by
  simp only [Bool.and_eq_true, beq_iff_eq] at h
  obtain ⟨⟨⟨⟨h1, h2⟩, h3⟩, h4⟩, h5⟩ := h
  subst h1
  have g := gl_of h2
  have f := o.free "isinstance" (by decide +kernel)
  have two : ∀ t : String, tyIs X.env.scope t z = true → PE X (.Call (.Name "isinstance" p1) [y, z] [] p) (tCB (rIsi X.K) (tCons (tE X.K W (evE cl a)) (tCons (tC (.ty t)) tNil))) := fun t ht => by
    have hz : noStar z = true := by cases z <;> first | rfl | (simp [tyIs] at ht)
    exact pe_callB call_isi g f (by decide +kernel) (pa_cons (ha h4) (pa_cons (pe_ty o ht) pa_nil (starOne hz _ _)) (starOne h3 _ _)) (by decide) (by decide) (starOne h3 _ _) (starNone _ _ (by simp [hz]))
  match ts, z, h5, two with
  | [t], z, h5, two =>
    have h5' : tyIs X.env.scope t z = true := h5
    have ht : tyName t = true := by
      cases z <;> simp only [tyIs, Bool.and_eq_true, Bool.false_eq_true] at h5'
      exact h5'.2
    exact peMono (two t h5') fun _ _ _ q => rdIsin1 ht q
  | [], .Tuple es k tp, h5, _ =>
    simp only [Bool.and_eq_true, decide_eq_true_eq] at h5
    exact peMono (pe_callB call_isiT g f (by decide +kernel) (pa_cons (ha h4) (pa_cons (pe_tup (pa_tys o h5.1.1 h5.1.2)) pa_nil (starOne rfl _ _)) (starOne h3 _ _)) (by decide) (by decide) (starOne h3 _ _) (starNone _ _ rfl)) fun _ _ _ q => rdIsinT (tysNames h5.1.1) h5.2 q
  | t :: u :: ts, .Tuple es k tp, h5, _ =>
    simp only [Bool.and_eq_true, decide_eq_true_eq] at h5
    exact peMono (pe_callB call_isiT g f (by decide +kernel) (pa_cons (ha h4) (pa_cons (pe_tup (pa_tys o h5.1.1 h5.1.2)) pa_nil (starOne rfl _ _)) (starOne h3 _ _)) (by decide) (by decide) (starOne h3 _ _) (starNone _ _ rfl)) fun _ _ _ q => rdIsinT (tysNames h5.1.1) h5.2 q
theorem sIdx (a i : CE) (o : OkX T cl n W X) {e1 e2 : Expr} {p : Pos} (h : notSlice e2 = true) (ha : PE X e1 (tE X.K W (evE cl a))) (hi : PE X e2 (tE X.K W (evE cl i))) : PE X (.Subscript e1 e2 p) (tE X.K W (evE cl (.idx a i))) :=
  peMono (pe_ix (ix_ok o.room) ha hi (plainIx h)) fun _ _ _ q => rdIdx q
theorem sCmp (op : Cop) (a b : CE) (o : OkX T cl n W X) {e1 e2 : Expr} {p : Pos} (h : notSet e2 = true) (ha : PE X e1 (tE X.K W (evE cl a))) (hb : PE X e2 (tE X.K W (evE cl b))) : PE X (.Compare e1 [astC op] [e2] p) (tE X.K W (evE cl (.cmp op a b))) :=
  peMono (pe_cmpR (cop3_ok o.room op) ha hb (noMark h _)) fun _ _ _ q => cmp_read3 q
theorem sVar (i : Nat) {x : Str} {p : Pos} (h1 : X.N[i]? = some x) (h2 : visB X.env.scope x = true) (h3 : okName x = true) : PE X (.Name x p) (tE X.K W (evE cl (.var i))) :=
  peMono (pe_var h1 (vis_of h2) (okN h3).1 (okN h3).2.1) fun _ _ _ q => rdVar q
theorem pkMono {X : Cx} {e : List Keyword} {t t' : TA} (h : PK X e t) (f : ∀ σ H Q, t' σ H Q → t σ H Q) : PK X e t' := ⟨fun p pins s σ H Q I q => h.run p pins s σ H Q I (f σ H Q q)⟩
theorem invKg {N : List Str} {sc : Scope} {x : Str} {i : Int} {e : Expr} (h : chkE T N (.kg x i) sc e = true) : ∃ p, e = .Name x p ∧ glB sc x = true ∧ okName x = true ∧ T.ks.lookup x = some i := by
  cases e <;> try (simp only [chkE, Bool.false_eq_true] at h; done)
  simp only [chkE, Bool.and_eq_true, beq_iff_eq] at h
  obtain ⟨⟨⟨h1, h2⟩, h3⟩, h4⟩ := h
  subst h1
  exact ⟨_, rfl, h2, h3, h4⟩
theorem invDct {N : List Str} {sc : Scope} {f : Nat} {a : CE} {e : Expr} (h : chkE T N (.dctT f a) sc e = true) : ∃ p1 x p2 y p3 p4 d, e = .Call (.Name "dict" p1) [.Call (.Name x p2) [y] [] p3] [] p4 ∧ glB sc "dict" = true ∧ f ∈ T.tp ∧ noStar y = true ∧ T.fs[f]? = some d ∧ x = d.name ∧ glB sc x = true ∧ okName x = true ∧ d.ps.length = 1 ∧ chkE T N a sc y = true := by
  unfold chkE at h
  split at h <;> first | contradiction | skip
  all_goals try (rename_i q _ _; cases q; done)
  rename_i q1 q2
  cases q1
  cases q2
  simp only [Bool.and_eq_true, beq_iff_eq, List.contains_iff_mem] at h
  obtain ⟨⟨⟨⟨h1, h2⟩, h3⟩, h4⟩, h5⟩ := h
  subst h1
  split at h5
  · rename_i d hd
    simp only [Bool.and_eq_true, beq_iff_eq] at h5
    obtain ⟨⟨⟨⟨k1, k2⟩, k3⟩, k4⟩, k5⟩ := h5
    exact ⟨_, _, _, _, _, _, d, rfl, h2, h3, h4, hd, k1, k2, k3, k4, k5⟩
  · cases h5
theorem invKz {N : List Str} {sc : Scope} {x z : Str} {e : Expr} (h : chkE T N (.kz x z) sc e = true) : ∃ p, e = .Name x p ∧ glB sc x = true ∧ okName x = true ∧ T.zs.lookup x = some z := by
  cases e <;> try (simp only [chkE, Bool.false_eq_true] at h; done)
  simp only [chkE, Bool.and_eq_true, beq_iff_eq] at h
  obtain ⟨⟨⟨h1, h2⟩, h3⟩, h4⟩ := h
  subst h1
  exact ⟨_, rfl, h2, h3, h4⟩
theorem invKdx {N : List Str} {sc : Scope} {x : Str} {ps : List (Str × Str)} {a : CE} {e : Expr} (h : chkE T N (.kdx x ps a) sc e = true) : ∃ p w p2, e = .Subscript (.Name x p) w p2 ∧ glB sc x = true ∧ okName x = true ∧ T.ds.lookup x = some ps ∧ chkE T N a sc w = true ∧ notSlice w = true := by
  cases e <;> try (simp only [chkE, Bool.false_eq_true] at h; done)
  rename_i y w p
  cases y <;> try (simp only [chkE, Bool.false_eq_true] at h; done)
  simp only [chkE, Bool.and_eq_true, beq_iff_eq] at h
  obtain ⟨⟨⟨⟨⟨h1, h2⟩, h3⟩, h4⟩, h5⟩, h6⟩ := h
  subst h1
  exact ⟨_, _, _, rfl, h2, h3, h4, h5, h6⟩
theorem invCallK {N : List Str} {sc : Scope} {f : Nat} {es ks : CL} {ns : List Nat} {e : Expr} (h : chkE T N (.callk f es ks ns) sc e = true) : ∃ x p1 xs kw kws p, e = .Call (.Name x p1) xs (kw :: kws) p ∧ (match T.fs[f]? with
    | some d => x == d.name && glB sc x && okName x && xs.all noStar && chkL T N es sc xs && chkK T N ks sc (kw :: kws) && kwOk d.ps ((kw :: kws).filterMap (·.arg)) xs.length ns
    | none => false) = true := by
  cases e <;> try (simp only [chkE, Bool.false_eq_true] at h; done)
  rename_i g xs kw p
  cases g <;> try (simp only [chkE, Bool.false_eq_true] at h; done)
  cases kw <;> simp only [chkE, Bool.false_eq_true] at h
  exact ⟨_, _, _, _, _, _, rfl, h⟩
theorem evK_len {N : List Str} {cl : Calls} : ∀ (es : CL) (sc : Scope) (xs : List Keyword) (r : Env') (m : Mem) (ys : List MV) (m1 : Mem), chkK T N es sc xs = true → evA cl es r m = .ok ys m1 → ys.length = xs.length
  | .nil, sc, [], r, m, ys, m1, _, e => by
    simp only [evA, Res.ok.injEq] at e
    rw [← e.1]; rfl
  | .cons c es, sc, ⟨some a, v, p⟩ :: xs, r, m, ys, m1, k, e => by
    simp only [chkK, Bool.and_eq_true] at k
    simp only [evA] at e
    cases q : evE cl c r m with
    | ok a m2 =>
      rw [q] at e
      simp only [Res.bind_ok] at e
      cases q2 : evA cl es r m2 with
      | ok b m3 =>
        rw [q2] at e
        simp only [Res.bind_ok, Res.ok.injEq] at e
        rw [← e.1]
        simp [evK_len es sc xs r m2 b m3 k.2 q2]
      | ex _ _ _ => rw [q2] at e; cases e
      | bad => rw [q2] at e; cases e
    | ex _ _ _ => rw [q] at e; cases e
    | bad => rw [q] at e; cases e
  | .nil, sc, _ :: _, r, m, ys, m1, k, _ => by simp [chkK] at k
  | .cons _ _, sc, [], r, m, ys, m1, k, _ => by simp [chkK] at k
  | .cons _ _, sc, ⟨none, _, _⟩ :: _, r, m, ys, m1, k, _ => by simp [chkK] at k
  | .star _ _, sc, xs, r, m, ys, m1, k, _ => by cases xs <;> simp [chkK] at k
theorem chkK_len {N : List Str} : ∀ (es : CL) (sc : Scope) (xs : List Keyword), chkK T N es sc xs = true → (xs.filterMap (·.arg)).length = xs.length
  | .nil, sc, [], _ => rfl
  | .cons c es, sc, ⟨some a, v, p⟩ :: xs, k => by
    simp only [chkK, Bool.and_eq_true] at k
    simpa using chkK_len es sc xs k.2
  | .nil, sc, _ :: _, k => by simp [chkK] at k
  | .cons _ _, sc, [], k => by simp [chkK] at k
  | .cons _ _, sc, ⟨none, _, _⟩ :: _, k => by simp [chkK] at k
  | .star _ _, sc, xs, k => by cases xs <;> simp [chkK] at k
theorem keysKw (pos : Pos) (env : Env) : ∀ kws : List Keyword, (backToKw pos (keywordEach kws env)).filterMap (·.1) = kws.filterMap (·.arg)
  | [] => rfl
  | ⟨none, v, p⟩ :: r => by
    have := keysKw pos env r
    simpa [keywordEach, backToKw] using this
  | ⟨some a, v, p⟩ :: r => by
    have := keysKw pos env r
    simpa [keywordEach, backToKw] using this
theorem allKw {N : List Str} (pos : Pos) (env : Env) : ∀ (es : CL) (sc : Scope) (kws : List Keyword), chkK T N es sc kws = true → (backToKw pos (keywordEach kws env)).all (·.1.isSome) = true ∧ (backToKw pos (keywordEach kws env)).any (·.1.isNone) = false
  | .nil, sc, [], _ => ⟨rfl, rfl⟩
  | .cons c es, sc, ⟨some a, v, p⟩ :: xs, k => by
    simp only [chkK, Bool.and_eq_true] at k
    obtain ⟨z1, z2⟩ := allKw pos env es sc xs k.2
    constructor
    · show (true && (backToKw pos (keywordEach xs env)).all (·.1.isSome)) = true
      rw [z1]; rfl
    · show (false || (backToKw pos (keywordEach xs env)).any (·.1.isNone)) = false
      rw [z2]; rfl
  | .nil, sc, _ :: _, k => by simp [chkK] at k
  | .cons _ _, sc, [], k => by simp [chkK] at k
  | .cons _ _, sc, ⟨none, _, _⟩ :: _, k => by simp [chkK] at k
  | .star _ _, sc, xs, k => by cases xs <;> simp [chkK] at k
/-- the values in the parameters' order -/
theorem lookZipNone {ps : List Str} {us : List Value} {k : Str} (h : k ∉ ps.take us.length) : List.lookup k (ps.zip us) = none := by
  induction ps generalizing us with
  | nil => rfl
  | cons p ps ih =>
    cases us with
    | nil => rfl
    | cons u us =>
      simp only [List.length_cons, List.take_succ_cons, List.mem_cons, not_or] at h
      rw [List.zip_cons_cons, List.lookup_cons]
      have : (k == p) = false := by rw [beq_eq_false_iff_ne]; exact h.1
      rw [this]
      exact ih h.2
theorem lookZipAt : ∀ {ps : List Str} {us : List Value} {i : Nat} {p : Str} {u : Value}, ps.Nodup → ps[i]? = some p → us[i]? = some u → List.lookup p (ps.zip us) = some u
  | [], _, _, _, _, _, h, _ => by simp at h
  | _ :: _, [], _, _, _, _, _, h => by simp at h
  | p :: ps, u :: us, 0, _, _, _, h1, h2 => by
    simp at h1 h2
    subst h1 h2
    simp [List.lookup_cons]
  | p :: ps, u :: us, i + 1, q, v, nd, h1, h2 => by
    simp only [List.getElem?_cons_succ] at h1 h2
    obtain ⟨n1, n2⟩ := List.nodup_cons.mp nd
    have : (q == p) = false := by
      rw [beq_eq_false_iff_ne]
      exact fun e => n1 (by rw [← e]; exact List.mem_of_getElem? h1)
    rw [List.zip_cons_cons, List.lookup_cons, this]
    exact lookZipAt n2 h1 h2
theorem kwBind {ps kn : List Str} {n : Nat} {ns : List Nat} (nd : ps.Nodup) (h : kwOk ps kn n ns = true) {us ws : List Value} (hu : us.length = n) (hw : ws.length = kn.length) :
    (∀ k ∈ kn, k ∈ ps) ∧ kn.Nodup ∧ (∀ k ∈ kn, List.lookup k (ps.zip us) = none) ∧ us.length + kn.length = ps.length ∧ (ns.filterMap fun i => (us ++ ws)[i]?).length = ps.length ∧ ∀ (i : Nat) (p : Str), ps[i]? = some p → ((ps.zip us) ++ kn.zip ws).lookup p = (ns.filterMap fun i => (us ++ ws)[i]?)[i]? := by
  unfold kwOk at h
  simp only [Bool.and_eq_true, decide_eq_true_eq, beq_iff_eq, List.all_eq_true, List.contains_iff_mem, List.mem_range] at h
  obtain ⟨⟨⟨⟨h1, h2⟩, h3⟩, h4⟩, h5⟩ := h
  have split : ps.take n ++ ps.drop n = ps := List.take_append_drop n ps
  have dis : ∀ k, k ∈ ps.drop n → k ∉ ps.take n := fun k hk ht => by
    rw [← split] at nd
    exact (List.nodup_append.mp nd).2.2 k ht k hk rfl
  -- each place has its value
  have at_ : ∀ (i : Nat) (p : Str), ps[i]? = some p → ∃ j v, ns[i]? = some j ∧ (us ++ ws)[j]? = some v ∧ ((ps.zip us) ++ kn.zip ws).lookup p = some v := fun i p hp => by
    have hi : i < ps.length := (List.getElem?_eq_some_iff.mp hp).1
    have := h5 i hi
    rw [hp] at this
    cases hj : ns[i]? with
    | none => rw [hj] at this; cases this
    | some j =>
      rw [hj] at this
      simp only at this
      by_cases c : i < n
      · rw [if_pos c, beq_iff_eq] at this
        subst this
        have hv : us[j]? = some us[j] := List.getElem?_eq_getElem (by omega)
        refine ⟨j, us[j], rfl, by rw [List.getElem?_append_left (by omega)]; exact hv, ?_⟩
        rw [List.lookup_append, lookZipAt nd hp hv]
        rfl
      · rw [if_neg c] at this
        simp only [Bool.and_eq_true, decide_eq_true_eq, beq_iff_eq] at this
        obtain ⟨c1, c2⟩ := this
        have hj2 : j - n < kn.length := (List.getElem?_eq_some_iff.mp c2).1
        have hv : ws[j - n]? = some ws[j - n] := List.getElem?_eq_getElem (by omega)
        refine ⟨j, ws[j - n], rfl, by rw [List.getElem?_append_right (by omega), hu]; exact hv, ?_⟩
        have hd : p ∈ ps.drop n := h4 p (List.mem_of_getElem? c2)
        rw [List.lookup_append, lookZipNone (by rw [hu]; exact dis p hd), lookZipAt h1 c2 hv]
        rfl
  have all : ∀ (l : List Nat), (∀ j ∈ l, ((us ++ ws)[j]?).isSome = true) → (l.filterMap fun i => (us ++ ws)[i]?).length = l.length ∧ ∀ i : Nat, (l.filterMap fun i => (us ++ ws)[i]?)[i]? = (l[i]?).bind fun j => (us ++ ws)[j]? := by
    intro l
    induction l with
    | nil => exact fun _ => ⟨rfl, fun i => rfl⟩
    | cons j l ih =>
      intro hl
      obtain ⟨v, hv⟩ := Option.isSome_iff_exists.mp (hl j List.mem_cons_self)
      obtain ⟨z1, z2⟩ := ih fun k hk => hl k (List.mem_cons_of_mem _ hk)
      rw [List.filterMap_cons_some hv]
      refine ⟨by simp [z1], fun i => ?_⟩
      cases i with
      | zero => simp [hv]
      | succ i => simpa using z2 i
  have ok : ∀ j ∈ ns, ((us ++ ws)[j]?).isSome = true := fun j hj => by
    obtain ⟨i, hi, e⟩ := List.getElem_of_mem hj
    have hip : i < ps.length := by omega
    obtain ⟨j', v, q1, q2, _⟩ := at_ i ps[i] (List.getElem?_eq_getElem hip)
    rw [List.getElem?_eq_getElem hi, e] at q1
    cases q1
    rw [q2]; rfl
  obtain ⟨a1, a2⟩ := all ns ok
  refine ⟨fun k hk => List.mem_of_mem_drop (h4 k hk), h1, fun k hk => lookZipNone (by rw [hu]; exact dis k (h4 k hk)), by omega, by rw [a1, h2], fun i p hp => ?_⟩
  obtain ⟨j, v, q1, q2, q3⟩ := at_ i p hp
  rw [q3, a2, q1]
  exact q2.symm
theorem sCallK (f : Nat) (es ks : CL) (ns : List Nat) (o : OkX T cl n W X) {x : Str} {p1 p : Pos} {xs : List Expr} {kw : Keyword} {kws : List Keyword} (h : (match T.fs[f]? with
    | some d => x == d.name && glB X.env.scope x && okName x && xs.all noStar && chkL T X.N es X.env.scope xs && chkK T X.N ks X.env.scope (kw :: kws) && kwOk d.ps ((kw :: kws).filterMap (·.arg)) xs.length ns
    | none => false) = true) (hA : xs.all noStar = true → chkL T X.N es X.env.scope xs = true → PA X xs (tAs X.K W (evA cl es))) (hK : chkK T X.N ks X.env.scope (kw :: kws) = true → PK X (kw :: kws) (tAs X.K W (evA cl ks))) :
    PE X (.Call (.Name x p1) xs (kw :: kws) p) (tE X.K W (evE cl (.callk f es ks ns))) := by
  cases hT : T.fs[f]? with
  | none => rw [hT] at h; cases h
  | some d =>
    rw [hT] at h
    simp only [Bool.and_eq_true, beq_iff_eq] at h
    obtain ⟨⟨⟨⟨⟨⟨h1, h2⟩, h3⟩, h4⟩, h5⟩, h6⟩, h7⟩ := h
    subst h1
    obtain ⟨fa, fd, k1, k2, k3, nd, kb, F⟩ := o.fns f d hT
    obtain ⟨al, an⟩ := allKw p X.env ks X.env.scope (kw :: kws) h6
    have kl := chkK_len ks X.env.scope (kw :: kws) h6
    generalize hkn : (kw :: kws).filterMap (·.arg) = kn at h7 kl
    have lens : ∀ {α : Type} (us ws : List α), us.length = xs.length → ws.length = kn.length → (ns.filterMap fun i => (us ++ ws)[i]?).length = d.ps.length := fun us ws hu hw => by
      have key := (kwBind nd h7 (us := us.map fun _ => Value.none) (ws := ws.map fun _ => Value.none) (by simpa using hu) (by simpa using hw)).2.2.2.2.1
      rw [← key, ← List.map_append]
      have : ∀ (l : List Nat), (l.filterMap fun i => (us ++ ws)[i]?).length = (l.filterMap fun i => ((us ++ ws).map fun _ => Value.none)[i]?).length := by
        intro l
        induction l with
        | nil => rfl
        | cons i l ih =>
          cases q : (us ++ ws)[i]? with
          | none => rw [List.filterMap_cons_none q, List.filterMap_cons_none (by rw [List.getElem?_map, q]; rfl)]; exact ih
          | some v => rw [List.filterMap_cons_some q, List.filterMap_cons_some (b := Value.none) (by rw [List.getElem?_map, q]; rfl)]; simpa using ih
      exact this ns
    have hl : ∀ r m ys m1 zs m2, evA cl es r m = .ok ys m1 → evA cl ks r m1 = .ok zs m2 → ys.length = xs.length ∧ zs.length = kn.length ∧ (ns.filterMap fun i => (ys ++ zs)[i]?).length = d.ps.length := fun r m ys m1 zs m2 e1 e2 => by
      have z1 := evA_len es _ _ r m ys m1 h4 h5 e1
      have z2 := evK_len ks _ _ r m1 zs m2 h6 e2
      have z3 : zs.length = kn.length := by rw [z2, kl]
      exact ⟨z1, z3, lens ys zs z1 z3⟩
    have rd := fun (σ : L2.St) (H : Hp) (Q : VK) (q : tE X.K W (evE cl (.callk f es ks ns)) σ H Q) => rdCallK (K := X.K) (W := W) (cl := cl) (f := f) (np := d.ps.length) (ns := ns) (ea := evA cl es) (eb := evA cl ks) hl q
    have run : ∀ {pins : List (Addr × Obj)} {σ : L2.St} {H : Hp} {s : Shared} {Q : VK} {us ws : List Value} {vs zs : List V}, Inv X pins σ H s → Vals vs us → Vals zs ws → vs.length = xs.length → zs.length = kn.length → spF X.K cl f d.ps.length (ns.filterMap fun i => (vs ++ zs)[i]?) H Q (WE W σ) → wpAny (model X.prog X.w) X.A (call (.ref fa) us (kn.zip ws)) (EP X pins σ Q) X.xe s := by
      intro pins σ H s Q us ws vs zs I r rz l1 l2 q
      have u1 : us.length = xs.length := by rw [← r.length, l1]
      have u2 : ws.length = kn.length := by rw [← rz.length, l2]
      obtain ⟨b1, b2, b3, b4, b5, b6⟩ := kwBind nd h7 u1 u2
      refine wpAny_call (codeAny_mono (F.run X.A X.stack s H ⟨us, kn.zip ws⟩ _ _ Q (WE W σ) o.room I.env0 (kb s us ws kn _ u2.symm b1 b2 b3 b4 b5 b6) (valsPick (r.append rz) ns) q) fun r s' hq => ?_)
      cases r with
      | error e => exact passAt o.tk σ pins H s e s' I hq
      | ok fl =>
        cases fl with
        | ret u => exact I.after hq
        | next => exact False.elim hq
        | brk => exact False.elim hq
        | cont => exact False.elim hq
    have hks : ∀ pos : Pos, (backToKw pos (keywordEach (kw :: kws) X.env)).filterMap (·.1) = kn := fun pos => by rw [keysKw, hkn]
    refine peMono (t := tCallKS xs.length kn.length (spF X.K cl f d.ps.length) (fun (vs zs : List V) => ns.filterMap fun (i : Nat) => (vs ++ zs)[i]?) (WE W) (tAs X.K W (evA cl es)) (tAs X.K W (evA cl ks))) ⟨fun pins s σ H Q I q => ?_⟩ rd
    cases xs with
    | nil =>
      refine wpAny_Call_Name_kw (ld_glob I (gl_of h2) k1 ?_ (okN h3).1)
      refine PySem.W.callWith_KW0 (h₀ := X.base) I.ok.mod.kin k2 al ?_ (by rw [an]; rfl)
      cases es with
      | nil =>
        have q2 := rdNilA q
        refine thn ((hK h6).run p pins s σ H _ I q2) fun ws s2 ⟨zs, H2, I2, rz, l1, l2, q3⟩ => ⟨I2.kIn, ?_⟩
        rw [hks]
        exact run I2 .nil rz l1 l2 q3
      | cons _ _ => simp [chkL] at h5
      | star _ _ => simp [chkL] at h5
    | cons y ys =>
      have h4' := h4
      simp only [List.all_cons, Bool.and_eq_true] at h4'
      refine wpAny_Call_Name_kw (ld_glob I (gl_of h2) k1 ?_ (okN h3).1)
      refine PySem.W.callWith_KW (h₀ := X.base) I.ok.mod.kin k2 al (thn ((hA h4 h5).run p pins s σ H _ I q) fun us s1 ⟨vs, H1, I1, r, q1⟩ => ?_) (by rw [an, starNone p X.env h4]; rfl) (starOne h4'.1 _ _)
      refine thn ((hK h6).run p pins s1 σ H1 _ I1 q1) fun ws s2 ⟨zs, H2, I2, rz, l1, l2, q3⟩ => ⟨I2.kIn, ?_⟩
      rw [hks]
      exact run I2 r rz l1 l2 q3
theorem invIndex {N : List Str} {sc : Scope} {a b : CE} {e : Expr} (h : chkE T N (.index a b) sc e = true) : ∃ y py ap x cp, ∃ p : Pos, e = .Call (.Attribute (.Name y py) "index" ap) [x] [] cp ∧ (ap.endLine == cp.line) = true ∧ noStar x = true ∧ chkE T N a sc (.Name y py) = true ∧ chkE T N b sc x = true := by
  cases e <;> try (simp only [chkE, Bool.false_eq_true] at h; done)
  rename_i g xs kw cp
  match g, xs, kw, h with
  | .Attribute (.Name y py) nm ap, [x], [], h =>
    simp only [chkE, Bool.and_eq_true, beq_iff_eq] at h
    obtain ⟨⟨⟨⟨h1, h2⟩, h3⟩, h4⟩, h5⟩ := h
    subst h1
    exact ⟨y, py, ap, x, cp, cp, rfl, by rw [h2]; exact beq_self_eq_true _, h3, h4, h5⟩
theorem sIndex (a b : CE) (o : OkX T cl n W X) {y : Str} {py ap cp : Pos} {x : Expr} (h2 : (ap.endLine == cp.line) = true) (h3 : noStar x = true) (ha : PE X (.Name y py) (tE X.K W (evE cl a))) (hb : PE X x (tE X.K W (evE cl b))) : PE X (.Call (.Attribute (.Name y py) "index" ap) [x] [] cp) (tE X.K W (evE cl (.index a b))) :=
  peMono (pe_bm PySem.F.plainAttrs_list PySem.F.slot_list_index PySem.F.type_list_index (mt_indexD (by have := o.room.un; omega)) ha (pa_cons hb pa_nil (starOne h3 _ _)) (attrBase _ _) (few h3 _ _) h2 (starOne h3 _ _) (starNone _ _ rfl)) fun _ _ _ q => rdIndex q
theorem invMm {N : List Str} {sc : Scope} {mx : Bool} {a b : CE} {e : Expr} (h : chkE T N (.mm mx a b) sc e = true) : ∃ x p1 y z p, e = .Call (.Name x p1) [y, z] [] p ∧ x = mmName mx ∧ glB sc x = true ∧ noStar y = true ∧ noStar z = true ∧ chkE T N a sc y = true ∧ chkE T N b sc z = true := by
  cases e <;> try (simp only [chkE, Bool.false_eq_true] at h; done)
  rename_i g xs kw p
  cases g <;> try (simp only [chkE, Bool.false_eq_true] at h; done)
  match xs, kw, h with
  | [y, z], [], h =>
    simp only [chkE, Bool.and_eq_true, beq_iff_eq] at h
    obtain ⟨⟨⟨⟨⟨h1, h2⟩, h3⟩, h4⟩, h5⟩, h6⟩ := h
    exact ⟨_, _, y, z, p, rfl, h1, h2, h3, h4, h5, h6⟩
theorem sMm (mx : Bool) (a b : CE) (o : OkX T cl n W X) {x : Str} {p1 p : Pos} {y z : Expr} (h1 : x = mmName mx) (h2 : glB X.env.scope x = true) (h3 : noStar y = true) (h4 : noStar z = true) (ha : PE X y (tE X.K W (evE cl a))) (hb : PE X z (tE X.K W (evE cl b))) : PE X (.Call (.Name x p1) [y, z] [] p) (tE X.K W (evE cl (.mm mx a b))) := by
  subst h1
  cases mx with
  | true => exact peMono (pe_callB (call_max2 o.calm) (gl_of h2) (o.free "max" (by decide +kernel)) (by decide +kernel) (pa_cons ha (pa_cons hb pa_nil (starOne h4 _ _)) (starOne h3 _ _)) (by decide) (by decide) (starOne h3 _ _) (starNone _ _ (by simp [h4]))) fun _ _ _ q => rdMm q
  | false => exact peMono (pe_callB (call_min2 o.calm) (gl_of h2) (o.free "min" (by decide +kernel)) (by decide +kernel) (pa_cons ha (pa_cons hb pa_nil (starOne h4 _ _)) (starOne h3 _ _)) (by decide) (by decide) (starOne h3 _ _) (starNone _ _ (by simp [h4]))) fun _ _ _ q => rdMm q
theorem ptsOf (c : CE) {ifs : List Expr} {f : Expr → Bool} (h : ifsB f c ifs = true) (hC : ∀ w, f w = true → PT X w (tB' X.K W (evT (evE cl c)))) : PTs X ifs (tB' X.K W (evT (evE cl c))) := by
  match ifs, h with
  | [], h =>
    have hc := isKT_eq h
    rw [hc]
    exact ptsMono pts_nil fun _ _ _ q => rdYes q
  | [w], h => exact pts_one (hC w h)
theorem invComp2 {N : List Str} {sc : Scope} {t t1 : CT} {it it1 : CI} {c c1 e1 : CE} {own : List (Str × Nat)} {vs1 : List Nat} {e : Expr} (h : chkE T N (.comp2 t it c t1 it1 c1 e1 own vs1) sc e = true) : ∃ x tg iter ifs tg1 iter1 ifs1 scope p, e = .ListComp x [⟨tg, iter, ifs, 0⟩, ⟨tg1, iter1, ifs1, 0⟩] scope p ∧
    blkC N sc scope own = true ∧ chkI T N it sc tg iter = true ∧ notSet iter = true ∧ chkT N t scope tg = true ∧ tIn (own.map (·.2)).contains t = true ∧ ifsB (chkC T N c (relS scope sc)) c ifs = true ∧ chkI T N it1 (relS scope sc) tg1 iter1 = true ∧ notSet iter1 = true ∧ chkT N t1 scope tg1 = true ∧ tIn vs1.contains t1 = true ∧
    vs1.all (own.map (·.2)).contains = true ∧ ifsB (chkC T N c1 (relS scope sc)) c1 ifs1 = true ∧ chkE T N e1 (relS scope sc) x = true := by
  cases e <;> try (simp only [chkE, Bool.false_eq_true] at h; done)
  rename_i x gs scope p
  match gs, h with
  | [⟨tg, iter, ifs, a⟩, ⟨tg1, iter1, ifs1, a1⟩], h =>
    simp only [chkE, Bool.and_eq_true, beq_iff_eq] at h
    obtain ⟨⟨⟨⟨⟨⟨⟨⟨⟨⟨⟨⟨⟨⟨h1, h1'⟩, h2⟩, h3⟩, h4⟩, h5⟩, h6⟩, h7⟩, k3⟩, k4⟩, k5⟩, k6⟩, kv⟩, k7⟩, h8⟩ := h
    subst h1 h1'
    exact ⟨x, tg, iter, ifs, tg1, iter1, ifs1, scope, p, rfl, h2, h3, h4, h5, h6, h7, k3, k4, k5, k6, kv, k7, h8⟩
end
mutual
theorem sE {T : Tab} {cl : Calls} {n : Nat} : ∀ (c : CE) {W : WX} {X : Cx} (o : OkX T cl n W X) (e : Expr), chkE T X.N c X.env.scope e = true → PE X e (tE X.K W (evE cl c))
  | .var i, W, X, o, e, h => by
    cases e <;> simp only [chkE, Bool.false_eq_true] at h
    simp only [Bool.and_eq_true, beq_iff_eq] at h
    obtain ⟨⟨h1, h2⟩, h3⟩ := h
    exact peMono (pe_var h1 (vis_of h2) (okN h3).1 (okN h3).2.1) fun _ _ _ q => rdVar q
  | .kn, W, X, o, e, h => by
    cases e <;> try (simp only [chkE, Bool.false_eq_true] at h; done)
    rename_i v k p
    cases v <;> try (simp only [chkE, Bool.false_eq_true] at h; done)
    exact peMono pe_non fun _ _ _ q => rdC (fun _ => .non) q
  | .kb b, W, X, o, e, h => by
    cases e <;> try (simp only [chkE, Bool.false_eq_true] at h; done)
    rename_i v k p
    cases v <;> try (simp only [chkE, Bool.false_eq_true] at h; done)
    simp only [chkE, beq_iff_eq] at h
    subst h
    exact peMono pe_bl fun _ _ _ q => rdC (fun _ => .bl _) q
  | .ki i, W, X, o, e, h => by
    cases e <;> try (simp only [chkE, Bool.false_eq_true] at h; done)
    rename_i v k p
    cases v <;> try (simp only [chkE, Bool.false_eq_true] at h; done)
    simp only [chkE, beq_iff_eq] at h
    subst h
    exact peMono pe_int fun _ _ _ q => rdC (fun _ => .int _) q
  | .ks x, W, X, o, e, h => by
    cases e <;> try (simp only [chkE, Bool.false_eq_true] at h; done)
    rename_i v k p
    cases v <;> try (simp only [chkE, Bool.false_eq_true] at h; done)
    simp only [chkE, beq_iff_eq] at h
    subst h
    exact peMono pe_str fun _ _ _ q => rdC (fun _ => .str _) q
  | .bin op a b, W, X, o, e, h => by
    cases e <;> simp only [chkE, Bool.false_eq_true] at h
    simp only [Bool.and_eq_true, beq_iff_eq] at h
    obtain ⟨⟨h1, h2⟩, h3⟩ := h
    subst h1
    exact peMono (pe_op (bop_ok op) (sE a o _ h2) (sE b o _ h3)) fun _ _ _ q => bin_read q
  | .neg a, W, X, o, e, h => by
    cases e <;> try (simp only [chkE, Bool.false_eq_true] at h; done)
    rename_i u x p
    cases u <;> try (simp only [chkE, Bool.false_eq_true] at h; done)
    simp only [chkE] at h
    exact peMono (pe_un un_neg (sE a o _ h)) fun _ _ _ q => rdNeg q
  | .cmp op a b, W, X, o, e, h => by
    cases e <;> try (simp only [chkE, Bool.false_eq_true] at h; done)
    rename_i x ops ys p
    match ops, ys, h with
    | [c], [y], h =>
      simp only [chkE, Bool.and_eq_true, beq_iff_eq] at h
      obtain ⟨⟨⟨h1, h2⟩, h3⟩, h4⟩ := h
      subst h1
      exact peMono (pe_cmpR (cop3_ok o.room op) (sE a o _ h2) (sE b o _ h3) (noMark h4 _)) fun _ _ _ q => cmp_read3 q
  | .chain o1 o2 a b c, W, X, o, e, h => by
    cases e <;> try (simp only [chkE, Bool.false_eq_true] at h; done)
    rename_i x ops ys p
    match ops, ys, h with
    | [c1, c2], [y, z], h =>
      simp only [chkE, Bool.and_eq_true, beq_iff_eq] at h
      obtain ⟨⟨⟨⟨⟨⟨h1, h2⟩, h3⟩, h4⟩, h5⟩, h6⟩, h7⟩ := h
      subst h1 h2
      exact peMono (pe_chain (cop_ok o.room o1) (cop_ok o.room o2) (sE a o _ h3) (sE b o _ h4) (sE c o _ h5) (noMark h7 _)) fun _ _ _ q => rdChain q
  | .band es, W, X, o, e, h => by
    cases e <;> try (simp only [chkE, Bool.false_eq_true] at h; done)
    rename_i u xs p
    cases u <;> try (simp only [chkE, Bool.false_eq_true] at h; done)
    simp only [chkE] at h
    exact sAnd es o _ _ h
  | .bor es, W, X, o, e, h => by
    cases e <;> try (simp only [chkE, Bool.false_eq_true] at h; done)
    rename_i u xs p
    cases u <;> try (simp only [chkE, Bool.false_eq_true] at h; done)
    simp only [chkE] at h
    exact sOr es o _ _ h
  | .not_ a, W, X, o, e, h => by
    cases e <;> try (simp only [chkE, Bool.false_eq_true] at h; done)
    rename_i u x p
    cases u <;> try (simp only [chkE, Bool.false_eq_true] at h; done)
    simp only [chkE] at h
    exact peMono (pe_not (sE a o _ h)) fun _ _ _ q => rdNotV q
  | .orT a b, W, X, o, e, h => by
    cases e <;> try (simp only [chkE, Bool.false_eq_true] at h; done)
    rename_i u xs p
    cases u <;> try (simp only [chkE, Bool.false_eq_true] at h; done)
    match xs, h with
    | [x, y], h =>
      simp only [chkE, Bool.and_eq_true] at h
      exact peMono (pe_orT (sE a o _ h.1) (pe_one (sE b o _ h.2))) fun _ _ _ q => rdOrT q
  | .ite t a b, W, X, o, e, h => by
    cases e <;> simp only [chkE, Bool.false_eq_true] at h
    simp only [Bool.and_eq_true] at h
    exact peMono (pe_ifExp (sC t o _ h.1.1) (sE a o _ h.1.2) (sE b o _ h.2)) fun _ _ _ q => rdIte q
  | .tup es, W, X, o, e, h => by
    cases e <;> simp only [chkE, Bool.false_eq_true] at h
    exact peMono (pe_tup (sL es o _ h)) fun _ _ _ q => rdL q
  | .lst es, W, X, o, e, h => by
    cases e <;> simp only [chkE, Bool.false_eq_true] at h
    exact peMono (pe_lst (sL es o _ h)) fun _ _ _ q => rdLst q
  | .newc es, W, X, o, e, h => by
    cases e <;> simp only [chkE, Bool.false_eq_true] at h
    exact peMono (pe_lst (sL es o _ h)) fun _ _ _ q => rdCell q
  | .idx a i, W, X, o, e, h => by
    cases e <;> simp only [chkE, Bool.false_eq_true] at h
    simp only [Bool.and_eq_true] at h
    exact peMono (pe_ix (ix_ok o.room) (sE a o _ h.1.1) (sE i o _ h.1.2) (plainIx h.2)) fun _ _ _ q => rdIdx q
  | .no, W, X, o, e, h => peBad fun _ _ _ ⟨_, _, _, _, _, _, q⟩ => q
  | .slc a lo hi, W, X, o, e, h => by
    cases e <;> try (simp only [chkE, Bool.false_eq_true] at h; done)
    rename_i x y p
    cases y <;> try (simp only [chkE, Bool.false_eq_true] at h; done)
    rename_i l u st p2
    cases st <;> simp only [chkE, Bool.false_eq_true] at h
    simp only [Bool.and_eq_true] at h
    refine peMono (pe_slice slc_ok (sE a o _ h.1.1) (sO lo o (sE lo o) h.1.2) (sO hi o (sE hi o) h.2)) fun _ _ _ q => rdSlc q
  | .rev a, W, X, o, e, h => by
    cases e <;> try (simp only [chkE, Bool.false_eq_true] at h; done)
    rename_i x y p
    cases y <;> try (simp only [chkE, Bool.false_eq_true] at h; done)
    rename_i l u st p2
    match l, u, st, h with
    | none, none, some (.UnaryOp .USub (.Constant (.int j) _ _) _), h =>
      simp only [chkE, Bool.and_eq_true, beq_iff_eq] at h
      obtain ⟨h1, h2⟩ := h
      subst h1
      exact peMono (pe_revA (sE a o _ h2)) fun _ _ _ q => rdRev q
  | .call f es, W, X, o, e, h => by
    cases e <;> try (simp only [chkE, Bool.false_eq_true] at h; done)
    rename_i g xs kw p
    cases g <;> try (simp only [chkE, Bool.false_eq_true] at h; done)
    cases kw <;> simp only [chkE, Bool.false_eq_true] at h
    exact sCall f es o h (fun h1 h2 => sA es o _ h1 h2)
  | .callk f es ks ns, W, X, o, e, h => by
    obtain ⟨x, p1, xs, kw, kws, p, rfl, h1⟩ := invCallK h
    exact sCallK f es ks ns o h1 (fun h1 h2 => sA es o _ h1 h2) (fun h1 => sK ks o _ h1)
  | .kg x i, W, X, o, e, h => by
    obtain ⟨p, rfl, h2, h3, h4⟩ := invKg h
    obtain ⟨t, ht⟩ := o.kon x i h4
    exact peMono (pe_glob (v := .int i) (gl_of h2) ht ⟨t, rfl⟩ (okN h3).1) fun _ _ _ q => rdKg q
  | .dctT f a, W, X, o, e, h => by
    obtain ⟨p1, x, p2, y, p3, p4, d, rfl, h1, h2, h3, h4, h5, h6, h7, h8, h9⟩ := invDct h
    obtain ⟨fa, fd, k1, k2, k3, F⟩ := o.tpd f h2 d h4
    subst h5
    exact peMono (pe_callTy (cb_dctP o.calm) (gl_of h1) (o.free "dict" (by decide +kernel)) (by decide +kernel) (pa_cons (pe_callS F o.room (gl_of h6) k1 k2 k3 (passAt o.tk) (pa_cons (sE a o y h9) pa_nil (starOne h3 _ _)) (okN h7).1 (starOne h3 _ _) (starNone _ _ rfl)) pa_nil (starOne rfl _ _)) (by decide) (by decide) (starOne rfl _ _) (starNone _ _ rfl)) fun _ _ _ q => rdDct q
  | .kz x z, W, X, o, e, h => by
    obtain ⟨p, rfl, h2, h3, h4⟩ := invKz h
    obtain ⟨t, ht⟩ := o.zon x z h4
    exact peMono (pe_glob (v := .str z) (gl_of h2) ht ⟨t, rfl⟩ (okN h3).1) fun _ _ _ q => rdKz q
  | .kdx x ps a, W, X, o, e, h => by
    obtain ⟨p, w, p2, rfl, h2, h3, h4, h5, h6⟩ := invKdx h
    obtain ⟨ad, ht, hv⟩ := o.don x ps h4
    exact peMono (pe_ix ix_kdict (pe_glob (v := .ref ad) (gl_of h2) ht rfl (okN h3).1) (sE a o w h5) (plainIx h6)) fun _ _ _ q => rdKdx hv q
  | .b1 op a, W, X, o, e, h => by
    cases e <;> try (simp only [chkE, Bool.false_eq_true] at h; done)
    rename_i g xs kw p
    cases g <;> try (simp only [chkE, Bool.false_eq_true] at h; done)
    match xs, kw, h with
    | [y], [], h =>
      simp only [chkE, Bool.and_eq_true, beq_iff_eq] at h
      obtain ⟨⟨⟨h1, h2⟩, h3⟩, h4⟩ := h
      cases op with
      | lrg =>
        cases y <;> try (simp only [Bool.false_eq_true] at h4; done)
        rename_i g2 xs2 kw2 p2
        cases g2 <;> try (simp only [Bool.false_eq_true] at h4; done)
        match xs2, kw2, h3, h4 with
        | [w], [], h3, h4 =>
          simp only [Bool.and_eq_true, beq_iff_eq] at h4
          obtain ⟨⟨⟨k1, k2⟩, k3⟩, k4⟩ := h4
          subst h1 k1
          exact peMono (pe_listRg o.calm (gl_of h2) (o.free "list" (by decide +kernel)) (prg_1 (gl_of k2) (o.free "range" (by decide +kernel)) (sE a o w k4) (starOne k3 _ _)) (starOne rfl _ _)) fun _ _ _ q => rdLrg q
      | trg =>
        cases y <;> try (simp only [Bool.false_eq_true] at h4; done)
        rename_i g2 xs2 kw2 p2
        cases g2 <;> try (simp only [Bool.false_eq_true] at h4; done)
        match xs2, kw2, h3, h4 with
        | [w], [], h3, h4 =>
          simp only [Bool.and_eq_true, beq_iff_eq] at h4
          obtain ⟨⟨⟨k1, k2⟩, k3⟩, k4⟩ := h4
          subst h1 k1
          exact peMono (pe_tupRg o.calm (gl_of h2) (o.free "tuple" (by decide +kernel)) (prg_1 (gl_of k2) (o.free "range" (by decide +kernel)) (sE a o w k4) (starOne k3 _ _)) (starOne rfl _ _)) fun _ _ _ q => rdTrg q
      | sset =>
        cases y <;> try (simp only [Bool.false_eq_true] at h4; done)
        rename_i g2 xs2 kw2 p2
        cases g2 <;> try (simp only [Bool.false_eq_true] at h4; done)
        match xs2, kw2, h3, h4 with
        | [w], [], h3, h4 =>
          simp only [Bool.and_eq_true, beq_iff_eq] at h4
          obtain ⟨⟨⟨k1, k2⟩, k3⟩, k4⟩ := h4
          subst h1 k1
          exact peMono (pe_sset o.room o.calm (gl_of h2) (o.free "sorted" (by decide +kernel)) (gl_of k2) (o.free "set" (by decide +kernel)) (sE a o w k4) k3) fun _ _ _ q => b1_read q
      | _ => exact sB1 _ a o h1 h2 h3 ⟨nofun, nofun, nofun⟩ (sE a o y h4)
  | .isin a ts, W, X, o, e, h => by
    cases e <;> try (simp only [chkE, Bool.false_eq_true] at h; done)
    rename_i g xs kw p
    cases g <;> try (simp only [chkE, Bool.false_eq_true] at h; done)
    match xs, kw, h with
    | [y, z], [], h =>
      simp only [chkE] at h
      exact sIsin a ts o h (sE a o y)
  | .index a b, W, X, o, e, h => by
    obtain ⟨y, py, ap, x, cp, p, rfl, h2, h3, h4, h5⟩ := invIndex h
    exact sIndex a b o h2 h3 (sE a o (.Name y py) h4) (sE b o x h5)
  | .mm mx a b, W, X, o, e, h => by
    obtain ⟨x, p1, y, z, p, rfl, h1, h2, h3, h4, h5, h6⟩ := invMm h
    exact sMm mx a b o h1 h2 h3 h4 (sE a o y h5) (sE b o z h6)
  | .comp2 t it c t1 it1 c1 e1 own vs1, W, X, o, e, h => by
    obtain ⟨x, tg, iter, ifs, tg1, iter1, ifs1, scope, p, rfl, h2, h3, h4, h5, h6, h7, k3, k4, k5, k6, kv, k7, h8⟩ := invComp2 h
    refine peMono (pe_lc2 (tt := tB' X.K Wf (evT (evE cl c))) (tt1 := tB' X.K Wf (evT (evE cl c1))) (te := tE X.K Wf (evE cl e1)) (g := gT X.K t) (g1 := gT X.K t1) (wi1 := tI X.K Wf (evI cl it1)) (vs1 := vs1) o.calm o.nd (sI it o tg iter h3) (blkOk_by h2) (fun i hi => by simpa using List.all_eq_true.mp kv i hi) (fun s H C cl fp => sT (o.tg s H scope _ fp rfl) t tg h5) (fun s H C cl' fp => ptsOf c h7 (sC c (o.blk s H scope (compEnvC scope cl' C X.env) fp))) (fun s H C cl' fp => sI it1 (o.blk s H scope (compEnvC scope cl' C X.env) fp) tg1 iter1 k3) (fun s H C cl fp => sT (o.tg s H scope _ fp rfl) t1 tg1 k5) (fun s H C cl' fp => ptsOf c1 k7 (sC c1 (o.blk s H scope (compEnvC scope cl' C X.env) fp))) (fun s H C cl' fp => sE e1 (o.blk s H scope (compEnvC scope cl' C X.env) fp) x h8) (fun x => notSetF h4 _ x) (fun env x => notSetF k4 env x)) fun _ _ _ q => rdComp2 h6 k6 (tF2_of (by rw [comp2_eq] at q; exact q))
  | .comp t it c e1 own, W, X, o, e, h => by
    cases e <;> try (simp only [chkE, Bool.false_eq_true] at h; done)
    rename_i x gs scope p
    match gs, h with
    | [⟨tg, iter, ifs, a⟩], h =>
      simp only [chkE, Bool.and_eq_true, beq_iff_eq] at h
      obtain ⟨⟨⟨⟨⟨⟨⟨h1, h2⟩, h3⟩, h4⟩, h5⟩, h6⟩, h7⟩, h8⟩ := h
      subst h1
      refine peMono (pe_lc (tt := tB' X.K Wf (evT (evE cl c))) (te := tE X.K Wf (evE cl e1)) (g := gT X.K t) o.calm o.nd (sI it o tg iter h3) (blkOk_by h2) (fun s H C cl fp => sT (o.tg s H scope _ fp rfl) t tg h5) (fun s H C cl' fp => ?_) (fun s H C cl' fp => sE e1 (o.blk s H scope (compEnvC scope cl' C X.env) fp) x h8) (fun x => notSetF h4 _ x)) fun _ _ _ q => rdComp h6 (tF_of q)
      match ifs, h7 with
      | [], h7 =>
        have hc := isKT_eq h7
        rw [hc]
        exact ptsMono pts_nil fun _ _ _ q => rdYes q
      | [w], h7 => exact pts_one (sC c (o.blk s H scope (compEnvC scope cl' C X.env) fp) w h7)
  | .lenO i, W, X, o, e, h => by
    cases e <;> try (simp only [chkE, Bool.false_eq_true] at h; done)
    rename_i g xs kw p
    cases g <;> try (simp only [chkE, Bool.false_eq_true] at h; done)
    match xs, kw, h with
    | [.Name y _], [], h =>
      simp only [chkE, Bool.and_eq_true, beq_iff_eq] at h
      obtain ⟨⟨⟨⟨h1, h2⟩, h3⟩, h4⟩, h5⟩ := h
      subst h1
      exact peMono (pe_callB call_len_seq (gl_of h2) (o.free "len" (by decide +kernel)) (by decide +kernel) (pa_cons (pe_var h3 (vis_of h4) (okN h5).1 (okN h5).2.1) pa_nil (starOne rfl _ _)) (by decide) (by decide) (starOne rfl _ _) (starNone _ _ rfl)) fun _ _ _ q => rdLenO q
  | .idxO i e1, W, X, o, e, h => by
    cases e <;> try (simp only [chkE, Bool.false_eq_true] at h; done)
    rename_i x y p
    cases x <;> try (simp only [chkE, Bool.false_eq_true] at h; done)
    simp only [chkE, Bool.and_eq_true, beq_iff_eq] at h
    obtain ⟨⟨⟨⟨h1, h2⟩, h3⟩, h4⟩, h5⟩ := h
    exact peMono (pe_ix ix_list (pe_var h1 (vis_of h2) (okN h3).1 (okN h3).2.1) (sE e1 o y h4) (plainIx h5)) fun _ _ _ q => rdIdxO q
termination_by structural c => c
theorem sAnd {T : Tab} {cl : Calls} {n : Nat} : ∀ (c : CL) {W : WX} {X : Cx} (o : OkX T cl n W X) (xs : List Expr) (p : Pos), chkL T X.N c X.env.scope xs = true → PE X (.BoolOp .And xs p) (tE X.K W (evAnd cl c))
  | .nil, W, X, o, xs, p, h => peBad fun _ _ _ ⟨_, _, _, _, _, _, q⟩ => q
  | .star _ _, W, X, o, xs, p, h => peBad fun _ _ _ ⟨_, _, _, _, _, _, q⟩ => q
  | .cons e .nil, W, X, o, xs, p, h => by
    match xs, h with
    | [x], h =>
      simp only [chkL, Bool.and_eq_true] at h
      exact pe_one (sE e o x h.1.2)
    | x :: y :: ys, h => simp [chkL] at h
    | [], h => simp [chkL] at h
  | .cons e (.cons e2 es), W, X, o, xs, p, h => by
    match xs, h with
    | [x], h => simp [chkL] at h
    | [], h => simp [chkL] at h
    | x :: y :: ys, h =>
      have h' : (noStar x && chkE T X.N e X.env.scope x && chkL T X.N (.cons e2 es) X.env.scope (y :: ys)) = true := h
      simp only [Bool.and_eq_true] at h'
      exact peMono (pe_and (sE e o x h'.1.2) (sAnd (.cons e2 es) o (y :: ys) p h'.2)) fun _ _ _ q => rdAndV q
  | .cons e (.star e2 es), W, X, o, xs, p, h => peBad fun _ _ _ ⟨_, _, _, _, _, _, q⟩ => q
termination_by structural c => c
theorem sOr {T : Tab} {cl : Calls} {n : Nat} : ∀ (c : CL) {W : WX} {X : Cx} (o : OkX T cl n W X) (xs : List Expr) (p : Pos), chkL T X.N c X.env.scope xs = true → PE X (.BoolOp .Or xs p) (tE X.K W (evOr cl c))
  | .nil, W, X, o, xs, p, h => peBad fun _ _ _ ⟨_, _, _, _, _, _, q⟩ => q
  | .star _ _, W, X, o, xs, p, h => peBad fun _ _ _ ⟨_, _, _, _, _, _, q⟩ => q
  | .cons e .nil, W, X, o, xs, p, h => by
    match xs, h with
    | [x], h =>
      simp only [chkL, Bool.and_eq_true] at h
      exact pe_one (sE e o x h.1.2)
    | x :: y :: ys, h => simp [chkL] at h
    | [], h => simp [chkL] at h
  | .cons e (.cons e2 es), W, X, o, xs, p, h => by
    match xs, h with
    | [x], h => simp [chkL] at h
    | [], h => simp [chkL] at h
    | x :: y :: ys, h =>
      have h' : (noStar x && chkE T X.N e X.env.scope x && chkL T X.N (.cons e2 es) X.env.scope (y :: ys)) = true := h
      simp only [Bool.and_eq_true] at h'
      exact peMono (pe_or (sE e o x h'.1.2) (sOr (.cons e2 es) o (y :: ys) p h'.2)) fun _ _ _ q => rdOrV q
  | .cons e (.star e2 es), W, X, o, xs, p, h => peBad fun _ _ _ ⟨_, _, _, _, _, _, q⟩ => q
termination_by structural c => c
theorem sL {T : Tab} {cl : Calls} {n : Nat} : ∀ (c : CL) {W : WX} {X : Cx} (o : OkX T cl n W X) (xs : List Expr), chkL T X.N c X.env.scope xs = true → PA X xs (tL X.K W (evL cl c))
  | .nil, W, X, o, xs, h => by
    cases xs <;> simp only [chkL, Bool.false_eq_true] at h
    exact paMono pa_nil fun _ _ _ q => rdNil q
  | .cons e es, W, X, o, xs, h => by
    cases xs <;> simp only [chkL, Bool.false_eq_true] at h
    simp only [Bool.and_eq_true] at h
    exact paMono (pa_cons (sE e o _ h.1.2) (sL es o _ h.2) (starOne h.1.1 _ _)) fun _ _ _ q => rdCons q
  | .star e es, W, X, o, xs, h => by
    cases xs with
    | nil => simp only [chkL, Bool.false_eq_true] at h
    | cons x xs =>
      cases x <;> simp only [chkL, Bool.false_eq_true] at h
      simp only [Bool.and_eq_true] at h
      exact paMono (StX.pa_star (sE e o _ h.1) (sL es o _ h.2) rfl) fun _ _ _ q => rdStar q
termination_by structural c => c
theorem sA {T : Tab} {cl : Calls} {n : Nat} : ∀ (c : CL) {W : WX} {X : Cx} (o : OkX T cl n W X) (xs : List Expr), xs.all noStar = true → chkL T X.N c X.env.scope xs = true → PA X xs (tAs X.K W (evA cl c))
  | .nil, W, X, o, xs, _, h => by
    cases xs <;> simp only [chkL, Bool.false_eq_true] at h
    exact paMono pa_nil fun _ _ _ q => rdNilA q
  | .cons e es, W, X, o, xs, s, h => by
    cases xs <;> simp only [chkL, Bool.false_eq_true] at h
    simp only [Bool.and_eq_true] at h
    simp only [List.all_cons, Bool.and_eq_true] at s
    exact paMono (pa_cons (sE e o _ h.1.2) (sA es o _ s.2 h.2) (starOne h.1.1 _ _)) fun _ _ _ q => rdConsA q
  | .star e es, W, X, o, xs, s, h => by
    cases xs with
    | nil => simp only [chkL, Bool.false_eq_true] at h
    | cons x xs =>
      cases x <;> simp only [chkL, Bool.false_eq_true] at h
      simp [noStar] at s
termination_by structural c => c
theorem sK {T : Tab} {cl : Calls} {n : Nat} : ∀ (c : CL) {W : WX} {X : Cx} (o : OkX T cl n W X) (kws : List Keyword), chkK T X.N c X.env.scope kws = true → PK X kws (tAs X.K W (evA cl c))
  | .nil, W, X, o, kws, h => by
    cases kws with
    | nil => exact pkMono pk_nil fun _ _ _ q => rdNilA q
    | cons _ _ => simp only [chkK, Bool.false_eq_true] at h
  | .cons e es, W, X, o, kws, h => by
    cases kws with
    | nil => simp only [chkK, Bool.false_eq_true] at h
    | cons k r =>
      obtain ⟨a, v, p⟩ := k
      cases a with
      | none => simp only [chkK, Bool.false_eq_true] at h
      | some a =>
        simp only [chkK, Bool.and_eq_true] at h
        exact pkMono (pk_cons (sE e o v h.1) (sK es o r h.2)) fun _ _ _ q => rdConsA q
  | .star e es, W, X, o, kws, h => by cases kws <;> simp only [chkK, Bool.false_eq_true] at h
termination_by structural c => c
theorem sI {T : Tab} {cl : Calls} {n : Nat} : ∀ (c : CI) {W : WX} {X : Cx} (o : OkX T cl n W X) (tg e : Expr), chkI T X.N c X.env.scope tg e = true → PI X tg e (tI X.K W (evI cl c))
  | .dat a, W, X, o, tg, e, h => by
    simp only [chkI] at h
    exact piMono (pi_any (pe_len (sE a o e h))) fun _ _ _ q => rdIDat q
  | .rg1 a, W, X, o, tg, e, h => by
    cases e <;> try (simp only [chkI, Bool.false_eq_true] at h; done)
    rename_i g xs kw p
    cases g <;> try (simp only [chkI, Bool.false_eq_true] at h; done)
    match xs, kw, h with
    | [w], [], h =>
      simp only [chkI, Bool.and_eq_true, beq_iff_eq] at h
      obtain ⟨⟨⟨h1, h2⟩, h3⟩, h4⟩ := h
      subst h1
      exact piMono (pi_range1 (gl_of h2) (o.free "range" (by decide +kernel)) (pa_cons (sE a o w h4) pa_nil (starOne h3 _ _)) (starOne h3 _ _)) fun _ _ _ q => rdRg1 q
  | .rg2 a b, W, X, o, tg, e, h => by
    cases e <;> try (simp only [chkI, Bool.false_eq_true] at h; done)
    rename_i g xs kw p
    cases g <;> try (simp only [chkI, Bool.false_eq_true] at h; done)
    match xs, kw, h with
    | [v, w], [], h =>
      simp only [chkI, Bool.and_eq_true, beq_iff_eq] at h
      obtain ⟨⟨⟨⟨⟨h1, h2⟩, h3⟩, h4⟩, h5⟩, h6⟩ := h
      subst h1
      exact piMono (pi_range2 (gl_of h2) (o.free "range" (by decide +kernel)) (pa_cons (sE a o v h5) (pa_cons (sE b o w h6) pa_nil (starOne h4 _ _)) (starOne h3 _ _)) (by rw [starOne h3, starOne h4]; rfl) (by rw [starOne h4]; rfl)) fun _ _ _ q => rdRg2 q
  | .zip a b, W, X, o, tg, e, h => by
    cases e <;> try (simp only [chkI, Bool.false_eq_true] at h; done)
    rename_i g xs kw p
    cases g <;> try (simp only [chkI, Bool.false_eq_true] at h; done)
    match xs, kw, h with
    | [v, w], [], h =>
      simp only [chkI, Bool.and_eq_true, beq_iff_eq] at h
      obtain ⟨⟨⟨⟨⟨⟨h0, h1⟩, h2⟩, h3⟩, h4⟩, h5⟩, h6⟩ := h
      subst h1
      cases tg <;> simp only [isTup, Bool.false_eq_true] at h0
      exact piMono (pi_zipK (gl_of h2) (o.free "zip" (by decide +kernel)) (pa_cons (pe_len (sE a o v h5)) (pa_cons (sE b o w h6) pa_nil (starOne h4 _ _)) (starOne h3 _ _)) (starOne h3 _ _) (starNone _ _ (by simp [h4]))) fun _ _ _ q => rdZip q
  | .enum a, W, X, o, tg, e, h => by
    cases e <;> try (simp only [chkI, Bool.false_eq_true] at h; done)
    rename_i g xs kw p
    cases g <;> try (simp only [chkI, Bool.false_eq_true] at h; done)
    match xs, kw, h with
    | [w], [], h =>
      simp only [chkI, Bool.and_eq_true, beq_iff_eq] at h
      obtain ⟨⟨⟨⟨h0, h1⟩, h2⟩, h3⟩, h4⟩ := h
      subst h1
      cases tg <;> simp only [isTup, Bool.false_eq_true] at h0
      exact piMono (pi_enumK (gl_of h2) (o.free "enumerate" (by decide +kernel)) (pa_cons (pe_len (sE a o w h4)) pa_nil (starOne h3 _ _)) (starOne h3 _ _)) fun _ _ _ q => rdEnum q
termination_by structural c => c
theorem sC {T : Tab} {cl : Calls} {n : Nat} : ∀ (c : CE) {W : WX} {X : Cx} (o : OkX T cl n W X) (e : Expr), chkC T X.N c X.env.scope e = true → PT X e (tB' X.K W (evT (evE cl c)))
  | .var i, W, X, o, e, h => by
    cases e <;> simp only [chkC, Bool.false_eq_true] at h
    simp only [Bool.and_eq_true, beq_iff_eq] at h
    exact ptV rfl (sVar i h.1.1 h.1.2 h.2) (fun _ => rfl)
  | .cmp op a b, W, X, o, e, h => by
    cases e <;> try (simp only [chkC, Bool.false_eq_true] at h; done)
    rename_i x ops ys p
    match ops, ys, h with
    | [c], [y], h =>
      simp only [chkC, Bool.and_eq_true, beq_iff_eq] at h
      obtain ⟨⟨⟨h1, h2⟩, h3⟩, h4⟩ := h
      subst h1
      exact ptMono (pt_cmpR (cop3_ok o.room op) (sE a o _ h2) (sE b o _ h3) (noMark h4 _)) fun _ _ _ q => cmp_read3 (tB_E q)
  | .chain o1 o2 a b c, W, X, o, e, h => by
    cases e <;> try (simp only [chkC, Bool.false_eq_true] at h; done)
    rename_i x ops ys p
    match ops, ys, h with
    | [c1, c2], [y, z], h =>
      simp only [chkC, Bool.and_eq_true, beq_iff_eq] at h
      obtain ⟨⟨⟨⟨⟨⟨h1, h2⟩, h3⟩, h4⟩, h5⟩, h6⟩, h7⟩ := h
      subst h1 h2
      exact ptMono (pt_chain (cop_ok o.room o1) (cop_ok o.room o2) (sE a o _ h3) (sE b o _ h4) (sE c o _ h5) (noMark h7 _)) fun _ _ _ q => rdChain (tB_E q)
  | .band es, W, X, o, e, h => by
    cases e <;> try (simp only [chkC, Bool.false_eq_true] at h; done)
    rename_i u xs p
    cases u <;> try (simp only [chkC, Bool.false_eq_true] at h; done)
    simp only [chkC] at h
    exact (sAndC es o _ _ h).pt
  | .bor es, W, X, o, e, h => by
    cases e <;> try (simp only [chkC, Bool.false_eq_true] at h; done)
    rename_i u xs p
    cases u <;> try (simp only [chkC, Bool.false_eq_true] at h; done)
    simp only [chkC] at h
    exact (sOrC es o _ _ h).pt
  | .not_ a, W, X, o, e, h => by
    cases e <;> try (simp only [chkC, Bool.false_eq_true] at h; done)
    rename_i u x p
    cases u <;> try (simp only [chkC, Bool.false_eq_true] at h; done)
    simp only [chkC] at h
    exact ptMono (pt_not (sC a o _ h)) fun _ _ _ q => rdNot q
  | .idx a i, W, X, o, e, h => by
    cases e <;> simp only [chkC, Bool.false_eq_true] at h
    simp only [Bool.and_eq_true] at h
    exact ptV rfl (sIdx a i o h.2 (sE a o _ h.1.1) (sE i o _ h.1.2)) (fun _ => rfl)
  | .call f es, W, X, o, e, h => by
    cases e <;> try (simp only [chkC, Bool.false_eq_true] at h; done)
    rename_i g xs kw p
    cases g <;> try (simp only [chkC, Bool.false_eq_true] at h; done)
    cases kw <;> simp only [chkC, Bool.false_eq_true] at h
    exact ptV rfl (sCall f es o h (fun h1 h2 => sA es o _ h1 h2)) (fun _ => rfl)
  | .b1 op a, W, X, o, e, h => by
    cases e <;> try (simp only [chkC, Bool.false_eq_true] at h; done)
    rename_i g xs kw p
    cases g <;> try (simp only [chkC, Bool.false_eq_true] at h; done)
    match xs, kw, h with
    | [y], [], h =>
      simp only [chkC, Bool.and_eq_true, beq_iff_eq] at h
      obtain ⟨⟨⟨h1, h2⟩, h3⟩, h4⟩ := h
      cases op with
      | lrg => simp at h4
      | trg => simp at h4
      | sset => simp at h4
      | _ => exact ptV rfl (sB1 _ a o h1 h2 h3 ⟨nofun, nofun, nofun⟩ (sE a o y h4)) (fun _ => rfl)
  | .isin a ts, W, X, o, e, h => by
    cases e <;> try (simp only [chkC, Bool.false_eq_true] at h; done)
    rename_i g xs kw p
    cases g <;> try (simp only [chkC, Bool.false_eq_true] at h; done)
    match xs, kw, h with
    | [y, z], [], h =>
      simp only [chkC] at h
      exact ptV rfl (sIsin a ts o h (sE a o y)) (fun _ => rfl)
  | .kn, W, X, o, e, h => by simp [chkC] at h
  | .kb _, W, X, o, e, h => by simp [chkC] at h
  | .ki _, W, X, o, e, h => by simp [chkC] at h
  | .ks _, W, X, o, e, h => by simp [chkC] at h
  | .bin _ _ _, W, X, o, e, h => by simp [chkC] at h
  | .neg _, W, X, o, e, h => by simp [chkC] at h
  | .orT _ _, W, X, o, e, h => by simp [chkC] at h
  | .ite _ _ _, W, X, o, e, h => by simp [chkC] at h
  | .tup _, W, X, o, e, h => by simp [chkC] at h
  | .lst _, W, X, o, e, h => by simp [chkC] at h
  | .no, W, X, o, e, h => by simp [chkC] at h
  | .slc _ _ _, W, X, o, e, h => by simp [chkC] at h
  | .rev _, W, X, o, e, h => by simp [chkC] at h
  | .newc _, W, X, o, e, h => by simp [chkC] at h
  | .callk _ _ _ _, W, X, o, e, h => by simp [chkC] at h
  | .kg _ _, W, X, o, e, h => by simp [chkC] at h
  | .kz _ _, W, X, o, e, h => by simp [chkC] at h
  | .dctT _ _, W, X, o, e, h => by simp [chkC] at h
  | .kdx _ _ _, W, X, o, e, h => by simp [chkC] at h
  | .index _ _, W, X, o, e, h => by simp [chkC] at h
  | .comp _ _ _ _ _, W, X, o, e, h => by simp [chkC] at h
  | .comp2 _ _ _ _ _ _ _ _ _, W, X, o, e, h => by simp [chkC] at h
  | .mm _ _ _, W, X, o, e, h => by simp [chkC] at h
  | .lenO _, W, X, o, e, h => by simp [chkC] at h
  | .idxO _ _, W, X, o, e, h => by simp [chkC] at h
termination_by structural c => c
theorem sAndC {T : Tab} {cl : Calls} {n : Nat} : ∀ (c : CL) {W : WX} {X : Cx} (o : OkX T cl n W X) (xs : List Expr) (p : Pos), chkCs T X.N c X.env.scope xs = true → PW X (.BoolOp .And xs p) (tB' X.K W (evT (evAnd cl c)))
  | .nil, W, X, o, xs, p, h => by cases xs <;> simp [chkCs] at h
  | .star _ _, W, X, o, xs, p, h => by cases xs <;> simp [chkCs] at h
  | .cons e .nil, W, X, o, xs, p, h => by
    match xs, h with
    | [x], h => exact pw_and1 (sC e o x h)
    | x :: y :: ys, h => simp [chkCs] at h
  | .cons e (.cons e2 es), W, X, o, xs, p, h => by
    match xs, h with
    | [x], h =>
      simp [chkCs] at h
    | x :: y :: ys, h =>
      have h' : (chkC T X.N e X.env.scope x && chkCs T X.N (.cons e2 es) X.env.scope (y :: ys)) = true := h
      simp only [Bool.and_eq_true] at h'
      exact pwMono (pw_and (sC e o x h'.1) (sAndC (.cons e2 es) o (y :: ys) p h'.2)) fun _ _ _ q => rdAnd q
  | .cons e (.star e2 es), W, X, o, xs, p, h => by
    match xs, h with
    | [x], h => simp [chkCs] at h
    | x :: y :: ys, h => simp [chkCs] at h
termination_by structural c => c
theorem sOrC {T : Tab} {cl : Calls} {n : Nat} : ∀ (c : CL) {W : WX} {X : Cx} (o : OkX T cl n W X) (xs : List Expr) (p : Pos), chkCs T X.N c X.env.scope xs = true → PW X (.BoolOp .Or xs p) (tB' X.K W (evT (evOr cl c)))
  | .nil, W, X, o, xs, p, h => by cases xs <;> simp [chkCs] at h
  | .star _ _, W, X, o, xs, p, h => by cases xs <;> simp [chkCs] at h
  | .cons e .nil, W, X, o, xs, p, h => by
    match xs, h with
    | [x], h => exact pw_or1 (sC e o x h)
    | x :: y :: ys, h => simp [chkCs] at h
  | .cons e (.cons e2 es), W, X, o, xs, p, h => by
    match xs, h with
    | [x], h => simp [chkCs] at h
    | x :: y :: ys, h =>
      have h' : (chkC T X.N e X.env.scope x && chkCs T X.N (.cons e2 es) X.env.scope (y :: ys)) = true := h
      simp only [Bool.and_eq_true] at h'
      exact pwMono (pw_or (sC e o x h'.1) (sOrC (.cons e2 es) o (y :: ys) p h'.2)) fun _ _ _ q => rdOr q
  | .cons e (.star e2 es), W, X, o, xs, p, h => by
    match xs, h with
    | [x], h => simp [chkCs] at h
    | x :: y :: ys, h => simp [chkCs] at h
termination_by structural c => c
end
end Mp

set_option Elab.async false
set_option linter.all false
set_option maxRecDepth 100000
set_option maxHeartbeats 4000000
namespace Mp
open PySem PySem.Spec PyProof.Rows L2

/-! ### statements: the state, what is wanted behind them -/
structure StB (K : PySem.W.Frag) (ks0 : List Addr) (Hz0 H0 Z : Hp) (ks : List Addr) (m : Mem) (Hz H : Hp) (r : Env') (σ : L2.St) : Prop where
  x : Ext ks0 Hz0 H0 ks Hz H
  z : Same Z Hz
  c : CR K ks m Hz H
  e : ER K ks Hz H r σ
  o : ∀ (i : Nat) (xs : List PyData) (p : Addr), r[i]? = some (Slot.own xs) → σ[i]? = some (some (V.ref p)) → H0 p = none
theorem StB.up {K : PySem.W.Frag} {ks0 ks ks' : List Addr} {Hz0 H0 Z Hz H Hz' H' : Hp} {m m' : Mem} {r : Env'} {σ : L2.St} (b : StB K ks0 Hz0 H0 Z ks m Hz H r σ) (x : Ext ks Hz H ks' Hz' H') (c : CR K ks' m' Hz' H') : StB K ks0 Hz0 H0 Z ks' m' Hz' H' r σ :=
  ⟨b.x.trans x, b.z.trans x.zs, c, b.e.up x, b.o⟩
def AftS (K : PySem.W.Frag) (W : WX) (ks0 : List Addr) (Hz0 H0 Z : Hp) (D : Ends) : SRes → Prop
  | .nx r m => ∀ ks Hz H σ, StB K ks0 Hz0 H0 Z ks m Hz H r σ → D.nx σ H
  | .bk r m => ∀ ks Hz H σ, StB K ks0 Hz0 H0 Z ks m Hz H r σ → D.bk σ H
  | .ct r m => ∀ ks Hz H σ, StB K ks0 Hz0 H0 Z ks m Hz H r σ → D.ct σ H
  | .rt x m => ∀ ks Hz H v, Ext ks0 Hz0 H0 ks Hz H → Same Z Hz → CR K ks m Hz H → VR K ks Hz v x → D.rt v H
  | .ex c x r m => ∀ ks Hz H d σ, StB K ks0 Hz0 H0 Z ks m Hz H r σ → XR K Hz H x d → W (.ref (He.ga K c)) d σ H
  | .bad => False
def tS (K : PySem.W.Frag) (W : WX) (ev : Env' → Mem → SRes) : TS := fun D σ H =>
  ∃ ks0 Hz0 H0 Z ks m Hz r, StB K ks0 Hz0 H0 Z ks m Hz H r σ ∧ AftS K W ks0 Hz0 H0 Z D (ev r m)
section
variable {α β : Type} {K : PySem.W.Frag} {R : List Addr → Hp → Hp → β → α → Prop} {W : WX} {ks0 ks : List Addr} {Hz0 H0 Z Hz H : Hp} {D : Ends} {m : Mem} {r : Env'} {σ : L2.St}
/-- an expression in a statement -/
theorem AftS.of {re : Res α} {k : α → Mem → SRes} {Q' : β → Hp → Prop} (b : StB K ks0 Hz0 H0 Z ks m Hz H r σ) (h : AftS K W ks0 Hz0 H0 Z D (SRes.of re r k))
    (f : ∀ a m' ks' Hz' H' v, re = .ok a m' → Ext ks Hz H ks' Hz' H' → CR K ks' m' Hz' H' → R ks' Hz' H' v a → AftS K W ks0 Hz0 H0 Z D (k a m') → Q' v H') : Aft K R W ks Hz H σ Q' re := by
  cases re with
  | ok a m' => exact fun ks' Hz' H' v x c rv => f a m' ks' Hz' H' v rfl x c rv h
  | ex q x m' => exact fun ks' Hz' H' d xx c xr => h ks' Hz' H' d σ (b.up xx c) xr
  | bad => exact h
/-- a slot is set -/
theorem StB.set {i : Nat} {v : V} {x : MV} (b : StB K ks0 Hz0 H0 Z ks m Hz H r σ) (hi : i < r.length) (rv : VR K ks Hz v x) : StB K ks0 Hz0 H0 Z ks m Hz H (r.set i (.v x)) (σ.set i (some v)) := by
  refine ⟨b.x, b.z, b.c, erSet b.e hi rv, fun j xs p h1 h2 => ?_⟩
  by_cases q : i = j
  · subst q; rw [List.getElem?_set_self hi] at h1; cases h1
  · rw [List.getElem?_set_ne q] at h1 h2
    exact b.o j xs p h1 h2
/-- a list that nobody else holds -/
theorem StB.setO {i : Nat} {p : Addr} {vs : List V} {xs : List PyData} (b : StB K ks0 Hz0 H0 Z ks m Hz H r σ) (hi : i < r.length) (h1 : H p = some (.lst vs)) (h2 : RpAll K Hz vs xs) (h3 : Hz p = none) (h4 : p ∉ ks) (h5 : H0 p = none)
    (hd : ∀ (j : Nat) (ys : List PyData), r[j]? = some (.own ys) → j ≠ i → σ[j]? ≠ some (some (.ref p))) : StB K ks0 Hz0 H0 Z ks m Hz H (r.set i (.own xs)) (σ.set i (some (.ref p))) := by
  have hi' : i < σ.length := by rw [← b.e.len]; exact hi
  refine ⟨b.x, b.z, b.c, ⟨by simp [b.e.len], fun j s h => ?_, fun j k xs' ys' hjk e1 e2 => ?_⟩, fun j xs' q e1 e2 => ?_⟩
  · by_cases q : i = j
    · subst q
      rw [List.getElem?_set_self hi] at h
      cases h
      rw [List.getElem?_set_self hi']
      exact .own h1 h2 h3 h4
    · rw [List.getElem?_set_ne q] at h ⊢
      exact b.e.at_ j s h
  · by_cases q : i = j
    · subst q
      rw [List.getElem?_set_ne hjk] at e2 ⊢
      rw [List.getElem?_set_self hi']
      exact fun z => hd k ys' e2 (Ne.symm hjk) z.symm
    · rw [List.getElem?_set_ne q] at e1 ⊢
      by_cases q2 : i = k
      · subst q2
        rw [List.getElem?_set_self hi']
        exact hd j xs' e1 (Ne.symm q)
      · rw [List.getElem?_set_ne q2] at e2 ⊢
        exact b.e.ds j k xs' ys' hjk e1 e2
  · by_cases q2 : i = j
    · subst q2
      rw [List.getElem?_set_self hi'] at e2
      cases e2
      exact h5
    · rw [List.getElem?_set_ne q2] at e1 e2
      exact b.o j xs' q e1 e2
/-- such a list changes -/
theorem StB.mut {i : Nat} {p : Addr} {us : List V} {xs ys : List PyData} (b : StB K ks0 Hz0 H0 Z ks m Hz H r σ) (h1 : r[i]? = some (.own xs)) (h2 : σ[i]? = some (some (.ref p))) (h3 : RpAll K Hz us ys) : StB K ks0 Hz0 H0 Z ks m Hz (upd H p (.lst us)) (r.set i (.own ys)) σ := by
  have hi : i < r.length := (List.getElem?_eq_some_iff.mp h1).1
  have n0 := b.o i xs p h1 h2
  have z := b.e.at_ i _ h1
  rw [h2] at z
  cases z with
  | own q1 q2 q3 q4 =>
    refine ⟨⟨b.x.pre, b.x.zs, fun c o e n => ?_, b.x.nw, b.x.nz⟩, b.z, ⟨fun c o e => ?_, b.c.len, b.c.nd, fun k a zs e1 e2 => ?_⟩, ⟨by simp [b.e.len], fun j s h => ?_, fun j k xs' ys' hjk e1 e2 => ?_⟩, fun j xs' q e1 e2 => ?_⟩
    · rw [upd_ne (fun z => by rw [z, n0] at e; cases e)]
      exact b.x.fr c o e n
    · rw [upd_ne (fun z => by rw [z, q3] at e; cases e)]
      exact b.c.zh c o e
    · obtain ⟨w1, ws, w2, w3⟩ := b.c.at_ k a zs e1 e2
      exact ⟨w1, ws, by rw [upd_ne (fun z => q4 (by rw [← z]; exact List.mem_of_getElem? e1))]; exact w2, w3⟩
    · by_cases q : i = j
      · subst q
        rw [List.getElem?_set_self hi] at h
        cases h
        rw [h2]
        exact .own upd_same h3 q3 q4
      · rw [List.getElem?_set_ne q] at h
        have w := b.e.at_ j s h
        cases s with
        | un => exact .un _
        | v x =>
          generalize σ[j]? = o at w
          cases w with
          | v a => exact .v a
        | own zs =>
          have nd := b.e.ds i j xs zs q h1 h
          rw [h2] at nd
          generalize σ[j]? = o at w nd
          cases w with
          | own a1 a2 a3 a4 => exact .own (by rw [upd_ne (fun z => nd (by rw [z]))]; exact a1) a2 a3 a4
    · have fix : ∀ (j : Nat) (zs : List PyData), (r.set i (.own ys))[j]? = some (.own zs) → ∃ ws, r[j]? = some (.own ws) := fun j zs e => by
        by_cases q : i = j
        · subst q; exact ⟨xs, h1⟩
        · rw [List.getElem?_set_ne q] at e; exact ⟨zs, e⟩
      obtain ⟨w1, e1'⟩ := fix j xs' e1
      obtain ⟨w2, e2'⟩ := fix k ys' e2
      exact b.e.ds j k w1 w2 hjk e1' e2'
    · by_cases q2 : i = j
      · subst q2
        rw [h2] at e2
        cases e2
        exact n0
      · rw [List.getElem?_set_ne q2] at e1
        exact b.o j xs' q e1 e2
/-- such a list comes to stand still -/
theorem StB.frz {i : Nat} {xs : List PyData} (b : StB K ks0 Hz0 H0 Z ks m Hz H r σ) (h1 : r[i]? = some (.own xs)) : ∃ Hz', StB K ks0 Hz0 H0 Z ks m Hz' H (r.set i (.v (.d (.list xs)))) σ := by
  have hi : i < r.length := (List.getElem?_eq_some_iff.mp h1).1
  have z := b.e.at_ i _ h1
  generalize ho : σ[i]? = o at z
  cases z with
  | @own p vs _ q1 q2 q3 q4 =>
    have n0 := b.o i xs p h1 ho
    have sz : Same Hz (upd Hz p (.lst vs)) := fun c u e => by
      rw [upd_ne (fun z => by rw [z, q3] at e; cases e)]; exact e
    have up : ∀ {v : V} {x : MV}, VR K ks Hz v x → VR K ks (upd Hz p (.lst vs)) v x := fun h => by
      cases h with
      | d a => exact .d (dpUp sz _ _ a)
      | c a => exact .c a
      | t a b n => exact .t (sz _ _ a) (daUp sz _ _ b) n
      | s a => exact .s (sz.seq a)
    refine ⟨upd Hz p (.lst vs), ⟨b.x.pre, b.x.zs.trans sz, b.x.fr, b.x.nw, fun c u e => ?_⟩, b.z.trans sz, b.c.still q1 q4, ⟨by simp [b.e.len], fun j s h => ?_, fun j k xs' ys' hjk e1 e2 => ?_⟩, fun j xs' q e1 e2 => ?_⟩
    · by_cases w : c = p
      · subst w; exact .inr (.inl n0)
      · rw [upd_ne w] at e; exact b.x.nz c u e
    · by_cases q : i = j
      · subst q
        rw [List.getElem?_set_self hi] at h
        cases h
        rw [ho]
        exact .v (.d (.lst upd_same (daUp sz _ _ q2)))
      · rw [List.getElem?_set_ne q] at h
        have w := b.e.at_ j s h
        cases s with
        | un => exact .un _
        | v x =>
          generalize σ[j]? = o at w
          cases w with
          | v a => exact .v (up a)
        | own zs =>
          have nd := b.e.ds i j xs zs q h1 h
          rw [ho] at nd
          generalize σ[j]? = o at w nd
          cases w with
          | own a1 a2 a3 a4 => exact .own a1 (daUp sz _ _ a2) (by rw [upd_ne (fun z => nd (by rw [z]))]; exact a3) a4
    · by_cases q : i = j
      · subst q; rw [List.getElem?_set_self hi] at e1; cases e1
      · by_cases q2 : i = k
        · subst q2; rw [List.getElem?_set_self hi] at e2; cases e2
        · rw [List.getElem?_set_ne q] at e1
          rw [List.getElem?_set_ne q2] at e2
          exact b.e.ds j k xs' ys' hjk e1 e2
    · by_cases q2 : i = j
      · subst q2; rw [List.getElem?_set_self hi] at e1; cases e1
      · rw [List.getElem?_set_ne q2] at e1
        exact b.o j xs' q e1 e2
end
section
variable {K : PySem.W.Frag} {W : WX} {σ : L2.St} {H : Hp} {D : Ends} {ee ek : Ev MV}
theorem rdAsg {i : Nat} (h : tS K W (fun r m => .of (ee r m) r fun x m1 => if i < r.length then .nx (r.set i (.v x)) m1 else .bad) D σ H) : tAsg (tE K W ee) (gName i) D σ H := by
  obtain ⟨ks0, Hz0, H0, Z, ks, m, Hz, r, b, a⟩ := h
  refine ⟨ks, m, Hz, r, b.c, b.e, AftS.of b a fun x m1 ks1 Hz1 H1 v _ x1 c1 rv a1 => ?_⟩
  split at a1
  · rename_i hi
    exact a1 ks1 Hz1 H1 _ ((b.up x1 c1).set hi rv)
  · exact a1.elim
/-- a list that has just been made -/
theorem rdAsgO {i : Nat} {ef : Ev (List PyData)} (h : tS K W (fun r m => .of (ef r m) r fun xs m1 => if i < r.length then .nx (r.set i (.own xs)) m1 else .bad) D σ H) : tAsg (tF K W ef) (gName i) D σ H := by
  obtain ⟨ks0, Hz0, H0, Z, ks, m, Hz, r, b, a⟩ := h
  refine ⟨ks, m, Hz, r, b.c, b.e, ?_⟩
  refine AftS.of b a fun xs m1 ks1 Hz1 H1 v _ x1 c1 rv a1 => ?_
  obtain ⟨p, vs, rfl, h1, h2, h3, h4, h5⟩ := rv
  split at a1
  · rename_i hi
    have n0 : H0 p = none := by
      cases q : H0 p with
      | none => rfl
      | some o =>
        by_cases hk : p ∈ ks0
        · obtain ⟨t, e⟩ := (b.x.trans x1).pre
          exact absurd (by rw [e]; exact List.mem_append_left _ hk) h4
        · rw [b.x.fr _ _ q hk] at h5; cases h5
    refine a1 ks1 Hz1 H1 _ ((b.up x1 c1).setO hi h1 h2 h3 h4 n0 fun j ys e1 _ e2 => ?_)
    have z := b.e.at_ j _ e1
    rw [e2] at z
    cases z with
    | own w1 _ _ _ => rw [w1] at h5; cases h5
  · exact a1.elim
theorem StB.tgtP {H0 : Hp} (r : Env') (σ : L2.St) (i : Nat) (x : MV) (v : V) (hl : r.length = σ.length) (h : ∀ (i : Nat) (xs : List PyData) (p : Addr), r[i]? = some (Slot.own xs) → σ[i]? = some (some (V.ref p)) → H0 p = none) :
    ∀ (j : Nat) (xs : List PyData) (p : Addr), (r.set i (Slot.v x))[j]? = some (Slot.own xs) → (σ.set i (some v))[j]? = some (some (V.ref p)) → H0 p = none := fun j xs p h1 h2 => by
  by_cases q : i = j
  · subst q
    by_cases hi : i < r.length
    · rw [List.getElem?_set_self hi] at h1; cases h1
    · have : (r.set i (.v x))[i]? = none := by simp; omega
      rw [this] at h1; cases h1
  · rw [List.getElem?_set_ne q] at h1 h2
    exact h j xs p h1 h2
abbrev OwnP (H0 : Hp) (r : Env') (σ : L2.St) : Prop := r.length = σ.length ∧ ∀ (i : Nat) (xs : List PyData) (p : Addr), r[i]? = some (Slot.own xs) → σ[i]? = some (some (V.ref p)) → H0 p = none
theorem ownP_set {H0 : Hp} (r : Env') (σ : L2.St) (i : Nat) (x : MV) (v : V) (h : OwnP H0 r σ) : OwnP H0 (r.set i (.v x)) (σ.set i (some v)) :=
  ⟨by simp [h.1], StB.tgtP r σ i x v h.1 h.2⟩
theorem rdAsgT {ts : CTs} (h : tS K W (fun r m => .of (ee r m) r fun x m1 => (match x with
    | .d (.tuple xs) => (match tgts ts xs r with
      | some r1 => .nx r1 m1
      | none => .bad)
    | .d (.list xs) => (match tgts ts xs r with
      | some r1 => .nx r1 m1
      | none => .bad)
    | _ => .bad)) D σ H) : tAsg (tE K W ee) (gT K (.tp ts)) D σ H := by
  obtain ⟨ks0, Hz0, H0, Z, ks, m, Hz, r, b, a⟩ := h
  refine ⟨ks, m, Hz, r, b.c, b.e, AftS.of b a fun x m1 ks1 Hz1 H1 v _ x1 c1 rv a1 => ?_⟩
  cases x with
  | d x =>
    cases x with
    | tuple xs =>
      simp only at a1
      cases ht : tgts ts xs r with
      | none => rw [ht] at a1; exact a1.elim
      | some r1 =>
        rw [ht] at a1
        have b1 := b.up x1 c1
        exact rdT c1 (fun _ => true) (OwnP H0) (fun r σ i x v _ p => ownP_set r σ i x v p) (.tp ts) (.d (.tuple xs)) r r1 σ v _ (tIn_all _) (by simp only [tgt]; exact ht) rv b1.e ⟨b1.e.len, b1.o⟩ fun σ2 er2 pp => a1 ks1 Hz1 H1 σ2 ⟨b1.x, b1.z, c1, er2, pp.2⟩
    | list xs =>
      simp only at a1
      cases ht : tgts ts xs r with
      | none => rw [ht] at a1; exact a1.elim
      | some r1 =>
        rw [ht] at a1
        have b1 := b.up x1 c1
        exact rdT c1 (fun _ => true) (OwnP H0) (fun r σ i x v _ p => ownP_set r σ i x v p) (.tp ts) (.d (.list xs)) r r1 σ v _ (tIn_all _) (by simp only [tgt]; exact ht) rv b1.e ⟨b1.e.len, b1.o⟩ fun σ2 er2 pp => a1 ks1 Hz1 H1 σ2 ⟨b1.x, b1.z, c1, er2, pp.2⟩
    | _ => exact a1.elim
  | _ => exact a1.elim
theorem rdDrop (h : tS K W (fun r m => .of (ee r m) r fun _ m1 => .nx r m1) D σ H) : tDrop (tE K W ee) D σ H := by
  obtain ⟨ks0, Hz0, H0, Z, ks, m, Hz, r, b, a⟩ := h
  exact ⟨ks, m, Hz, r, b.c, b.e, AftS.of b a fun x m1 ks1 Hz1 H1 v _ x1 c1 rv a1 => a1 ks1 Hz1 H1 σ (b.up x1 c1)⟩
theorem rdRet (h : tS K W (fun r m => .of (ee r m) r fun x m1 => .rt x m1) D σ H) : tRet (tE K W ee) D σ H := by
  obtain ⟨ks0, Hz0, H0, Z, ks, m, Hz, r, b, a⟩ := h
  exact ⟨ks, m, Hz, r, b.c, b.e, AftS.of b a fun x m1 ks1 Hz1 H1 v _ x1 c1 rv a1 => a1 ks1 Hz1 H1 v (b.x.trans x1) (b.z.trans x1.zs) c1 rv⟩
theorem rdRetN (h : tS K W (fun _ m => .rt (.d .none) m) D σ H) : tRetN D σ H := by
  obtain ⟨ks0, Hz0, H0, Z, ks, m, Hz, r, b, a⟩ := h
  exact a ks Hz H .non b.x b.z b.c (.d .non)
theorem rdNext (h : tS K W (fun r m => .nx r m) D σ H) : tNext D σ H := by
  obtain ⟨ks0, Hz0, H0, Z, ks, m, Hz, r, b, a⟩ := h
  exact a ks Hz H σ b
theorem rdNever (h : tS K W (fun r m => .bad) D σ H) : tNever D σ H := by
  obtain ⟨ks0, Hz0, H0, Z, ks, m, Hz, r, b, a⟩ := h
  exact a
theorem rdSeq {e1 e2 : Env' → Mem → SRes} (h : tS K W (fun r m => match e1 r m with
    | .nx r1 m1 => e2 r1 m1
    | x => x) D σ H) : tSeq (tS K W e1) (tS K W e2) D σ H := by
  obtain ⟨ks0, Hz0, H0, Z, ks, m, Hz, r, b, a⟩ := h
  dsimp only at a
  refine ⟨ks0, Hz0, H0, Z, ks, m, Hz, r, b, ?_⟩
  cases q : e1 r m with
  | nx r1 m1 => rw [q] at a; exact fun ks1 Hz1 H1 σ1 b1 => ⟨ks0, Hz0, H0, Z, ks1, m1, Hz1, r1, b1, a⟩
  | rt x m1 => rw [q] at a; exact a
  | bk r1 m1 => rw [q] at a; exact a
  | ct r1 m1 => rw [q] at a; exact a
  | ex c x r1 m1 => rw [q] at a; exact a
  | bad => rw [q] at a; exact a
theorem rdFrz {i : Nat} {es : Env' → Mem → SRes} (h : tS K W (fun r m => match r[i]? with
    | some (.own xs) => es (r.set i (.v (.d (.list xs)))) m
    | _ => .bad) D σ H) : tS K W es D σ H := by
  obtain ⟨ks0, Hz0, H0, Z, ks, m, Hz, r, b, a⟩ := h
  dsimp only at a
  cases hr : r[i]? with
  | none => simp only [hr] at a; exact a.elim
  | some s =>
    cases s with
    | own xs =>
      simp only [hr] at a
      obtain ⟨Hz', b'⟩ := b.frz hr
      exact ⟨ks0, Hz0, H0, Z, ks, m, Hz', _, b', a⟩
    | _ => simp only [hr] at a; exact a.elim
theorem rdIfS {et : Ev MV} {e1 e2 : Env' → Mem → SRes} (h : tS K W (fun r m => .of (et r m) r fun x m1 => (match x with
    | .d (.bool true) => e1 r m1
    | .d (.bool false) => e2 r m1
    | _ => .bad)) D σ H) : tIfS (tB' K W (evT et)) (tS K W e1) (tS K W e2) D σ H := by
  obtain ⟨ks0, Hz0, H0, Z, ks, m, Hz, r, b, a⟩ := h
  dsimp only at a
  refine ⟨ks, m, Hz, r, b.c, b.e, ?_⟩
  unfold evT
  cases q : et r m with
  | bad => rw [q] at a; exact a.elim
  | ex c x m1 => rw [q] at a; exact fun ks1 Hz1 H1 d xx c1 xr => a ks1 Hz1 H1 d σ (b.up xx c1) xr
  | ok x m1 =>
    rw [q] at a
    cases x with
    | d x =>
      cases x with
      | bool k =>
        intro ks1 Hz1 H1 k' x1 c1 hk
        have hk' : k' = k := hk
        subst hk'
        cases k' with
        | true => exact iteT ⟨ks0, Hz0, H0, Z, ks1, m1, Hz1, r, b.up x1 c1, a⟩
        | false => exact iteF ⟨ks0, Hz0, H0, Z, ks1, m1, Hz1, r, b.up x1 c1, a⟩
      | _ => exact a.elim
    | _ => exact a.elim
theorem rdWhl {ec : Ev MV} {eb : Env' → Mem → SRes} {f : Nat} (h : tS K W (fun r m => whlS ec eb f r m) D σ H) : tWhile (tB' K W (evT ec)) (tS K W eb) D σ H := by
  refine ⟨fun n σ' H' => tS K W (fun r m => whlS ec eb n r m) D σ' H', ⟨f, h⟩, fun n σ1 H1 q => ?_⟩
  obtain ⟨ks0, Hz0, H0, Z, ks, m, Hz, r, b, a⟩ := q
  dsimp only at a
  cases n with
  | zero => exact a.elim
  | succ n =>
    simp only [whlS] at a
    refine ⟨ks, m, Hz, r, b.c, b.e, ?_⟩
    unfold evT
    cases q : ec r m with
    | bad => rw [q] at a; exact a.elim
    | ex c x m1 => rw [q] at a; exact fun ks1 Hz1 H1 d xx c1 xr => a ks1 Hz1 H1 d σ1 (b.up xx c1) xr
    | ok x m1 =>
      rw [q] at a
      cases x with
      | d x =>
        cases x with
        | bool k =>
          intro ks1 Hz1 H2 k' x1 c1 hk
          have hk' : k' = k := hk
          subst hk'
          have b1 := b.up x1 c1
          cases k' with
          | false =>
            rw [if_neg (by decide)]
            exact a ks1 Hz1 H2 σ1 b1
          | true =>
            rw [if_pos rfl]
            refine ⟨fun σ' H' => tS K W (fun r m => whlS ec eb n r m) D σ' H', fun σ' H' z => ⟨n, Nat.lt_succ_self n, z⟩, ks0, Hz0, H0, Z, ks1, m1, Hz1, r, b1, ?_⟩
            have a2 : AftS K W ks0 Hz0 H0 Z D (match eb r m1 with
              | .nx r1 m2 => whlS ec eb n r1 m2
              | .ct r1 m2 => whlS ec eb n r1 m2
              | .bk r1 m2 => .nx r1 m2
              | .rt v m2 => .rt v m2
              | .ex c x r1 m2 => .ex c x r1 m2
              | .bad => .bad) := a
            cases q2 : eb r m1 with
            | nx r3 m3 => rw [q2] at a2; exact fun k3 z3 h3 s3 b3 => ⟨ks0, Hz0, H0, Z, k3, m3, z3, r3, b3, a2⟩
            | ct r3 m3 => rw [q2] at a2; exact fun k3 z3 h3 s3 b3 => ⟨ks0, Hz0, H0, Z, k3, m3, z3, r3, b3, a2⟩
            | bk r3 m3 => rw [q2] at a2; exact a2
            | rt v m3 => rw [q2] at a2; exact a2
            | ex c x r3 m3 => rw [q2] at a2; exact a2
            | bad => rw [q2] at a2; exact a2.elim
        | _ => exact a.elim
      | _ => exact a.elim
def forB (t : CT) (eb : Env' → Mem → SRes) : MV → Env' → Mem → SRes := fun x r m => match tgt t x r with
  | some r1 => eb r1 m
  | none => .bad
theorem rdFor {ei : Ev (List MV)} {t : CT} {eb : Env' → Mem → SRes} (h : tS K W (fun r m => .of (ei r m) r fun xs m1 => forS (forB t eb) xs r m1) D σ H) : tFor (tI K W ei) (gT K t) (tS K W eb) D σ H := by
  obtain ⟨ks0, Hz0, H0, Z, ks, m, Hz, r, b, a⟩ := h
  refine ⟨ks, m, Hz, r, b.c, b.e, AftS.of b a fun xs m1 ks1 Hz1 H1 J _ x1 c1 w a1 => ?_⟩
  have b1 := b.up x1 c1
  have zz : Same Z Hz1 := b1.z
  let Wd : Nat → Nat → L2.St → Hp → Prop := fun i n σ' H' => n = xs.length - i ∧ i ≤ xs.length ∧ ∃ ks' m' Hz' r', StB K ks0 Hz0 H0 Hz1 ks' m' Hz' H' r' σ' ∧ AftS K W ks0 Hz0 H0 Z D (forS (forB t eb) (xs.drop i) r' m')
  refine ⟨Wd, ⟨xs.length, by simp, Nat.zero_le _, ks1, m1, Hz1, r, ⟨b1.x, Same.refl _, b1.c, b1.e, b1.o⟩, by simpa using a1⟩, ?_⟩
  rintro i n σ' H' ⟨hn, hle, ks', m', Hz', r', b', a'⟩
  have sH : Same Hz1 H' := b'.z.trans b'.c.zh
  have toZ : ∀ {k z h s r m}, StB K ks0 Hz0 H0 Hz1 k m z h r s → StB K ks0 Hz0 H0 Z k m z h r s := fun q => ⟨q.x, zz.trans q.z, q.c, q.e, q.o⟩
  by_cases hlt : i < xs.length
  · refine .inr ⟨w.go i H' hlt sH, fun s2 H2 => ∃ n', n' < n ∧ Wd (i + 1) n' s2 H2, fun s2 H2 z => z, fun x H2 y => ?_⟩
    have hx : xs[i]? = some xs[i] := List.getElem?_eq_getElem hlt
    obtain ⟨Hz2, x2, c2, rx⟩ := w.yld i H' x H2 ks' m' Hz' xs[i] b'.c b'.z y hx
    have b2 := b'.up x2 c2
    rw [List.drop_eq_getElem_cons hlt] at a'
    simp only [forS] at a'
    cases ht : tgt t xs[i] r' with
    | none =>
      have : forB t eb xs[i] r' m' = .bad := by simp only [forB, ht]
      rw [this] at a'
      exact a'.elim
    | some r1 =>
      have hf : forB t eb xs[i] r' m' = eb r1 m' := by simp only [forB, ht]
      rw [hf] at a'
      refine rdT c2 (fun _ => true) (OwnP H0) (fun r σ i x v _ p => ownP_set r σ i x v p) t xs[i] r' r1 σ' x _ (tIn_all _) ht rx b2.e ⟨b2.e.len, b2.o⟩ fun σ2 er2 pp => ?_
      refine ⟨ks0, Hz0, H0, Hz1, ks', m', Hz2, r1, ⟨b2.x, b2.z, c2, er2, pp.2⟩, ?_⟩
      cases q : eb r1 m' with
      | nx r3 m3 =>
        rw [q] at a'
        exact fun k3 z3 h3 s3 b3 => ⟨xs.length - (i + 1), by omega, rfl, hlt, k3, m3, z3, r3, b3, a'⟩
      | ct r3 m3 =>
        rw [q] at a'
        exact fun k3 z3 h3 s3 b3 => ⟨xs.length - (i + 1), by omega, rfl, hlt, k3, m3, z3, r3, b3, a'⟩
      | bk r3 m3 =>
        rw [q] at a'
        exact fun k3 z3 h3 s3 b3 => a' k3 z3 h3 s3 (toZ b3)
      | rt v m3 =>
        rw [q] at a'
        exact fun k3 z3 h3 v' x3 s3 c3 rv => a' k3 z3 h3 v' x3 (zz.trans s3) c3 rv
      | ex c x r3 m3 =>
        rw [q] at a'
        exact fun k3 z3 h3 d s3 b3 xr => a' k3 z3 h3 d s3 (toZ b3) xr
      | bad => rw [q] at a'; exact a'.elim
  · have hi2 : i = xs.length := by omega
    refine .inl ⟨w.stop i H' (by omega) sH, ?_⟩
    rw [hi2, List.drop_length] at a'
    simp only [forS] at a'
    exact a' ks' Hz' H' σ' (toZ b')
end
end Mp

set_option Elab.async false
set_option linter.all false
set_option maxRecDepth 100000
set_option maxHeartbeats 4000000
namespace Mp
open PySem PySem.Spec PyProof.Rows L2
/-! ### which stores go from the right -/
theorem bk_of {env : Env} (hk : env.scope.kind = .function) : env.blockKind = .function := by unfold Env.blockKind; rw [hk]; rfl
theorem sw2 {env : Env} {x y : Str} {a b : Expr} {px py pt : Pos} {kt k2 pt2} (hk : env.scope.kind = .function) (hx : env.scope.names.lookup x = some .local) (hy : env.scope.names.lookup y = some .local) (hxy : (y == x) = false) (hl : (py.line == px.line) = true)
  (ha : noStar a = true) (hb : noStar b = true) (h1 : (foldedForSure 8 a && foldedForSure 8 b) = false) (h2 : (constantsAlone 8 a && constantsAlone 8 b) = false) : swappedStores [.Tuple [.Name x px, .Name y py] kt pt] (.Tuple [a, b] k2 pt2) env = pure (some [x, y]) := by
  have hbk := bk_of hk
  have kx : env.kindOf x = some .local := hx
  have ky : env.kindOf y = some .local := hy
  have hl' : py.line = px.line := eq_of_beq hl
  have hxy' : y ≠ x := fun e => by rw [e] at hxy; simp at hxy
  simp only [Bool.and_eq_false_iff] at h1 h2
  unfold swappedStores
  simp [hbk, kx, ky, hl', hxy', Expr.pos, List.eraseDups_cons, List.filterMap_cons, List.filterMap_nil]
  rw [if_neg (by rintro (h | h); (cases a <;> simp_all [noStar]); (cases b <;> simp_all [noStar]))]
  rw [if_neg (by rcases h1 with h1 | h1 <;> simp [h1]), if_neg (by rcases h2 with h2 | h2 <;> simp [h2])]
theorem sw3 {env : Env} {x y z : Str} {a b c : Expr} {px py pz pt : Pos} {kt k2 pt2} (hk : env.scope.kind = .function) (hx : env.scope.names.lookup x = some .local) (hy : env.scope.names.lookup y = some .local) (hz : env.scope.names.lookup z = some .local) (hxy : (y == x) = false) (hxz : (z == x) = false) (hyz : (z == y) = false) (hl : (py.line == px.line) = true) (hl2 : (pz.line == px.line) = true)
  (ha : noStar a = true) (hb : noStar b = true) (hc : noStar c = true) (h1 : (foldedForSure 8 a && foldedForSure 8 b && foldedForSure 8 c) = false) (h2 : (constantsAlone 8 a && constantsAlone 8 b && constantsAlone 8 c) = false) : swappedStores [.Tuple [.Name x px, .Name y py, .Name z pz] kt pt] (.Tuple [a, b, c] k2 pt2) env = pure (some [x, y, z]) := by
  have hbk := bk_of hk
  have kx : env.kindOf x = some .local := hx
  have ky : env.kindOf y = some .local := hy
  have kz : env.kindOf z = some .local := hz
  have hl' : py.line = px.line := eq_of_beq hl
  have hl2' : pz.line = px.line := eq_of_beq hl2
  have hxy' : y ≠ x := fun e => by rw [e] at hxy; simp at hxy
  have hxz' : z ≠ x := fun e => by rw [e] at hxz; simp at hxz
  have hyz' : z ≠ y := fun e => by rw [e] at hyz; simp at hyz
  simp only [Bool.and_eq_false_iff] at h1 h2
  unfold swappedStores
  simp [hbk, kx, ky, kz, hl', hl2', hxy', hxz', hyz', Expr.pos, List.eraseDups_cons, List.filterMap_cons, List.filterMap_nil]
  rw [if_neg (by rintro (h | h | h); (cases a <;> simp_all [noStar]); (cases b <;> simp_all [noStar]); (cases c <;> simp_all [noStar]))]
  rw [if_neg (by rcases h1 with (h1 | h1) | h1 <;> simp [h1]), if_neg (by rcases h2 with (h2 | h2) | h2 <;> simp [h2])]
/-- how many targets are plain locals on one line -/
def swN (sc : Scope) (ts : List Expr) : Nat := (ts.filterMap fun
      | .Name id pos => if sc.names.lookup id == some .local && pos.line == (ts.head?.map (·.pos.line)).getD 0 then some id else none
      | _ => none).length
theorem sw0 {env : Env} {ts vs : List Expr} {kt k2 pt pt2} (h : swN env.scope ts ≠ ts.length) : swappedStores [.Tuple ts kt pt] (.Tuple vs k2 pt2) env = pure none := by
  unfold swappedStores
  simp only []
  split
  · rfl
  · split
    · rfl
    · rw [if_pos]
      exact (Bool.or_eq_true _ _).mpr (.inl (bne_iff_ne.mpr h))
theorem swK {env : Env} {ts vs : List Expr} {kt k2 pt pt2} (h : vs.all (foldedForSure 8) = true) : swappedStores [.Tuple ts kt pt] (.Tuple vs k2 pt2) env = pure none := by
  unfold swappedStores
  simp only []
  split
  · rfl
  · split
    · rfl
    · split
      · rfl
      · first | rfl | rw [if_pos h]

/-! ### stores into lists -/
section
variable {K : PySem.W.Frag} {W : WX} {σ : L2.St} {H : Hp} {D : Ends} {ee ek : Ev MV}
theorem rdSetC {i : Nat} (h : tS K W (fun r m => .of (ee r m) r fun x m1 => (match x, r[i]? with
    | .d x, some (.v (.c a)) => .of (ek r m1) r fun j m2 => (match j, m2[a]? with
      | .d (.int j), some xs => (match ixN xs.length j with
        | some q => .nx r (m2.set a (xs.set q x))
        | none => .bad)
      | _, _ => .bad)
    | _, _ => .bad)) D σ H) : tAsg (tE K W ee) (gSub (tVar i) (tE K W ek) rSetL) D σ H := by
  obtain ⟨ks0, Hz0, H0, Z, ks, m, Hz, r, b, a⟩ := h
  refine ⟨ks, m, Hz, r, b.c, b.e, AftS.of b a fun x m1 ks1 Hz1 H1 v _ x1 c1 rv a1 => ?_⟩
  have b1 := b.up x1 c1
  cases x with
  | d x =>
    cases hr : r[i]? with
    | none => simp only [hr] at a1; exact a1.elim
    | some s =>
      cases s with
      | v y =>
        cases y with
        | c k =>
          simp only [hr] at a1
          have z := b1.e.at_ i _ hr
          generalize ho : σ[i]? = o at z
          cases z with
          | v rk =>
            refine ⟨_, ho, ks1, m1, Hz1, r, c1, b1.e, AftS.of b1 a1 fun j m2 ks2 Hz2 H2 w _ x2 c2 rw' a2 => ?_⟩
            have b2 := b1.up x2 c2
            have rk2 := rk.up x2
            cases j with
            | d j =>
              cases j with
              | int j =>
                cases hm : m2[k]? with
                | none => simp only [hm] at a2; exact a2.elim
                | some xs =>
                  simp only [hm] at a2
                  cases hq : ixN xs.length j with
                  | none => simp only [hq] at a2; exact a2.elim
                  | some q =>
                    simp only [hq] at a2
                    cases rk2 with
                    | @c p _ hk =>
                      obtain ⟨n0, vs, h1, h2⟩ := c2.at_ k p xs hk hm
                      refine ⟨p, vs, j, q, rfl, dpInt rw'.rp, h1, by rw [daLen h2]; exact hq, ?_⟩
                      have hp : p ∈ ks2 := List.mem_of_getElem? hk
                      have xp : Ext ks2 Hz2 H2 ks2 Hz2 (upd H2 p (.lst (vs.set q v))) := Ext.put hp _
                      exact a2 ks2 Hz2 _ σ (b2.up xp (c2.put hk hm (daSet q h2 (rv.up x2).rp)))
              | _ => exact a2.elim
            | _ => exact a2.elim
        | _ => simp only [hr] at a1; exact a1.elim
      | _ => simp only [hr] at a1; exact a1.elim
  | _ => exact a1.elim
theorem rdSetO {i : Nat} (h : tS K W (fun r m => .of (ee r m) r fun x m1 => (match x, r[i]? with
    | .d x, some (.own xs) => .of (ek r m1) r fun j m2 => (match j with
      | .d (.int j) => (match ixN xs.length j with
        | some q => .nx (r.set i (.own (xs.set q x))) m2
        | none => .bad)
      | _ => .bad)
    | _, _ => .bad)) D σ H) : tAsg (tE K W ee) (gSub (tVar i) (tE K W ek) rSetL) D σ H := by
  obtain ⟨ks0, Hz0, H0, Z, ks, m, Hz, r, b, a⟩ := h
  refine ⟨ks, m, Hz, r, b.c, b.e, AftS.of b a fun x m1 ks1 Hz1 H1 v _ x1 c1 rv a1 => ?_⟩
  have b1 := b.up x1 c1
  cases x with
  | d x =>
    cases hr : r[i]? with
    | none => simp only [hr] at a1; exact a1.elim
    | some s =>
      cases s with
      | own xs =>
        simp only [hr] at a1
        have z := b1.e.at_ i _ hr
        generalize ho : σ[i]? = o at z
        cases z with
        | @own p vs _ q1 q2 q3 q4 =>
          refine ⟨_, ho, ks1, m1, Hz1, r, c1, b1.e, AftS.of b1 a1 fun j m2 ks2 Hz2 H2 w _ x2 c2 rw' a2 => ?_⟩
          have b2 := b1.up x2 c2
          cases j with
          | d j =>
            cases j with
            | int j =>
              cases hq : ixN xs.length j with
              | none => simp only [hq] at a2; exact a2.elim
              | some q =>
                simp only [hq] at a2
                have h1 : H2 p = some (.lst vs) := x2.fr _ _ q1 q4
                refine ⟨p, vs, j, q, rfl, dpInt rw'.rp, h1, by rw [daLen q2]; exact hq, ?_⟩
                exact a2 ks2 Hz2 _ σ (b2.mut hr ho (daSet q (daUp x2.zs _ _ q2) (rv.up x2).rp))
            | _ => exact a2.elim
          | _ => exact a2.elim
      | _ => simp only [hr] at a1; exact a1.elim
  | _ => exact a1.elim
theorem rdApp {i : Nat} (h : tS K W (fun r m => match r[i]? with
    | some (.own xs) => .of (ee r m) r fun x m1 => (match x with
      | .d x => if xs.length < sizeLine then .nx (r.set i (.own (xs ++ [x]))) m1 else .bad
      | _ => .bad)
    | _ => .bad) D σ H) : tDrop (tBM K "list" rAppend (tVar i) (tCons (tE K W ee) tNil)) D σ H := by
  obtain ⟨ks0, Hz0, H0, Z, ks, m, Hz, r, b, a⟩ := h
  cases hr : r[i]? with
  | none => simp only [hr] at a; exact a.elim
  | some s =>
    cases s with
    | own xs =>
      simp only [hr] at a
      have z := b.e.at_ i _ hr
      generalize ho : σ[i]? = o at z
      cases z with
      | @own p vs _ q1 q2 q3 q4 =>
        refine ⟨_, ho, .inl ⟨rfl, vs, SqL.of q1⟩, ks, m, Hz, r, b.c, b.e, AftS.of b a fun x m1 ks1 Hz1 H1 v _ x1 c1 rv a1 => ?_⟩
        cases x with
        | d x =>
          simp only at a1
          split at a1
          · rename_i hl
            exact ⟨p, vs, v, rfl, rfl, x1.fr _ _ q1 q4, by rw [daLen q2]; exact hl, a1 ks1 Hz1 _ σ ((b.up x1 c1).mut hr ho (daApp (daUp x1.zs _ _ q2) (.cons rv.rp .nil)))⟩
          · exact a1.elim
        | _ => exact a1.elim
    | _ => simp only [hr] at a; exact a.elim
theorem rdExt {i : Nat} (h : tS K W (fun r m => match r[i]? with
    | some (.own xs) => .of (ee r m) r fun x m1 => (match x with
      | .d (.list ys) => if xs.length + ys.length ≤ sizeLine then .nx (r.set i (.own (xs ++ ys))) m1 else .bad
      | _ => .bad)
    | _ => .bad) D σ H) : tDrop (tBM K "list" rExtend (tVar i) (tCons (tE K W ee) tNil)) D σ H := by
  obtain ⟨ks0, Hz0, H0, Z, ks, m, Hz, r, b, a⟩ := h
  cases hr : r[i]? with
  | none => simp only [hr] at a; exact a.elim
  | some s =>
    cases s with
    | own xs =>
      simp only [hr] at a
      have z := b.e.at_ i _ hr
      generalize ho : σ[i]? = o at z
      cases z with
      | @own p vs _ q1 q2 q3 q4 =>
        refine ⟨_, ho, .inl ⟨rfl, vs, SqL.of q1⟩, ks, m, Hz, r, b.c, b.e, AftS.of b a fun x m1 ks1 Hz1 H1 v _ x1 c1 rv a1 => ?_⟩
        cases x with
        | d x =>
          cases x with
          | list ys =>
            simp only at a1
            split at a1
            · rename_i hl
              obtain ⟨p2, ws, rfl, w1, w2⟩ := dpLst rv.rp
              exact ⟨p, p2, vs, ws, rfl, rfl, x1.fr _ _ q1 q4, c1.zh _ _ w1, by rw [daLen q2, daLen w2]; exact hl, a1 ks1 Hz1 _ σ ((b.up x1 c1).mut hr ho (daApp (daUp x1.zs _ _ q2) w2))⟩
            · exact a1.elim
          | _ => exact a1.elim
        | _ => exact a1.elim
    | _ => simp only [hr] at a; exact a.elim
end

/-! ### lists that have just been made -/
section
variable {K : PySem.W.Frag} {W : WX} {σ : L2.St} {H : Hp} {ea eb : Ev MV}
/-- a fresh list is handed over -/
theorem aftFresh {ks : List Addr} {m : Mem} {Hz : Hp} {xs : List PyData} {vs : List V} {p : Addr} {ks0 : List Addr} {H0 : Hp} (c : CR K ks m Hz H) (n : H p = none) (n0 : H0 p = none) (d : RpAll K Hz vs xs) :
    RF K ks0 H0 ks Hz (upd H p (.lst vs)) (.ref p) xs := ⟨p, vs, rfl, upd_same, d, c.znone n, c.nin n, n0⟩
theorem extNone {ks ks1 : List Addr} {Hz Hz1 H1 : Hp} {p : Addr} {m1 : Mem} (x : Ext ks Hz H ks1 Hz1 H1) (c1 : CR K ks1 m1 Hz1 H1) (n : H1 p = none) : H p = none := by
  cases q : H p with
  | none => rfl
  | some o =>
    by_cases hk : p ∈ ks
    · obtain ⟨t, e⟩ := x.pre
      exact absurd n (c1.tr (by rw [e]; exact List.mem_append_left _ hk))
    · rw [x.fr _ _ q hk] at n; cases n
theorem rdLstF {ev : Ev (List PyData)} {Q : VK} (h : tF K W (fun r m => ((ev r m).bind fun xs m1 => if xs.length ≤ sizeLine then .ok (.d (.list xs)) m1 else .bad).bind ownOf) σ H Q) : tLst (tL K W ev) σ H Q := by
  obtain ⟨ks0, m0, Hz0, r, c0, e0, a0⟩ := h
  unfold AftF at a0
  dsimp only at a0
  rw [Res.bind_assoc] at a0
  refine ⟨ks0, m0, Hz0, r, c0, e0, Aft.bind a0 fun xs m ks Hz H' vs _ x0 c rv a => ?_⟩
  by_cases hl : xs.length ≤ sizeLine
  · rw [if_pos hl] at a
    refine ⟨by rw [daLen rv]; exact hl, fun p n => ?_⟩
    exact a ks Hz _ _ (Ext.fresh n _) (c.fresh n _) (aftFresh c n (extNone x0 c n) rv)
  · rw [if_neg hl] at a; exact a.elim
theorem rdListF {Q : VK} (h : tF K W (fun r m => ((ea r m).bind fun x m1 => (match x with
    | .d x => optD (b1D .lst x) m1
    | _ => .bad)).bind ownOf) σ H Q) : tCB (fun xs H Q => ∃ p ys, xs = [.ref p] ∧ (SqL K H p ys ∨ SqT K H p ys) ∧ ∀ l, H l = none → Q (.ref l) (upd H l (.lst ys))) (tCons (tE K W ea) tNil) σ H Q := by
  obtain ⟨ks0, m0, Hz0, r, c0, e0, a0⟩ := h
  unfold AftF at a0
  dsimp only at a0
  rw [Res.bind_assoc] at a0
  refine ⟨ks0, m0, Hz0, r, c0, e0, Aft.bind a0 fun x m ks Hz H' v _ x0 c rv a => ?_⟩
  cases x with
  | d x =>
    cases x with
    | list xs =>
      obtain ⟨p, vs, rfl, h1, h2⟩ := dpLst rv.rp
      exact ⟨p, vs, rfl, .inl (SqL.of (c.zh _ _ h1)), fun l n => a ks Hz _ _ (Ext.fresh n _) (c.fresh n _) (aftFresh c n (extNone x0 c n) h2)⟩
    | tuple xs =>
      obtain ⟨p, vs, rfl, h1, h2⟩ := dpTup rv.rp
      exact ⟨p, vs, rfl, .inr (c.sqT h1), fun l n => a ks Hz _ _ (Ext.fresh n _) (c.fresh n _) (aftFresh c n (extNone x0 c n) h2)⟩
    | _ => exact a.elim
  | _ => exact a.elim
theorem rdRepF {Q : VK} (h : tF K W (fun r m => ((ea r m).bind fun x m1 => (eb r m1).bind fun y m2 => (match x, y with
    | .d x, .d y => optD (binD .mul x y) m2
    | _, _ => .bad)).bind ownOf) σ H Q) : tOp rRep (tE K W ea) (tE K W eb) σ H Q := by
  obtain ⟨ks0, m0, Hz0, r, c0, e0, a0⟩ := h
  unfold AftF at a0
  dsimp only at a0
  rw [Res.bind_assoc] at a0
  refine ⟨ks0, m0, Hz0, r, c0, e0, Aft.bind a0 fun x m ks Hz H' v _ x0 c rv a => ?_⟩
  rw [Res.bind_assoc] at a
  refine ⟨ks, m, Hz, r, c, e0.up x0, Aft.bind a fun y m2 ks2 Hz2 H2 u _ x2 c2 ru a2 => ?_⟩
  cases x with
  | d x =>
    cases y with
    | d y =>
      cases x with
      | list xs =>
        cases y with
        | int k =>
          simp only [binD] at a2
          split at a2
          · rename_i hk
            obtain ⟨p, vs, rfl, h1, h2⟩ := dpLst rv.rp
            refine ⟨p, k, vs, rfl, dpInt ru.rp, c2.zh _ _ (x2.zs _ _ h1), hk.1, hk.2.1, by rw [daLen h2]; exact hk.2.2, fun l n => ?_⟩
            exact a2 ks2 Hz2 _ _ (Ext.fresh n _) (c2.fresh n _) (aftFresh c2 n (extNone (x0.trans x2) c2 n) (daFlat (daUp x2.zs _ _ h2) k.toNat))
          · exact a2.elim
        | _ => exact a2.elim
      | int i =>
        cases y with
        | int j =>
          simp only [binD] at a2
          split at a2 <;> exact a2.elim
        | _ => exact a2.elim
      | tuple xs =>
        cases y with
        | int j =>
          simp only [binD] at a2
          split at a2 <;> exact a2.elim
        | _ => exact a2.elim
      | _ => exact a2.elim
    | _ => exact a2.elim
  | _ => exact a2.elim
theorem rdSlcF {eo ep : Ev (Option Int)} {Q : VK} (h : tF K W (fun r m => ((ea r m).bind fun x m1 => (eo r m1).bind fun l m2 => (ep r m2).bind fun h m3 => (match x with
    | .d x => optD (slcD x l h) m3
    | .s ns => optD (slcD (.list (ns.map .int)) l h) m3
    | _ => .bad)).bind ownOf) σ H Q) : tSl (rSlL K) (tE K W ea) (tOo K W eo) (tOo K W ep) σ H Q := by
  obtain ⟨ks, m, Hz, r, c, e, a⟩ := h
  unfold AftF at a
  dsimp only at a
  rw [Res.bind_assoc] at a
  refine ⟨ks, m, Hz, r, c, e, Aft.bind a fun x m1 ks1 Hz1 H1 v _ x1 c1 rv a1 => ?_⟩
  rw [Res.bind_assoc] at a1
  refine ⟨ks1, m1, Hz1, r, c1, e.up x1, Aft.bind a1 fun l m2 ks2 Hz2 H2 l' _ x2 c2 rl a2 => ?_⟩
  rw [Res.bind_assoc] at a2
  refine ⟨ks2, m2, Hz2, r, c2, (e.up x1).up x2, Aft.bind a2 fun h m3 ks3 Hz3 H3 h' _ x3 c3 rh a3 => ?_⟩
  subst rl rh
  cases x with
  | d x =>
    cases x with
    | list xs =>
      obtain ⟨p, vs, rfl, h1, hd⟩ := ((dpLst rv.rp))
      exact ⟨p, vs, rfl, SqL.of (c3.zh _ _ (x3.zs _ _ (x2.zs _ _ h1))), fun q n => a3 ks3 Hz3 _ _ (Ext.fresh n _) (c3.fresh n _) (aftFresh c3 n (extNone ((x1.trans x2).trans x3) c3 n) (daCut (daUp x3.zs _ _ (daUp x2.zs _ _ hd)) l' h'))⟩
    | tuple xs => exact a3.elim
    | _ => exact a3.elim
  | s ns =>
    cases rv with
    | s h1 =>
      exact ⟨_, _, rfl, c3.zh.seq (x3.zs.seq (x2.zs.seq h1)), fun q n => a3 ks3 Hz3 _ _ (Ext.fresh n _) (c3.fresh n _) (aftFresh c3 n (extNone ((x1.trans x2).trans x3) c3 n) (daCut (daInts ns) l' h'))⟩
  | _ => exact a3.elim
theorem rdCatF {Q : VK} (h : tF K W (fun r m => ((ea r m).bind fun x m1 => (eb r m1).bind fun y m2 => (match x, y with
    | .d x, .d y => optD (binD .add x y) m2
    | _, _ => .bad)).bind ownOf) σ H Q) : tOp rCat (tE K W ea) (tE K W eb) σ H Q := by
  obtain ⟨ks0, m0, Hz0, r, c0, e0, a0⟩ := h
  unfold AftF at a0
  dsimp only at a0
  rw [Res.bind_assoc] at a0
  refine ⟨ks0, m0, Hz0, r, c0, e0, Aft.bind a0 fun x m ks Hz H' v _ x0 c rv a => ?_⟩
  rw [Res.bind_assoc] at a
  refine ⟨ks, m, Hz, r, c, e0.up x0, Aft.bind a fun y m2 ks2 Hz2 H2 u _ x2 c2 ru a2 => ?_⟩
  cases x with
  | d x =>
    cases y with
    | d y =>
      cases x with
      | list xs =>
        cases y with
        | list ys =>
          simp only [binD] at a2
          split at a2
          · rename_i hk
            obtain ⟨p, vs, rfl, h1, h2⟩ := dpLst rv.rp
            obtain ⟨q, ws, rfl, h3, h4⟩ := dpLst ru.rp
            exact ⟨p, q, vs, ws, rfl, rfl, c2.zh _ _ (x2.zs _ _ h1), c2.zh _ _ h3, by rw [daLen h2, daLen h4]; exact hk, fun l n => a2 ks2 Hz2 _ _ (Ext.fresh n _) (c2.fresh n _) (aftFresh c2 n (extNone (x0.trans x2) c2 n) (daApp (daUp x2.zs _ _ h2) h4))⟩
          · exact a2.elim
        | _ => exact a2.elim
      | int i =>
        cases y with
        | int j => exact a2.elim
        | _ => exact a2.elim
      | tuple xs =>
        cases y with
        | tuple ys =>
          simp only [binD] at a2
          split at a2 <;> exact a2.elim
        | _ => exact a2.elim
      | _ => exact a2.elim
    | _ => exact a2.elim
  | _ => exact a2.elim
/-- one fresh list or another -/
theorem rdOrF {Q : VK} (h : tF K W (fun r m => ((ea r m).bind fun x m1 => (match x with
    | .d (.list []) => eb r m1
    | .d (.list (x :: xs)) => .ok (.d (.list (x :: xs))) m1
    | _ => .bad)).bind ownOf) σ H Q) : tOrT K (tF K W fun r m => (ea r m).bind ownOf) (tF K W fun r m => (eb r m).bind ownOf) σ H Q := by
  obtain ⟨ks0, m0, Hz0, r, c0, e0, a0⟩ := h
  unfold AftF at a0
  dsimp only at a0
  rw [Res.bind_assoc] at a0
  refine ⟨ks0, m0, Hz0, r, c0, e0, ?_⟩
  unfold AftF
  dsimp only
  cases hx : ea r m0 with
  | bad => rw [hx] at a0; exact a0.elim
  | ex c x m1 => rw [hx] at a0; exact a0
  | ok x m1 =>
    rw [hx] at a0
    simp only [Res.bind_ok] at a0 ⊢
    cases x with
    | d x =>
      cases x with
      | list xs =>
        intro ks1 Hz1 H1 b x1 c1 rf
        obtain ⟨p, vs, rfl, h1, h2, h3, h4, h5⟩ := rf
        cases xs with
        | nil =>
          cases h2
          refine ⟨false, .inl ⟨[], SqL.of h1, rfl⟩, iteF ⟨ks1, m1, Hz1, r, c1, e0.up x1, ?_⟩⟩
          unfold AftF
          dsimp only at a0 ⊢
          generalize (eb r m1).bind ownOf = z at a0
          cases z with
          | ok ys m2 =>
            intro ks2 Hz2 H2 b x2 c2 rf
            obtain ⟨q, us, rfl, q1, q2, q3, q4, q5⟩ := rf
            exact a0 ks2 Hz2 H2 _ (x1.trans x2) c2 ⟨q, us, rfl, q1, q2, q3, q4, extNone x1 c1 q5⟩
          | ex c x m2 => exact fun ks2 Hz2 H2 d x2 c2 xr => a0 ks2 Hz2 H2 d (x1.trans x2) c2 xr
          | bad => exact a0
        | cons y ys =>
          have h2' := h2
          cases h2 with
          | cons d1 d2 => exact ⟨true, .inl ⟨_, SqL.of h1, rfl⟩, iteT (a0 ks1 Hz1 H1 _ x1 c1 ⟨p, _, rfl, h1, h2', h3, h4, h5⟩)⟩
      | _ => exact a0.elim
    | _ => exact a0.elim
end
section
variable {K : PySem.W.Frag} {W : WX} {σ : L2.St} {H : Hp} {D : Ends} {ee ek : Ev MV}
/-- out.append(rest.pop(e)) -/
theorem rdAppPop {i j : Nat} (h : tS K W (fun r m => match r[i]?, r[j]? with
    | some (.own xs), some (.own ys) => .of (ee r m) r fun x m1 => (match x with
      | .d (.int k) => if 0 ≤ k ∧ k < 2 ^ 62 ∧ i ≠ j ∧ xs.length < sizeLine then (match ys[k.toNat]? with
        | some y => .nx ((r.set j (.own (ys.eraseIdx k.toNat))).set i (.own (xs ++ [y]))) m1
        | none => .bad) else .bad
      | _ => .bad)
    | _, _ => .bad) D σ H) : tDrop (tBM K "list" rAppend (tVar i) (tCons (tBM K "list" rPopAt (tVar j) (tCons (tE K W ee) tNil)) tNil)) D σ H := by
  obtain ⟨ks0, Hz0, H0, Z, ks, m, Hz, r, b, a⟩ := h
  dsimp only at a
  cases hr : r[i]? with
  | none => simp only [hr] at a; exact a.elim
  | some s =>
    cases s with
    | own xs =>
      cases hs : r[j]? with
      | none => simp only [hr, hs] at a; exact a.elim
      | some s2 =>
        cases s2 with
        | own ys =>
          simp only [hr, hs] at a
          have z := b.e.at_ i _ hr
          have z2 := b.e.at_ j _ hs
          have nd := b.e.ds i j xs ys
          generalize ho : σ[i]? = o at z nd
          generalize ho2 : σ[j]? = o2 at z2 nd
          cases z with
          | @own p vs _ q1 q2 q3 q4 =>
            cases z2 with
            | @own p2 ws _ w1 w2 w3 w4 =>
              refine ⟨_, ho, .inl ⟨rfl, vs, SqL.of q1⟩, _, ho2, .inl ⟨rfl, ws, SqL.of w1⟩, ks, m, Hz, r, b.c, b.e, AftS.of b a fun x m1 ks1 Hz1 H1 v _ x1 c1 rv a1 => ?_⟩
              cases x with
              | d x =>
                cases x with
                | int k =>
                  simp only at a1
                  split at a1
                  · rename_i hk
                    obtain ⟨k1, k2, k3, k4⟩ := hk
                    cases hy : ys[k.toNat]? with
                    | none => simp only [hy] at a1; exact a1.elim
                    | some y =>
                      simp only [hy] at a1
                      have b1 := b.up x1 c1
                      obtain ⟨yv, y1, y2⟩ := daGetD (daUp x1.zs _ _ w2) hy
                      have hlen : k.toNat < ws.length := (List.getElem?_eq_some_iff.mp y1).1
                      have hb2 := b1.mut hs ho2 (daErase k.toNat (daUp x1.zs _ _ w2))
                      have hi2 : (r.set j (.own (ys.eraseIdx k.toNat)))[i]? = some (.own xs) := by rw [List.getElem?_set_ne (Ne.symm k3)]; exact hr
                      have hb3 := hb2.mut hi2 ho (daApp (daUp x1.zs _ _ q2) (.cons y2 .nil))
                      refine ⟨p2, ws, k, k.toNat, yv, rfl, by rw [dpInt rv.rp], x1.fr _ _ w1 w4, by omega, by omega, seqIndex_of k1 (by omega), y1, ?_⟩
                      have ne : p ≠ p2 := fun e => nd k3 hr hs (by rw [e])
                      refine ⟨p, vs, yv, rfl, rfl, ?_, by rw [daLen q2]; exact k4, a1 ks1 Hz1 _ σ hb3⟩
                      rw [upd_ne ne]
                      exact x1.fr _ _ q1 q4
                  · exact a1.elim
                | _ => exact a1.elim
              | _ => exact a1.elim
        | _ => simp only [hr, hs] at a; exact a.elim
    | _ => simp only [hr] at a; exact a.elim
end
end Mp

set_option Elab.async false
set_option linter.all false
set_option maxRecDepth 100000
set_option maxHeartbeats 4000000
namespace Mp
open PySem PySem.Spec PyProof.Rows L2
/-! ### raise X(), try .. except X as n: one statement -/
theorem pmk_none {X : Cx} {x : Str} {xs : List Str} {p pos : Pos} (f : ExK xs X.K X.mg x) (hg : Gl X x) (hdb : (x == ("__debug__" : Str)) = false) :
    PMk X (.Call (.Name x p) [] [] pos) (fun _ H Q => Q (.ref (He.ga X.K x)) none H) := by
  intro pins s σ H Q I h
  refine wpAny_Call_Name_kw (ld_glob I hg f.g ?_ hdb)
  refine PySem.W.callWith_K0 I.kIn f.k ?_
  obtain ⟨bm, N, nm, qn, bs, hdct, sn, sub, ab, col, dd, k0, k1, k2, k3, k5, mN, hC, hN, hni, T⟩ := exc_obj I.kIn f.e
  exact wpAny_call_exc_subT PySem.F.excBase_ValueError T hC hN hni (fun h' e hm => mk_of I hm (raises_own f.b f.t) h (I.hok.gone hm.new)) (Nat.zero_le _)
def heV : HE → V
  | .str x => .str x
  | .isv => .bl true
def chkH (sc : Scope) (n : Str) : List HE → List Expr → Bool
  | [], [] => true
  | .str x :: hs, .Constant (.str y) _ _ :: es => x == y && chkH sc n hs es
  | .isv :: hs, .Call (.Name f _) [.Name m _, .Name t _] [] _ :: es => f == ("isinstance" : Str) && glB sc f && m == n && t == ("ValueError" : Str) && glB sc t && chkH sc n hs es
  | _, _ => false
def tHs (K : PySem.W.Frag) (D a : Addr) (i : Nat) : List HE → TA
  | [] => tNil
  | .str x :: hs => tCons (tC (.str x)) (tHs K D a i hs)
  | .isv :: hs => tCons (tCB (rIsE K D a) (tCons (tVar i) (tCons (tC (.ty "ValueError")) tNil))) (tHs K D a i hs)
section
variable {X : Cx} {a D : Addr} {oe : Obj} {pn : List (Addr × Obj)} {i : Nat} {n : Str}
theorem paH (C : ExcC X.K D) (hz : Zc (.ref D) none oe) (hf : ∃ vs, oe.data = .fields vs) (hi : X.N[i]? = some n) (hv : visB X.env.scope n = true) (hn : okName n = true) (fi : X.mg "isinstance" = none) (fv : X.mg "ValueError" = none) :
    ∀ (hs : List HE) (es : List Expr), chkH X.env.scope n hs es = true → PA (X.suite a ((a, oe) :: pn)) es (tHs X.K D a i hs)
  | [], [], _ => pa_nil
  | [], _ :: _, h => by simp [chkH] at h
  | .str x :: hs, [], h => by simp [chkH] at h
  | .isv :: hs, [], h => by simp [chkH] at h
  | .str x :: hs, e :: es, h => by
    cases e <;> try (simp [chkH] at h; done)
    rename_i c k p
    cases c <;> try (simp [chkH] at h; done)
    simp only [chkH, Bool.and_eq_true, beq_iff_eq] at h
    obtain ⟨h1, h2⟩ := h
    subst h1
    exact pa_cons pe_str (paH C hz hf hi hv hn fi fv hs es h2) rfl
  | .isv :: hs, e :: es, h => by
    obtain ⟨f, p1, m, p2, t, p3, p4, rfl, hh⟩ : ∃ f p1 m p2 t p3 p4, e = .Call (.Name f p1) [.Name m p2, .Name t p3] [] p4 ∧ (f == ("isinstance" : Str) && glB X.env.scope f && m == n && t == ("ValueError" : Str) && glB X.env.scope t && chkH X.env.scope n hs es) = true := by
      unfold chkH at h
      split at h
      · rename_i q _; cases q
      · rename_i q _; cases q
      · rename_i q1 q2
        cases q1
        cases q2
        exact ⟨_, _, _, _, _, _, _, rfl, h⟩
      · cases h
    simp only [Bool.and_eq_true, beq_iff_eq] at hh
    obtain ⟨⟨⟨⟨⟨h1, h2⟩, h3⟩, h4⟩, h5⟩, h6⟩ := hh
    have h3 := h3.symm
    subst h1 h3 h4
    have pt : PE (X.suite a ((a, oe) :: pn)) (.Name "ValueError" p3) (tC (.ty "ValueError")) := pe_bltn (gl_of h5) fv (by decide +kernel) rfl (by decide) (by decide)
    exact pa_cons (pe_callB (call_isE C hz hf) (gl_of h2) fi (by decide +kernel) (pa_cons (pe_var hi (vis_of hv) (okN hn).1 (okN hn).2.1) (pa_cons pt pa_nil rfl) rfl) (by decide) (by decide) rfl rfl) (paH C hz hf hi hv hn fi fv hs es h6) rfl
end
theorem rdH {K : PySem.W.Frag} {D a : Addr} {i : Nat} {σ : L2.St} {H : Hp} (ha : σ[i]? = some (some (.ref a))) (hk : PySem.W.kitOne K (.ref D) (.type "ValueError") = some true) :
    ∀ (hs : List HE) (Q : List V → Hp → Prop), Q (hs.map heV) H → tHs K D a i hs σ H Q
  | [], Q, q => q
  | .str x :: hs, Q, q => rdH ha hk hs (fun vs H1 => Q (.str x :: vs) H1) q
  | .isv :: hs, Q, q => by
    refine ⟨.ref a, ha, ?_⟩
    exact ⟨.ty "ValueError", .type "ValueError", true, rfl, fun u r => r, hk, rdH ha hk hs (fun vs H1 => Q (.bl true :: vs) H1) q⟩
theorem rpH {K : PySem.W.Frag} {H : Hp} : ∀ hs : List HE, RpAll K H (hs.map heV) (hs.map heD)
  | [] => .nil
  | .str x :: hs => .cons (.str x) (rpH hs)
  | .isv :: hs => .cons (.bl true) (rpH hs)
end Mp

set_option Elab.async false
set_option linter.all false
set_option maxRecDepth 100000
set_option maxHeartbeats 4000000
namespace Mp
open PySem PySem.Spec PyProof.Rows L2
/-! ### several except clauses, each with a name -/
abbrev Cl : Type := Value × Nat × (Addr → Value → Option Addr → TS)
/-- what the clauses wish, one behind the other -/
def wAll (K : PySem.W.Frag) (Wo : WX) (D : Ends) : List Cl → WX
  | [] => Wo
  | q :: r => wAs K q.1 q.2.1 q.2.2 (wAll K Wo D r) D
inductive ClsOk (X : Cx) : List ExceptHandler → List Cl → Prop
  | nil : ClsOk X [] []
  | cons {x n : Str} {c : Value} {i : Nat} {ts : Addr → Value → Option Addr → TS} {st : Stmt} {sts : List Stmt} {np hp : Pos} {hds : List ExceptHandler} {l : List Cl} (hi : X.N[i]? = some n) (hl : X.env.kindOf n = some .local) (hc : Names X x c)
      (hs : ∀ (a : Addr) (oe : Obj) (cls : Value) (d : Option Addr) (pn : List (Addr × Obj)), Zc cls d oe → (∃ vs, oe.data = .fields vs) → PSs (X.suite a ((a, oe) :: pn)) (st :: sts) (ts a cls d)) (r : ClsOk X hds l) :
      ClsOk X (.ExceptHandler (some (.Name x np)) (some n) (st :: sts) hp :: hds) ((c, i, ts) :: l)
/-- an exception that has come down to this frame: what the clauses start from -/
structure Down1 (X : Cx) (pins : List (Addr × Obj)) (W : WX) (a : Addr) (s3 : Shared) (σ : L2.St) (H : Hp) (cls : Value) (d : Option Addr) : Prop where
  fl : ∃ B, HandSPX.FlyingZ B (X.env :: X.outer) a (Zc cls d) s3.heap ∧ ∃ sI : Shared, Inv X pins σ H sI ∧ (∀ b o, sI.heap.get? b = some o → b ∉ frs X.stack → B.get? b = some o) ∧ sI.heap.UpToSlots s3.heap ∧ s3.os = sI.os ∧ AllBare s3.gens
  na : H a = none
  w : W cls d σ H
section
variable {X : Cx} {pins : List (Addr × Obj)} {D : Ends} {Wo : WX} {a : Addr} {σ : L2.St} {H : Hp} {cls : Value} {d : Option Addr}
theorem cls_run (hs : X.stack = X.env :: X.outer) (hf : X.env.frame = some X.env.locals) (hN : X.N.Nodup) (tk : Takes X Wo) (ok : X.Ok) :
    ∀ {hds : List ExceptHandler} {l : List Cl}, ClsOk X hds l → ∀ {s3 : Shared}, Down1 X pins (wAll X.K Wo D l) a s3 σ H cls d → wpAny (model X.prog X.w) X.A (handleBy (.ref a) X.env hds) (SP X pins D) X.xe s3 := by
  intro hds l hk
  induction hk with
  | nil =>
    rintro s3 ⟨⟨B, fl, sI, J, nb, up, os, ag⟩, na, w⟩
    refine wpAny_handleBy_nil ?_
    obtain ⟨_, _, _, oe, vs, T, oT, ts', he, hz, hd, h1, hr⟩ := id fl
    unfold PySem.passOn
    refine wpAny_bind (wpAny_field he hd h1 ?_)
    rw [if_neg (show ¬ ((Value.ref T == Value.none) = true) from by simp)]
    have last : wpAny (model X.prog X.w) X.A (setFlight (.ref a) X.env.frame) (fun _ s4 => wpAny (model X.prog X.w) X.A (throw (.ref a) : Sem Flow) (SP X pins D) X.xe s4) X.xe s3 := by
      rw [hf]
      refine HandSPX.setFlight_upZ fl fun h4 hh4 up4 => wpAny_throw (tk _ _ ?_)
      exact ⟨a, B, sI, pins, σ, H, cls, d, rfl, J, nb, up.trans up4, .inr (.inr (by rw [hs]; exact hh4)), na, os, ag, w⟩
    first
      | exact wpAny_bind (wpAny_pure (wpAny_bind last))
      | exact wpAny_bind last
  | @cons x n c i ts st sts np hp hds2 l2 hi hl hc hsu r ih =>
    rintro s3 ⟨⟨B, fl, sI, J, nb, up, os, ag⟩, na, b, hb, yes, no⟩
    have J3 : Inv X pins σ H s3 := J.landed nb fl.1 up os ag
    obtain ⟨oe, vs, he, hz, hd⟩ := fl.there
    have nfr : a ∉ frs (X.env :: X.outer) := fun hm => by
      obtain ⟨_, o', e', hn⟩ := fl.2.2.1.mem hm
      rw [he] at e'
      cases e'
      exact hn _ hd
    have nL : a ≠ X.env.locals := fun z => nfr (List.mem_filterMap.mpr ⟨X.env, List.mem_cons_self, by rw [hf, z]⟩)
    have nF : a ∉ X.fs := fun hm => by
      obtain ⟨e, he2, q⟩ := List.mem_filterMap.mp hm
      exact nfr (List.mem_filterMap.mpr ⟨e, List.mem_cons_of_mem _ he2, q⟩)
    have S3 := J3.suite he hd na nL nF
    refine wpAny_handleBy_cons (codeAny_handlers_test ?_) (by intro q; cases q)
    have LT : PySem.W.Looks (model X.prog X.w) s3.heap (typeOf (.ref a)) cls := fun A Q E s k q => wpAny_typeOf_ref (k _ _ he) (by rw [hz.1]; exact q)
    have LM := PySem.W.exm_one (M := model X.prog X.w) J3.kIn LT hb
    have name : ∀ {Q : Value → Shared → Prop} {E : Value → Shared → Prop}, Q c s3 → wpAny (model X.prog X.w) (X.A.mark (some (.ref a))) (PySem.eval (.Name x np) X.env) Q E s3 := fun {Q E} q => by
      obtain ⟨hg, hdb, hm | ⟨hm, hv, hnn⟩⟩ := hc
      · exact ld_glob (X := X.suite a ((a, oe) :: (X.pn ++ pins))) S3 hg hm q hdb
      · exact ld_blt (X := X.suite a ((a, oe) :: (X.pn ++ pins))) S3 hg hm hv q hnn hdb
    refine name (LM.here ?_)
    cases b with
    | false =>
      show wpAny _ X.A (handleBy (.ref a) X.env hds2) _ _ _
      exact ih ⟨⟨B, fl, sI, J, nb, up, os, ag⟩, na, no rfl⟩
    | true =>
      refine codeAny_handlers_suite_as ?_
      refine HandSPX.lands_againZ fl fun h4 fl4 up4 => ?_
      have J4 : Inv X pins σ H { s3 with heap := h4 } := J.landed nb fl4.1 (up.trans up4) os ag
      obtain ⟨oe4, vs4, he4, hz4, hd4⟩ := fl4.there
      have S4 := J4.suite he4 hd4 na nL nF
      refine store_ok (X := X.suite a ((a, oe4) :: (X.pn ++ pins))) (v := .ref a) S4 hN hi (.inl hl) rfl (fun s5 S5 => ?_) (.inr hl)
      refine wpAny_mono ((hsu a oe4 cls d (X.pn ++ pins) hz4 ⟨_, hd4⟩).run [] s5 _ H _ S5 (yes rfl a na)) (fun f s6 hsp => ?_) (fun _ _ z => False.elim z)
      have bye : ∀ {σ6 : L2.St} {H6 : Hp} {Q : Shared → Prop}, Inv (X.suite a ((a, oe4) :: (X.pn ++ pins))) [] σ6 H6 s6 → (∀ s7, Inv X pins (σ6.set i none) H6 s7 → Q s7) →
          wpAny (model X.prog X.w) X.A (do bindName X.env n .none; unbindBehindTheSuite X.env n hp) (fun _ s7 => Q s7) X.xe s6 := fun {σ6 H6 Q} S6 hq => gone_ok (S6.unsuite ok) hN hi hl hq
      cases f with
      | next => obtain ⟨σ6, H6, S6, q6⟩ := hsp; exact bye S6 fun s7 J7 => ⟨_, _, J7, q6⟩
      | brk => obtain ⟨σ6, H6, S6, q6⟩ := hsp; exact bye S6 fun s7 J7 => ⟨_, _, J7, q6⟩
      | cont => obtain ⟨σ6, H6, S6, q6⟩ := hsp; exact bye S6 fun s7 J7 => ⟨_, _, J7, q6⟩
      | ret u => obtain ⟨v6, σ6, H6, S6, r6, q6⟩ := hsp; exact bye S6 fun s7 J7 => ⟨_, _, _, J7, r6, q6⟩
theorem ps_try_all {body : List Stmt} {h0 : ExceptHandler} {hds : List ExceptHandler} {l : List Cl} {pos : Pos} {tb : WX → TS} (hs : X.stack = X.env :: X.outer) (hf : X.env.frame = some X.env.locals) (hN : X.N.Nodup) (tk : Takes X Wo)
    (hb : ∀ (W : WX) (pn : List (Addr × Obj)) (xe : Value → Shared → Prop), Takes (X.tr pn xe) W → PassesOwn (model X.prog X.w) X.A X.env xe → PSs (X.tr pn xe) body (tb W)) (hk : ClsOk X (h0 :: hds) l) :
    PS X (.Try body (h0 :: hds) [] [] pos) (fun D σ H => tb (wAll X.K Wo D l) D σ H) := by
  refine ⟨fun pins s σ H D I h => ?_⟩
  have ok := I.ok
  have hfr : X.A.frames = some (X.env :: X.outer) := by rw [ok.frames, hs]
  refine wpAny_Try_except ?_
  refine wpAny_mono ((hb (wAll X.K Wo D l) (X.pn ++ pins) (fun e s1 => wpAny (model X.prog X.w) X.A (noteFrame e X.env) (fun _ s2 => wpAny (model X.prog X.w) X.A (setFlight e none) (fun _ s3 =>
    wpAny (model X.prog X.w) X.A (handleBy e X.env (h0 :: hds)) (SP X pins D) X.xe s3) X.xe s2) X.xe s1) (fun u s' xx => ?_) PassesOwn.looking).run [] s σ H D (I.toTry _) h) (fun f s1 hsp => ?_) (fun e s1 he => he)
  · obtain ⟨a, B, sI, pins', σ', H', cls, d, rfl, J', nb, up, sky, na, os, ag, w⟩ := xx
    have sky' : Sky B (X.env :: X.outer) a (Zc cls d) X.env.locals s'.heap := by rw [← hs]; exact sky
    show wpAny (model X.prog X.w) X.A (noteFrame (.ref a) X.env) _ _ _
    refine Sky.land Zc.steady hfr hf sky' fun h3 fl3 up3 => ?_
    exact cls_run hs hf hN tk ok hk ⟨⟨B, fl3, sI, J'.ofTry ok, nb, up.trans up3, os, ag⟩, na, w⟩
  · cases f with
    | next => obtain ⟨σ', H', J', q⟩ := hsp; exact wpAny_execs_nil ⟨σ', H', J'.ofTry ok, q⟩
    | brk => obtain ⟨σ', H', J', q⟩ := hsp; exact ⟨σ', H', J'.ofTry ok, q⟩
    | cont => obtain ⟨σ', H', J', q⟩ := hsp; exact ⟨σ', H', J'.ofTry ok, q⟩
    | ret u => obtain ⟨v, σ', H', J', r, q⟩ := hsp; exact ⟨v, σ', H', J'.ofTry ok, r, q⟩
end
end Mp

set_option Elab.async false
set_option linter.all false
set_option maxRecDepth 100000
set_option maxHeartbeats 4000000
namespace Mp
open PySem PySem.Spec PyProof.Rows L2
/-! ### what an except suite tells: a text, isinstance of the base, the field -/
/-- isinstance(e, c), e the exception that the suite holds, with or without a dict -/
def rIsD (K : PySem.W.Frag) (D a : Addr) (d : Option Addr) : List V → Hp → VK → Prop := fun xs H Q => (∀ dd, d = some dd → ∃ fs, H dd = some (.xd fs)) ∧ rIsE K D a xs H Q
theorem call_isD {X : Cx} {a D : Addr} {d : Option Addr} {oe : Obj} {pn : List (Addr × Obj)} (C : ExcC X.K D) (hz : Zc (.ref D) d oe) (hf : ∃ vs, oe.data = .fields vs) : CallR (X.suite a ((a, oe) :: pn)) (.builtin "isinstance") (rIsD X.K D a d) := by
  intro pins s σ H xs us Q I r h
  obtain ⟨hdd, c, cv, b, rfl, hcv, e, q⟩ := h
  cases r with
  | cons rx rr =>
    cases rr with
    | cons rt rr =>
      cases rr
      cases rx
      have ec := hcv _ rt
      subst ec
      obtain ⟨hget, _⟩ := I.pin (a, oe) (List.mem_append.mpr (.inl List.mem_cons_self))
      obtain ⟨vs, hv⟩ := hf
      have J : ∃ od, PySem.W.InstAt s.heap a oe D od := by
        cases d with
        | none => exact ⟨none, hget, hz.1, by unfold PySem.W.notCls; rw [hv], by rw [hz.2]; trivial⟩
        | some dd =>
          obtain ⟨fs, hx⟩ := hdd dd rfl
          have hx' : ObjOk X.prog X.w H s.heap dd (.xd fs) := I.hok dd _ hx
          obtain ⟨mA, hns, _⟩ := hx'
          obtain ⟨od, ho, _⟩ := lookIn_ns hns
          exact ⟨some od, hget, hz.1, by unfold PySem.W.notCls; rw [hv], by rw [hz.2]; exact ho⟩
      obtain ⟨od, J⟩ := J
      have hcl : (PySem.W.clsIn X.K D).isSome = true := by
        obtain ⟨cd, hc, _⟩ := PySem.W.any_some C.hd
        rw [hc]; rfl
      exact PySem.W.kia_one (PySem.W.kitx_exc hcl C.hg C.hk C.hs C.ha C.hn C.ht C.hm) I.kIn J e (fun z => nomatch z) fun tk => ⟨.bl b, H, I.kept (t' := tk) fun _ _ z => z, rfl, q⟩
def hfV (v : V) : HF → V
  | .str x => .str x
  | .isv => .bl true
  | .isl => .bl true
  | .num _ => v
def isTest (b : Str) (sc : Scope) (n : Str) : Expr → Bool
  | .Call (.Name f _) [.Name m _, .Name t _] [] _ => f == ("isinstance" : Str) && glB sc f && m == n && t == b && glB sc t
  | _ => false
def isFld (f n : Str) : Expr → Bool
  | .Attribute (.Name m _) g _ => m == n && g == f
  | _ => false
def isText (x : Str) : Expr → Bool
  | .Constant (.str y) _ _ => x == y
  | _ => false
def chkW (sc : Scope) (n : Str) : List HF → List Expr → Bool
  | [], [] => true
  | .str x :: hs, e :: es => isText x e && chkW sc n hs es
  | .isv :: hs, e :: es => isTest "ValueError" sc n e && chkW sc n hs es
  | .isl :: hs, e :: es => isTest "LookupError" sc n e && chkW sc n hs es
  | .num f :: hs, e :: es => isFld f n e && chkW sc n hs es
  | _, _ => false
def tWs (K : PySem.W.Frag) (D a : Addr) (cls : Value) (d : Option Addr) (i : Nat) : List HF → TA
  | [] => tNil
  | .str x :: hs => tCons (tC (.str x)) (tWs K D a cls d i hs)
  | .isv :: hs => tCons (tCB (rIsD K D a d) (tCons (tVar i) (tCons (tC (.ty "ValueError")) tNil))) (tWs K D a cls d i hs)
  | .isl :: hs => tCons (tCB (rIsD K D a d) (tCons (tVar i) (tCons (tC (.ty "LookupError")) tNil))) (tWs K D a cls d i hs)
  | .num f :: hs => tCons (tXf a cls d D f (tVar i)) (tWs K D a cls d i hs)
section
variable {X : Cx} {a D : Addr} {d : Option Addr} {oe : Obj} {pn : List (Addr × Obj)} {i : Nat} {n : Str}
theorem peTest {b : Str} {B : String} (C : ExcC X.K D) (hz : Zc (.ref D) d oe) (hf : ∃ vs, oe.data = .fields vs) (hi : X.N[i]? = some n) (hv : visB X.env.scope n = true) (hn : okName n = true) (fi : X.mg "isinstance" = none) (fv : X.mg b = none)
    (hb : bootBuiltins b = some (.type B)) (hne : b ≠ "__name__") (hdb : (b == ("__debug__" : Str)) = false) (hC : CallR (X.suite a ((a, oe) :: pn)) (.builtin "isinstance") (rIsD X.K D a d)) : ∀ e, isTest b X.env.scope n e = true → PE (X.suite a ((a, oe) :: pn)) e (tCB (rIsD X.K D a d) (tCons (tVar i) (tCons (tC (.ty B)) tNil))) := by
  intro e h
  unfold isTest at h
  split at h
  · rename_i f p1 m p2 t p3 p4
    simp only [Bool.and_eq_true, beq_iff_eq] at h
    obtain ⟨⟨⟨⟨h1, h2⟩, h3⟩, h4⟩, h5⟩ := h
    subst h1 h4
    have h3 := h3.symm
    subst h3
    have pt : PE (X.suite a ((a, oe) :: pn)) (.Name t p3) (tC (.ty B)) := pe_bltn (gl_of h5) fv hb rfl hne hdb
    exact pe_callB hC (gl_of h2) fi (by decide +kernel) (pa_cons (pe_var hi (vis_of hv) (okN hn).1 (okN hn).2.1) (pa_cons pt pa_nil rfl) rfl) (by decide) (by decide) rfl rfl
  · cases h
theorem peFld {f : Str} (xf : XfC X.K D) (no : PySem.W.findIn X.K (.ref D) f = some none) (hz : Zc (.ref D) d oe) (hf : ∃ vs, oe.data = .fields vs) (hi : X.N[i]? = some n) (hv : visB X.env.scope n = true) (hn : okName n = true) :
    ∀ e, isFld f n e = true → PE (X.suite a ((a, oe) :: pn)) e (tXf a (.ref D) d D f (tVar i)) := by
  intro e h
  unfold isFld at h
  split at h
  · rename_i m p1 g p2
    simp only [Bool.and_eq_true, beq_iff_eq] at h
    obtain ⟨h1, h2⟩ := h
    subst h2
    have h1 := h1.symm
    subst h1
    exact pe_xf xf no hz hf (pe_var hi (vis_of hv) (okN hn).1 (okN hn).2.1) rfl
  · cases h
theorem paW (C : ExcC X.K D) (hz : Zc (.ref D) d oe) (hf : ∃ vs, oe.data = .fields vs) (hi : X.N[i]? = some n) (hv : visB X.env.scope n = true) (hn : okName n = true) (fi : X.mg "isinstance" = none) (fv : X.mg "ValueError" = none) (fl : X.mg "LookupError" = none) :
    ∀ (hs : List HF), (∀ f, HF.num f ∈ hs → PySem.W.findIn X.K (.ref D) f = some none ∧ XfC X.K D) → ∀ es : List Expr, chkW X.env.scope n hs es = true → PA (X.suite a ((a, oe) :: pn)) es (tWs X.K D a (.ref D) d i hs)
  | [], _, [], _ => pa_nil
  | [], _, _ :: _, h => by simp [chkW] at h
  | .str x :: hs, hno, [], h => by simp [chkW] at h
  | .isv :: hs, hno, [], h => by simp [chkW] at h
  | .isl :: hs, hno, [], h => by simp [chkW] at h
  | .num f :: hs, hno, [], h => by simp [chkW] at h
  | .str x :: hs, hno, e :: es, h => by
    simp only [chkW, Bool.and_eq_true] at h
    obtain ⟨h1, h2⟩ := h
    unfold isText at h1
    split at h1
    · have h1 := beq_iff_eq.mp h1
      subst h1
      exact pa_cons pe_str (paW C hz hf hi hv hn fi fv fl hs (fun f hm => hno f (List.mem_cons_of_mem _ hm)) es h2) rfl
    · cases h1
  | .isv :: hs, hno, e :: es, h => by
    simp only [chkW, Bool.and_eq_true] at h
    obtain ⟨h1, h2⟩ := h
    have h1' := h1
    unfold isTest at h1'
    split at h1'
    · exact pa_cons (peTest C hz hf hi hv hn fi fv (by decide +kernel) (by decide) (by decide) (call_isD C hz hf) _ h1) (paW C hz hf hi hv hn fi fv fl hs (fun f hm => hno f (List.mem_cons_of_mem _ hm)) es h2) rfl
    · cases h1'
  | .isl :: hs, hno, e :: es, h => by
    simp only [chkW, Bool.and_eq_true] at h
    obtain ⟨h1, h2⟩ := h
    have h1' := h1
    unfold isTest at h1'
    split at h1'
    · exact pa_cons (peTest C hz hf hi hv hn fi fl (by decide +kernel) (by decide) (by decide) (call_isD C hz hf) _ h1) (paW C hz hf hi hv hn fi fv fl hs (fun f hm => hno f (List.mem_cons_of_mem _ hm)) es h2) rfl
    · cases h1'
  | .num f :: hs, hno, e :: es, h => by
    simp only [chkW, Bool.and_eq_true] at h
    obtain ⟨h1, h2⟩ := h
    obtain ⟨hq, xf⟩ := hno f (by simp)
    have h1' := h1
    unfold isFld at h1'
    split at h1'
    · exact pa_cons (peFld xf hq hz hf hi hv hn _ h1) (paW C hz hf hi hv hn fi fv fl hs (fun f hm => hno f (List.mem_cons_of_mem _ hm)) es h2) rfl
    · cases h1'
end
theorem rdW {K : PySem.W.Frag} {D a : Addr} {d : Option Addr} {i : Nat} {σ : L2.St} {H : Hp} {v : V} (ha : σ[i]? = some (some (.ref a))) (hd : ∀ b, d = some b → ∃ f, H b = some (.xd [(f, v)])) :
    ∀ (hs : List HF), (HF.isv ∈ hs → PySem.W.kitOne K (.ref D) (.type "ValueError") = some true) → (HF.isl ∈ hs → PySem.W.kitOne K (.ref D) (.type "LookupError") = some true) → (∀ f, HF.num f ∈ hs → ∃ b, d = some b ∧ H b = some (.xd [(f, v)])) →
      ∀ (Q : List V → Hp → Prop), Q (hs.map (hfV v)) H → tWs K D a (.ref D) d i hs σ H Q
  | [], _, _, _, Q, q => q
  | .str x :: hs, h1, h2, h3, Q, q => rdW ha hd hs (fun m => h1 (List.mem_cons_of_mem _ m)) (fun m => h2 (List.mem_cons_of_mem _ m)) (fun f m => h3 f (List.mem_cons_of_mem _ m)) (fun vs H1 => Q (.str x :: vs) H1) q
  | .isv :: hs, h1, h2, h3, Q, q => by
    refine ⟨.ref a, ha, ?_⟩
    exact ⟨fun dd e => by obtain ⟨f, z⟩ := hd dd e; exact ⟨_, z⟩, .ty "ValueError", .type "ValueError", true, rfl, fun u r => r, h1 (by simp), rdW ha hd hs (fun m => h1 (List.mem_cons_of_mem _ m)) (fun m => h2 (List.mem_cons_of_mem _ m)) (fun f m => h3 f (List.mem_cons_of_mem _ m)) (fun vs H1 => Q (.bl true :: vs) H1) q⟩
  | .isl :: hs, h1, h2, h3, Q, q => by
    refine ⟨.ref a, ha, ?_⟩
    exact ⟨fun dd e => by obtain ⟨f, z⟩ := hd dd e; exact ⟨_, z⟩, .ty "LookupError", .type "LookupError", true, rfl, fun u r => r, h2 (by simp), rdW ha hd hs (fun m => h1 (List.mem_cons_of_mem _ m)) (fun m => h2 (List.mem_cons_of_mem _ m)) (fun f m => h3 f (List.mem_cons_of_mem _ m)) (fun vs H1 => Q (.bl true :: vs) H1) q⟩
  | .num f :: hs, h1, h2, h3, Q, q => by
    obtain ⟨b, e, z⟩ := h3 f (by simp)
    refine ⟨.ref a, ha, rfl, rfl, b, [(f, v)], v, e, z, by simp [List.lookup], ?_⟩
    exact rdW ha hd hs (fun m => h1 (List.mem_cons_of_mem _ m)) (fun m => h2 (List.mem_cons_of_mem _ m)) (fun f m => h3 f (List.mem_cons_of_mem _ m)) (fun vs H1 => Q (v :: vs) H1) q
end Mp

set_option Elab.async false
set_option linter.all false
set_option maxRecDepth 100000
set_option maxHeartbeats 4000000
namespace Mp
open PySem PySem.Spec PyProof.Rows L2
/-! ### several values at once -/
def RSs (K : PySem.W.Frag) (Hs : Hp) : List Addr → Hp → Hp → List V → List Slot → Prop := fun ks Hz H vs ss => ER K ks Hz H ss (vs.map some) ∧ ∀ (i : Nat) (xs : List PyData) (p : Addr), ss[i]? = some (Slot.own xs) → vs[i]? = some (V.ref p) → Hs p = none
def tSl (K : PySem.W.Frag) (W : WX) (ev : Ev (List Slot)) : TA := fun σ H Q => ∃ ks m Hz r, CR K ks m Hz H ∧ ER K ks Hz H r σ ∧ Aft K (RSs K H) W ks Hz H σ Q (ev r m)
section
variable {K : PySem.W.Frag} {W : WX} {σ : L2.St} {H : Hp} {ea : Ev MV} {ef : Ev (List PyData)} {eb : Ev (List Slot)}
theorem rdNilS {Q : List V → Hp → Prop} (h : tSl K W (fun _ m => .ok [] m) σ H Q) : tNil σ H Q := by
  obtain ⟨ks, m, Hz, r, c, e, a⟩ := h
  exact a ks Hz H [] (Ext.refl _ _ _) c ⟨⟨rfl, fun i s q => by simp at q, fun i j xs ys _ q => by simp at q⟩, fun i xs p q => by simp at q⟩
theorem erCons {ks : List Addr} {Hz H : Hp} {s : Slot} {ss : List Slot} {v : V} {vs : List V} (h : SR K ks Hz H s (some (some v))) (e : ER K ks Hz H ss (vs.map some)) (d : ∀ (xs : List PyData), s = .own xs → ∀ (j : Nat) (ys : List PyData), ss[j]? = some (.own ys) → vs[j]? ≠ some v) : ER K ks Hz H (s :: ss) ((v :: vs).map some) where
  len := by simpa using e.len
  at_ := fun i t q => by
    cases i with
    | zero => simp at q; subst q; exact h
    | succ i => simp at q; exact e.at_ i t q
  ds := fun i j xs ys hij q1 q2 => by
    have inj : ∀ {k : Nat}, (vs.map some)[k]? = some (some v) → vs[k]? = some v := fun {k} z => by
      rw [List.getElem?_map] at z
      cases q : vs[k]? with
      | none => rw [q] at z; cases z
      | some w => rw [q] at z; cases z; rfl
    cases i with
    | zero =>
      simp at q1
      cases j with
      | zero => exact absurd rfl hij
      | succ j =>
        simp at q2
        exact fun z => d xs q1 j ys q2 (inj z.symm)
    | succ i =>
      cases j with
      | zero =>
        simp at q1 q2
        exact fun z => d ys q2 i xs q1 (inj z)
      | succ j =>
        simp at q1 q2
        exact e.ds i j xs ys (fun z => hij (by rw [z])) q1 q2
theorem rsUp {ks ks' : List Addr} {Hz Hz' H H' : Hp} {s : Slot} {v : V} (x : Ext ks Hz H ks' Hz' H') (h : SR K ks Hz H s (some (some v))) : SR K ks' Hz' H' s (some (some v)) := by
  have e : ER K ks Hz H [s] ([v].map some) := erCons h ⟨rfl, fun i s q => by simp at q, fun i j xs ys _ q => by simp at q⟩ fun _ _ j ys q => by simp at q
  exact (e.up x).at_ 0 s rfl
theorem rdConsV {Q : List V → Hp → Prop} (h : tSl K W (fun r m => (ea r m).bind fun x m1 => (eb r m1).bind fun ss m2 => .ok (.v x :: ss) m2) σ H Q) : tCons (tE K W ea) (tSl K W eb) σ H Q := by
  obtain ⟨ks0, m0, Hz0, r, c0, e0, a0⟩ := h
  refine ⟨ks0, m0, Hz0, r, c0, e0, Aft.bind a0 fun x m ks Hz H1 v _ x0 c rv a => ?_⟩
  refine ⟨ks, m, Hz, r, c, e0.up x0, Aft.bind a fun ss m2 ks2 Hz2 H2 vs _ x2 c2 rvs a2 => ?_⟩
  refine a2 ks2 Hz2 H2 _ (Ext.refl _ _ _) c2 ⟨erCons (.v (rv.up x2)) rvs.1 (fun _ q => by cases q), fun i xs p q1 q2 => ?_⟩
  cases i with
  | zero => simp at q1
  | succ i =>
    simp at q1 q2
    exact extNone x0 c (rvs.2 i xs p q1 q2)
theorem rdConsO {Q : List V → Hp → Prop} (h : tSl K W (fun r m => (ef r m).bind fun x m1 => (eb r m1).bind fun ss m2 => .ok (.own x :: ss) m2) σ H Q) : tCons (tF K W ef) (tSl K W eb) σ H Q := by
  obtain ⟨ks0, m0, Hz0, r, c0, e0, a0⟩ := h
  refine ⟨ks0, m0, Hz0, r, c0, e0, ?_⟩
  refine Aft.bind a0 fun x m ks Hz H1 v _ x0 c rf a => ?_
  obtain ⟨p, us, rfl, h1, h2, h3, h4, h5⟩ := rf
  refine ⟨ks, m, Hz, r, c, e0.up x0, Aft.bind a fun ss m2 ks2 Hz2 H2 vs _ x2 c2 rvs a2 => ?_⟩
  have so : SR K ks Hz H1 (.own x) (some (some (.ref p))) := .own h1 h2 h3 h4
  refine a2 ks2 Hz2 H2 _ (Ext.refl _ _ _) c2 ⟨erCons (rsUp x2 so) rvs.1 (fun _ _ j ys q1 q2 => ?_), fun i xs q q1 q2 => ?_⟩
  · have := rvs.2 j ys p q1 q2
    rw [h1] at this; cases this
  · cases i with
    | zero =>
      simp at q1 q2
      rw [← q2]; exact h5
    | succ i =>
      simp at q1 q2
      exact extNone x0 c (rvs.2 i xs q q1 q2)
end
def setSt : List Nat → List V → L2.St → L2.St
  | i :: l, v :: vs, σ => setSt l vs (σ.set i (some v))
  | _, _, σ => σ
section
variable {K : PySem.W.Frag} {W : WX} {ks0 ks : List Addr} {Hz0 H0 Z Hz H : Hp} {m : Mem}
theorem StB.un {r : Env'} {σ : L2.St} {i : Nat} {v : V} (b : StB K ks0 Hz0 H0 Z ks m Hz H r σ) (hi : i < r.length) : StB K ks0 Hz0 H0 Z ks m Hz H (r.set i .un) (σ.set i (some v)) := by
  refine ⟨b.x, b.z, b.c, ⟨by simp [b.e.len], fun j s h => ?_, fun j k xs' ys' hjk e1 e2 => ?_⟩, fun j xs' q e1 e2 => ?_⟩
  · by_cases q : i = j
    · subst q
      rw [List.getElem?_set_self hi] at h
      cases h
      exact .un _
    · rw [List.getElem?_set_ne q] at h ⊢
      exact b.e.at_ j s h
  · by_cases q : i = j
    · subst q; rw [List.getElem?_set_self hi] at e1; cases e1
    · by_cases q2 : i = k
      · subst q2; rw [List.getElem?_set_self hi] at e2; cases e2
      · rw [List.getElem?_set_ne q] at e1 ⊢
        rw [List.getElem?_set_ne q2] at e2 ⊢
        exact b.e.ds j k xs' ys' hjk e1 e2
  · by_cases q2 : i = j
    · subst q2; rw [List.getElem?_set_self hi] at e1; cases e1
    · rw [List.getElem?_set_ne q2] at e1 e2
      exact b.o j xs' q e1 e2
/-- slot by slot -/
theorem setAll_ok : ∀ (l : List Nat) (ss : List Slot) (vs : List V) (r r' : Env') (σ : L2.St), setAll l ss r = some r' → StB K ks0 Hz0 H0 Z ks m Hz H r σ → ER K ks Hz H ss (vs.map some) → (∀ (i : Nat) (xs : List PyData) (p : Addr), ss[i]? = some (Slot.own xs) → vs[i]? = some (V.ref p) → H0 p = none) →
    (∀ (j : Nat) (ys : List PyData) (i : Nat) (xs : List PyData) (p : Addr), r[j]? = some (Slot.own ys) → ss[i]? = some (Slot.own xs) → vs[i]? = some (V.ref p) → σ[j]? ≠ some (some (V.ref p))) → StB K ks0 Hz0 H0 Z ks m Hz H r' (setSt l vs σ)
  | [], [], vs, r, r', σ, e, b, _, _, _ => by
    simp only [setAll, Option.some.injEq] at e
    subst e
    cases vs <;> exact b
  | [], _ :: _, _, _, _, _, e, _, _, _, _ => by simp [setAll] at e
  | _ :: _, [], _, _, _, _, e, _, _, _, _ => by simp [setAll] at e
  | i :: l, s :: ss, vs, r, r', σ, e, b, er, h0, hd => by
    cases vs with
    | nil => have := er.len; simp at this
    | cons v vs =>
      simp only [setAll] at e
      split at e
      · rename_i hi
        have er' : ER K ks Hz H ss (vs.map some) := ⟨by have := er.len; simpa using this, fun j t q => er.at_ (j + 1) t q, fun j k xs ys hjk q1 q2 => er.ds (j + 1) (k + 1) xs ys (fun z => hjk (Nat.succ.inj z)) q1 q2⟩
        have s0 : SR K ks Hz H s (some (some v)) := er.at_ 0 s rfl
        have b' : StB K ks0 Hz0 H0 Z ks m Hz H (r.set i s) (σ.set i (some v)) := by
          cases s0 with
          | un => exact b.un hi
          | v rv => exact b.set hi rv
          | @own p us xs q1 q2 q3 q4 => exact b.setO hi q1 q2 q3 q4 (h0 0 xs p rfl rfl) fun j ys w1 _ => hd j ys 0 xs p w1 rfl rfl
        refine setAll_ok l ss vs (r.set i s) r' (σ.set i (some v)) e b' er' (fun j xs p q1 q2 => h0 (j + 1) xs p q1 q2) fun j ys k xs p q1 q2 q3 => ?_
        by_cases w : i = j
        · subst w
          rw [List.getElem?_set_self hi] at q1
          rw [List.getElem?_set_self (by rw [← b.e.len]; exact hi)]
          cases q1
          intro z
          have hv : v = V.ref p := by simpa using z
          have := er.ds 0 (k + 1) ys xs (by omega) rfl q2
          apply this
          simp [hv, q3]
        · rw [List.getElem?_set_ne w] at q1 ⊢
          exact hd j ys (k + 1) xs p q1 q2 q3
      · cases e
theorem rdParG {W : WX} {l : List Nat} {ev : Ev (List Slot)} {σ : L2.St} {H : Hp} {D : Ends} (h : tS K W (fun r m => .of (ev r m) r fun xs m1 => (match setAll l xs r with
    | some r1 => .nx r1 m1
    | none => .bad)) D σ H) : tSl K W ev σ H fun vs H1 => vs.length = l.length ∧ D.nx (setSt l vs σ) H1 ∧ ∀ p o, H1 p = none → D.nx (setSt l vs σ) (upd H1 p o) := by
  obtain ⟨ks0, Hz0, H0, Z, ks, m, Hz, r, b, a⟩ := h
  refine ⟨ks, m, Hz, r, b.c, b.e, AftS.of b a fun ss m1 ks1 Hz1 H1 vs _ x1 c1 rs a1 => ?_⟩
  have b1 := b.up x1 c1
  obtain ⟨er, hs⟩ := rs
  cases hq : setAll l ss r with
  | none => simp only [hq] at a1; exact a1.elim
  | some r1 =>
    simp only [hq] at a1
    have len : ∀ (l : List Nat) (ss : List Slot) (r r1 : Env'), setAll l ss r = some r1 → ss.length = l.length := by
      intro l
      induction l with
      | nil => intro ss r r1 e; cases ss with
        | nil => rfl
        | cons _ _ => simp [setAll] at e
      | cons i l ih => intro ss r r1 e; cases ss with
        | nil => simp [setAll] at e
        | cons s ss =>
          simp only [setAll] at e
          split at e
          · simp [ih ss _ _ e]
          · cases e
    have hl : vs.length = l.length := by
      have := er.len
      rw [len l ss r r1 hq] at this
      simpa using this.symm
    have b2 := setAll_ok l ss vs r r1 σ hq b1 er (fun i xs p q1 q2 => extNone b.x b.c (hs i xs p q1 q2)) fun j ys i xs p q1 q2 q3 q4 => by
      have z := b.e.at_ j _ q1
      rw [q4] at z
      cases z with
      | own w1 _ _ _ => rw [hs i xs p q2 q3] at w1; cases w1
    exact ⟨hl, a1 ks1 Hz1 H1 _ b2, fun p o n => a1 ks1 Hz1 _ _ (b2.up (Ext.fresh n o) (b2.c.fresh n o))⟩
theorem rdPar2 {W : WX} {i j : Nat} {ev : Ev (List Slot)} {σ : L2.St} {H : Hp} {D : Ends} (h : tS K W (fun r m => .of (ev r m) r fun xs m1 => (match setAll [i, j] xs r with
    | some r1 => .nx r1 m1
    | none => .bad)) D σ H) : tPar i j (tSl K W ev) D σ H := by
  obtain ⟨ks, m, Hz, r, c, e, a⟩ := rdParG h
  refine ⟨ks, m, Hz, r, c, e, Aft.mono a fun vs H1 q => ?_⟩
  match vs, q with
  | [v, w], q => exact ⟨v, w, rfl, q.2.1⟩
theorem rdPar3 {W : WX} {i j k : Nat} {ev : Ev (List Slot)} {σ : L2.St} {H : Hp} {D : Ends} (h : tS K W (fun r m => .of (ev r m) r fun xs m1 => (match setAll [i, j, k] xs r with
    | some r1 => .nx r1 m1
    | none => .bad)) D σ H) : tPar3 i j k (tSl K W ev) D σ H := by
  obtain ⟨ks, m, Hz, r, c, e, a⟩ := rdParG h
  refine ⟨ks, m, Hz, r, c, e, Aft.mono a fun vs H1 q => ?_⟩
  match vs, q with
  | [u, v, w], q => exact ⟨u, v, w, rfl, q.2.1⟩
def nmsT : List Nat → CTs
  | [] => .nil
  | i :: l => .cons (.nm i) (nmsT l)
theorem gNms : ∀ (l : List Nat) (vs : List V) (σ : L2.St) (H : Hp) (Q : L2.St → Hp → Prop), vs.length = l.length → Q (setSt l vs σ) H → gTs K (nmsT l) vs σ H Q
  | [], vs, σ, H, Q, e, q => by
    cases vs with
    | nil => exact ⟨rfl, q⟩
    | cons _ _ => simp at e
  | i :: l, vs, σ, H, Q, e, q => by
    cases vs with
    | nil => simp at e
    | cons v vs => exact ⟨v, vs, rfl, gNms l vs _ H Q (by simpa using e) q⟩
theorem tLenNms : ∀ l : List Nat, tLenT (nmsT l) = l.length
  | [] => rfl
  | _ :: l => by simp [nmsT, tLenT, tLenNms l]
theorem rdParT {W : WX} {l : List Nat} {ev : Ev (List Slot)} {σ : L2.St} {H : Hp} {D : Ends} (hl : l.length ≤ sizeLine) (h : tS K W (fun r m => .of (ev r m) r fun xs m1 => (match setAll l xs r with
    | some r1 => .nx r1 m1
    | none => .bad)) D σ H) : tAsg (tTup (tSl K W ev)) (gT K (.tp (nmsT l))) D σ H := by
  obtain ⟨ks, m, Hz, r, c, e, a⟩ := rdParG h
  refine ⟨ks, m, Hz, r, c, e, Aft.mono a fun vs H1 q => ?_⟩
  refine ⟨by rw [q.1]; exact hl, fun p n => ⟨p, vs, rfl, .inl (SqT.of upd_same), by rw [tLenNms]; exact q.1, gNms l vs σ _ _ q.1 (q.2.2 p _ n)⟩⟩
end

/-- an except suite of one statement -/
def chkHk (N : List Str) (sc : Scope) (n : Str) (i : Nat) (k : Option Nat) (hs : List HE) : Stmt → Bool
  | .Return (some (.List es _)) _ => k.isNone && chkH sc n hs es
  | .Assign [.Name y _] (.List es _) _ => (match k with
    | some j => N[j]? == some y && locB sc y && j != i && chkH sc n hs es
    | none => false)
  | _ => false

/-- likewise, with the field -/
def chkHkW (N : List Str) (sc : Scope) (n : Str) (i : Nat) (k : Option Nat) (hs : List HF) : Stmt → Bool
  | .Return (some (.List es _)) _ => k.isNone && chkW sc n hs es
  | .Assign [.Name y _] (.List es _) _ => (match k with
    | some j => N[j]? == some y && locB sc y && j != i && chkW sc n hs es
    | none => false)
  | _ => false
def hfOk (T : Tab) (c : Str) : HF → Bool
  | .str _ => true
  | .isv => T.xs.contains c
  | .isl => (T.fx.lookup c).isSome
  | .num f => T.fx.lookup c == some f
def chkCl (T : Tab) (N : List Str) (sc : Scope) : List Clz → List ExceptHandler → Bool
  | [], [] => true
  | q :: qs, .ExceptHandler (some (.Name x _)) (some n) [st] _ :: hds => x == q.c && glB sc x && okName x && T.cs.contains q.c && N[q.i]? == some n && sc.names.lookup n == some .local && okName n && decide (q.hs.length ≤ 100) && q.hs.all (hfOk T q.c) && chkHkW N sc n q.i q.k q.hs st && chkCl T N sc qs hds
  | _, _ => false
/-! ### the checker for statements -/
def isFreshD : CE → Bool
  | .lst _ => true
  | .comp .. => true
  | .comp2 .. => true
  | .b1 .lst _ => true
  | .bin .mul _ _ => true
  | .bin .add _ _ => true
  | .slc _ _ _ => true
  | .orT a b => isFreshD a && isFreshD b
  | _ => false
def isFresh : CE → Bool
  | .call _ _ => true
  | .callk _ _ _ _ => true
  | .ite _ a b => isFresh a && isFresh b
  | e => isFreshD e
termination_by structural x => x
def notTup : Expr → Bool
  | .Tuple .. => false
  | _ => true
section
variable (T : Tab) (N : List Str)
def chkP : CL → List Bool → Scope → List Expr → Bool
  | .nil, [], _, [] => true
  | .cons e es, false :: bs, sc, x :: xs => noStar x && chkE T N e sc x && chkP es bs sc xs
  | .cons e es, true :: bs, sc, x :: xs => noStar x && chkE T N e sc x && isFresh e && chkP es bs sc xs
  | _, _, _, _ => false
def swOk (sc : Scope) (l : List Nat) (ts vs : List Expr) : Bool :=
  (vs.all (foldedForSure 8) || swN sc ts != ts.length) ||
  (match l, ts, vs with
    | [i, j], [.Name x px, .Name y py], [a, b] => i != j && sc.names.lookup x == some .local && sc.names.lookup y == some .local && y != x && py.line == px.line && noStar a && noStar b && !(foldedForSure 8 a && foldedForSure 8 b) && !(constantsAlone 8 a && constantsAlone 8 b)
    | [i, j, k], [.Name x px, .Name y py, .Name z pz], [a, b, c] => i != j && i != k && j != k && sc.names.lookup x == some .local && sc.names.lookup y == some .local && sc.names.lookup z == some .local && y != x && z != x && z != y && py.line == px.line && pz.line == px.line && noStar a && noStar b && noStar c && !(foldedForSure 8 a && foldedForSure 8 b && foldedForSure 8 c) && !(constantsAlone 8 a && constantsAlone 8 b && constantsAlone 8 c)
    | _, _, _ => false)
mutual
def chkS : CS → Scope → Stmt → Bool
  | .raise c e, sc, .Raise (some (.Call (.Name x _) [] [] _)) none _ => noB e && x == c && glB sc x && okName x && T.xs.contains c
  | .raise c (.tup (.cons (.ks f) (.cons e .nil))), sc, .Raise (some (.Call (.Name x _) [a] [] _)) none _ => x == c && glB sc x && okName x && T.fx.lookup c == some f && noStar a && chkE T N e sc a
  | .tryN b qs xs, sc, .Try body (h0 :: hds) [] [] _ => xs.all T.cs.contains && chkSs b sc body && chkCl T N sc qs (h0 :: hds)
  | .try1 b c i xs k hs, sc, .Try body [.ExceptHandler (some (.Name x _)) (some n) [st] _] [] [] _ => x == c && glB sc x && okName x && T.xs.contains c && N[i]? == some n && sc.names.lookup n == some .local && okName n && xs.all T.xs.contains && decide (hs.length ≤ 100) && chkSs b sc body && chkHk N sc n i k hs st
  | .asg i e, sc, .Assign [.Name x _] v _ => N[i]? == some x && locB sc x && chkE T N e sc v
  | .asgO i e, sc, .Assign [.Name x _] v _ => N[i]? == some x && locB sc x && chkE T N e sc v && isFresh e
  | .asgT ts e, sc, .Assign [tg] v _ => chkT N (.tp ts) sc tg && chkE T N e sc v && notTup v
  | .par l bs es, sc, .Assign [.Tuple ts _ _] (.Tuple vs _ _) _ => chkTs N (nmsT l) sc ts && chkP T N es bs sc vs && decide (l.length ≤ 100) && swOk sc l ts vs
  | .setC i k e, sc, .Assign [.Subscript (.Name y _) w _] v _ => N[i]? == some y && visB sc y && okName y && chkE T N k sc w && notSlice w && chkE T N e sc v
  | .setO i k e, sc, .Assign [.Subscript (.Name y _) w _] v _ => N[i]? == some y && visB sc y && okName y && chkE T N k sc w && notSlice w && chkE T N e sc v
  | .app i e, sc, .Expr (.Call (.Attribute (.Name y _) nm ap) [x] [] cp) _ => nm == ("append" : Str) && ap.endLine == cp.line && N[i]? == some y && visB sc y && okName y && noStar x && chkE T N e sc x
  | .appPop i j e, sc, .Expr (.Call (.Attribute (.Name y _) nm ap) [.Call (.Attribute (.Name z _) nm2 ap2) [x] [] cp2] [] cp) _ => nm == ("append" : Str) && ap.endLine == cp.line && N[i]? == some y && visB sc y && okName y && nm2 == ("pop" : Str) && ap2.endLine == cp2.line && N[j]? == some z && visB sc z && okName z && noStar x && chkE T N e sc x
  | .ext i e, sc, .Expr (.Call (.Attribute (.Name y _) nm ap) [x] [] cp) _ => nm == ("extend" : Str) && ap.endLine == cp.line && N[i]? == some y && visB sc y && okName y && noStar x && chkE T N e sc x
  | .do_ e, sc, .Expr x _ => chkE T N e sc x && notComp x
  | .ret e, sc, .Return (some x) _ => chkE T N e sc x
  | .retF e, sc, .Return (some x) _ => chkE T N e sc x && isFresh e
  | .retC i, sc, .Return (some (.Name y _)) _ => N[i]? == some y && visB sc y && okName y
  | .retN, _, .Return none _ => true
  | .if_ t a b, sc, .If c xs ys _ => chkC T N t sc c && chkSs a sc xs && chkSs b sc ys
  | .whl t b, sc, .While c body [] _ => chkC T N t sc c && chkSs b sc body
  | .for_ t it b, sc, .For tg iter body [] _ => chkI T N it sc tg iter && notSet iter && chkT N t sc tg && chkSs b sc body
  | .pas, _, .Pass _ => true
  | .pas, _, .Expr (.Constant (.str _) _ _) _ => true
  | .dead, _, _ => true
  | _, _, _ => false
termination_by structural x => x
def chkSs : CSs → Scope → List Stmt → Bool
  | .nil, _, [] => true
  | .cons s ss, sc, x :: xs => chkS s sc x && chkSs ss sc xs
  | .frz _ ss, sc, xs => chkSs ss sc xs
  | _, _, _ => false
termination_by structural x => x
end
end
end Mp

set_option Elab.async false
set_option linter.all false
set_option maxRecDepth 100000
set_option maxHeartbeats 4000000
namespace Mp
open PySem PySem.Spec PyProof.Rows L2
/-! ### several clauses: what is asked, what comes of it -/
def hasNum (hs : List HF) : Prop := ∃ f, HF.num f ∈ hs
/-- what a clause's suite of one statement asks -/
def tHndW (K : PySem.W.Frag) (q : Clz) (a : Addr) (cls : Value) (d : Option Addr) : TS := fun D σ H => cls = .ref (He.ga K q.c) ∧ (match q.k with
    | none => tRet (tLst (tWs K (He.ga K q.c) a (.ref (He.ga K q.c)) d q.i q.hs))
    | some j => tAsg (tLst (tWs K (He.ga K q.c) a (.ref (He.ga K q.c)) d q.i q.hs)) (gName j)) D σ H
def clOf (K : PySem.W.Frag) (q : Clz) : Cl := (.ref (He.ga K q.c), q.i, tHndW K q)
theorem hfDs_len (x : Option PyData) : ∀ {hs : List HF} {ds : List PyData}, hfDs x hs = some ds → ds.length = hs.length
  | [], ds, h => by cases h; rfl
  | q :: hs, ds, h => by
    simp only [hfDs] at h
    split at h
    · rename_i d ds' e1 e2
      cases h
      simp [hfDs_len x e2]
    · cases h
theorem hfDs_num {x : Option PyData} {f : Str} : ∀ {hs : List HF} {ds : List PyData}, hfDs x hs = some ds → HF.num f ∈ hs → ∃ d, x = some (.tuple [.str f, d])
  | [], _, _, m => by cases m
  | q :: hs, ds, h, m => by
    simp only [hfDs] at h
    split at h
    · rename_i d ds' e1 e2
      rcases List.mem_cons.mp m with e | m
      · subst e
        simp only [hfD] at e1
        split at e1
        · rename_i g d'
          split at e1
          · rename_i e; subst e; exact ⟨d', rfl⟩
          · cases e1
        · cases e1
      · exact hfDs_num e2 m
    · cases h
/-- what is told, as values -/
theorem hfDs_rp {K : PySem.W.Frag} {H : Hp} {x : Option PyData} {v : V} (hv : ∀ f d, x = some (.tuple [.str f, d]) → Rp K H v d) : ∀ {hs : List HF} {ds : List PyData}, hfDs x hs = some ds → RpAll K H (hs.map (hfV v)) ds
  | [], ds, h => by cases h; exact .nil
  | q :: hs, ds, h => by
    simp only [hfDs] at h
    split at h
    · rename_i d ds' e1 e2
      cases h
      have ih := hfDs_rp hv e2
      cases q with
      | str s => cases e1; exact .cons (.str s) ih
      | isv => cases e1; exact .cons (.bl true) ih
      | isl => cases e1; exact .cons (.bl true) ih
      | num f =>
        simp only [hfD] at e1
        split at e1
        · rename_i g d'
          split at e1
          · rename_i e; cases e1; exact .cons (hv _ _ rfl) ih
          · cases e1
        · cases e1
    · cases h
end Mp

set_option Elab.async false
set_option linter.all false
set_option maxRecDepth 100000
set_option maxHeartbeats 4000000
namespace Mp
open PySem PySem.Spec PyProof.Rows L2
theorem chkS_raise1 {T : Tab} {N : List Str} {sc : Scope} {c x : Str} {e : CE} {y : Expr} {p1 p2 pos : Pos} (h : chkS T N (.raise c e) sc (.Raise (some (.Call (.Name x p1) [y] [] p2)) none pos) = true) :
    ∃ f e', e = .tup (.cons (.ks f) (.cons e' .nil)) ∧ x = c ∧ glB sc x = true ∧ okName x = true ∧ T.fx.lookup c = some f ∧ noStar y = true ∧ chkE T N e' sc y = true := by
  cases e <;> try (simp only [chkS, Bool.false_eq_true] at h; done)
  rename_i es
  cases es <;> try (simp only [chkS, Bool.false_eq_true] at h; done)
  rename_i a es
  cases a <;> try (simp only [chkS, Bool.false_eq_true] at h; done)
  rename_i f
  cases es <;> try (simp only [chkS, Bool.false_eq_true] at h; done)
  rename_i e' es
  cases es <;> try (simp only [chkS, Bool.false_eq_true] at h; done)
  simp only [chkS, Bool.and_eq_true, beq_iff_eq] at h
  exact ⟨f, e', rfl, h.1.1.1.1.1, h.1.1.1.1.2, h.1.1.1.2, h.1.1.2, h.1.2, h.2⟩
structure CompOk (X : Cx) (W : WX) (cl : Calls) (t : CT) (it : CI) (cc e1 : CE) (own : List (Str × Nat)) (x tg iter : Expr) (ifs : List Expr) (scope : Scope) : Prop where
  hi : PI X tg iter (tI X.K W (evI cl it))
  ok : BlkOk X.N X.env.scope scope own
  hg : ∀ (s : Shared) (H : Hp) (C : Addr) (cl' : List (Str × Addr)) (fp : List Addr), PG (X.blk s H scope (compEnvC scope cl' C X.env) fp) tg (gT X.K t)
  ht : ∀ (s : Shared) (H : Hp) (C : Addr) (cl' : List (Str × Addr)) (fp : List Addr), PTs (X.blk s H scope (compEnvC scope cl' C X.env) fp) ifs (tB' X.K Wf (evT (evE cl cc)))
  he : ∀ (s : Shared) (H : Hp) (C : Addr) (cl' : List (Str × Addr)) (fp : List Addr), PE (X.blk s H scope (compEnvC scope cl' C X.env) fp) x (tE X.K Wf (evE cl e1))
  hs : ∀ v, foldedSetIterable iter X.env v = pure v
  ho : tIn (own.map (·.2)).contains t = true
section
variable {T : Tab} {cl : Calls} {n : Nat} {W : WX} {X : Cx}
theorem compParts (o : OkX T cl n W X) {t : CT} {it : CI} {c e1 : CE} {own : List (Str × Nat)} {e : Expr} (h : chkE T X.N (.comp t it c e1 own) X.env.scope e = true) :
    ∃ x tg iter ifs scope p, e = .ListComp x [⟨tg, iter, ifs, 0⟩] scope p ∧ CompOk X W cl t it c e1 own x tg iter ifs scope := by
  cases e <;> try (simp only [chkE, Bool.false_eq_true] at h; done)
  rename_i x gs scope p
  match gs, h with
  | [⟨tg, iter, ifs, a⟩], h =>
    simp only [chkE, Bool.and_eq_true, beq_iff_eq] at h
    obtain ⟨⟨⟨⟨⟨⟨⟨h1, h2⟩, h3⟩, h4⟩, h5⟩, h6⟩, h7⟩, h8⟩ := h
    subst h1
    refine ⟨x, tg, iter, ifs, scope, p, rfl, ⟨sI it o tg iter h3, blkOk_by h2, fun s H C cl fp => sT (o.tg s H scope _ fp rfl) t tg h5, fun s H C cl' fp => ?_, fun s H C cl' fp => sE e1 (o.blk s H scope (compEnvC scope cl' C X.env) fp) x h8, fun x => notSetF h4 _ x, h6⟩⟩
    match ifs, h7 with
    | [], h7 =>
      have hc := isKT_eq h7
      rw [hc]
      exact ptsMono pts_nil fun _ _ _ q => rdYes q
    | [w], h7 => exact pts_one (sC c (o.blk s H scope (compEnvC scope cl' C X.env) fp) w h7)
theorem compOwn2 {K : PySem.W.Frag} {W : WX} {t t1 : CT} {it it1 : CI} {c c1 e1 : CE} {own : List (Str × Nat)} {vs1 : List Nat} {σ : L2.St} {H : Hp} {Q : VK} (h : tF K W (fun r m => (evE cl (.comp2 t it c t1 it1 c1 e1 own vs1) r m).bind ownOf) σ H Q) : tF K W (comp2L (evI cl it) t (evE cl c) t1 (evI cl it1) (evE cl c1) (evE cl e1) (own.map (·.2)) vs1) σ H Q := by
  have e : (fun r m => (evE cl (.comp2 t it c t1 it1 c1 e1 own vs1) r m).bind ownOf) = comp2L (evI cl it) t (evE cl c) t1 (evI cl it1) (evE cl c1) (evE cl e1) (own.map (·.2)) vs1 := by
    funext r m
    rw [comp2_eq]
    rw [Res.bind_assoc]
    generalize comp2L _ _ _ _ _ _ _ _ _ r m = z
    cases z <;> rfl
  rw [e] at h
  exact h
theorem compOwn {K : PySem.W.Frag} {W : WX} {t : CT} {it : CI} {c e1 : CE} {own : List (Str × Nat)} {σ : L2.St} {H : Hp} {Q : VK} (h : tF K W (fun r m => (evE cl (.comp t it c e1 own) r m).bind ownOf) σ H Q) : tF K W (compL (evI cl it) t (evE cl c) (evE cl e1) (own.map (·.2))) σ H Q := by
  have e : (fun r m => (evE cl (.comp t it c e1 own) r m).bind ownOf) = compL (evI cl it) t (evE cl c) (evE cl e1) (own.map (·.2)) := by
    funext r m
    show (compE (evI cl it) t (evE cl c) (evE cl e1) (own.map (·.2)) r m).bind ownOf = _
    unfold compE compL
    simp only [Res.bind_assoc]
    congr
    funext xs m1
    generalize mapM' _ xs m1 = z
    cases z <;> rfl
  rw [e] at h
  exact h
structure CompOk2 (X : Cx) (W : WX) (cl : Calls) (t : CT) (it : CI) (cc : CE) (t1 : CT) (it1 : CI) (cc1 e1 : CE) (own : List (Str × Nat)) (vs1 : List Nat) (x tg iter : Expr) (ifs : List Expr) (tg1 iter1 : Expr) (ifs1 : List Expr) (scope : Scope) : Prop where
  hi : PI X tg iter (tI X.K W (evI cl it))
  ok : BlkOk X.N X.env.scope scope own
  hv : ∀ i ∈ vs1, i ∈ own.map (·.2)
  hg : ∀ (s : Shared) (H : Hp) (C : Addr) (cl' : List (Str × Addr)) (fp : List Addr), PG (X.blk s H scope (compEnvC scope cl' C X.env) fp) tg (gT X.K t)
  ht : ∀ (s : Shared) (H : Hp) (C : Addr) (cl' : List (Str × Addr)) (fp : List Addr), PTs (X.blk s H scope (compEnvC scope cl' C X.env) fp) ifs (tB' X.K Wf (evT (evE cl cc)))
  hi1 : ∀ (s : Shared) (H : Hp) (C : Addr) (cl' : List (Str × Addr)) (fp : List Addr), PI (X.blk s H scope (compEnvC scope cl' C X.env) fp) tg1 iter1 (tI X.K Wf (evI cl it1))
  hg1 : ∀ (s : Shared) (H : Hp) (C : Addr) (cl' : List (Str × Addr)) (fp : List Addr), PG (X.blk s H scope (compEnvC scope cl' C X.env) fp) tg1 (gT X.K t1)
  ht1 : ∀ (s : Shared) (H : Hp) (C : Addr) (cl' : List (Str × Addr)) (fp : List Addr), PTs (X.blk s H scope (compEnvC scope cl' C X.env) fp) ifs1 (tB' X.K Wf (evT (evE cl cc1)))
  he : ∀ (s : Shared) (H : Hp) (C : Addr) (cl' : List (Str × Addr)) (fp : List Addr), PE (X.blk s H scope (compEnvC scope cl' C X.env) fp) x (tE X.K Wf (evE cl e1))
  hs : ∀ v, foldedSetIterable iter X.env v = pure v
  hs1 : ∀ env v, foldedSetIterable iter1 env v = pure v
  ho : tIn (own.map (·.2)).contains t = true
  ho1 : tIn vs1.contains t1 = true
theorem compParts2 (o : OkX T cl n W X) {t t1 : CT} {it it1 : CI} {c c1 e1 : CE} {own : List (Str × Nat)} {vs1 : List Nat} {e : Expr} (h : chkE T X.N (.comp2 t it c t1 it1 c1 e1 own vs1) X.env.scope e = true) :
    ∃ x tg iter ifs tg1 iter1 ifs1 scope p, e = .ListComp x [⟨tg, iter, ifs, 0⟩, ⟨tg1, iter1, ifs1, 0⟩] scope p ∧ CompOk2 X W cl t it c t1 it1 c1 e1 own vs1 x tg iter ifs tg1 iter1 ifs1 scope := by
  obtain ⟨x, tg, iter, ifs, tg1, iter1, ifs1, scope, p, rfl, h2, h3, h4, h5, h6, h7, k3, k4, k5, k6, kv, k7, h8⟩ := invComp2 h
  exact ⟨x, tg, iter, ifs, tg1, iter1, ifs1, scope, p, rfl, ⟨sI it o tg iter h3, blkOk_by h2, fun i hi => by simpa using List.all_eq_true.mp kv i hi, fun s H C cl fp => sT (o.tg s H scope _ fp rfl) t tg h5, fun s H C cl' fp => ptsOf c h7 (sC c (o.blk s H scope (compEnvC scope cl' C X.env) fp)), fun s H C cl' fp => sI it1 (o.blk s H scope (compEnvC scope cl' C X.env) fp) tg1 iter1 k3, fun s H C cl fp => sT (o.tg s H scope _ fp rfl) t1 tg1 k5, fun s H C cl' fp => ptsOf c1 k7 (sC c1 (o.blk s H scope (compEnvC scope cl' C X.env) fp)), fun s H C cl' fp => sE e1 (o.blk s H scope (compEnvC scope cl' C X.env) fp) x h8, fun x => notSetF h4 _ x, fun env x => notSetF k4 env x, h6, k6⟩⟩
theorem sF0 (c : CE) (o : OkX T cl n W X) {e : Expr} (h : chkE T X.N c X.env.scope e = true) (hf : isFreshD c = true) (hn : ∀ a b, c ≠ .orT a b) : PE X e (tF X.K W (fun r m => (evE cl c r m).bind ownOf)) := by
  cases c <;> try (simp only [isFreshD, Bool.false_eq_true] at hf; done)
  · rename_i op a b
    cases op <;> try (simp only [isFreshD, Bool.false_eq_true] at hf; done)
    · cases e <;> simp only [chkE, Bool.false_eq_true] at h
      simp only [Bool.and_eq_true, beq_iff_eq] at h
      obtain ⟨⟨h1, h2⟩, h3⟩ := h
      subst h1
      exact peMono (pe_op op_cat (sE a o _ h2) (sE b o _ h3)) fun _ _ _ q => rdCatF q
    · cases e <;> simp only [chkE, Bool.false_eq_true] at h
      simp only [Bool.and_eq_true, beq_iff_eq] at h
      obtain ⟨⟨h1, h2⟩, h3⟩ := h
      subst h1
      exact peMono (pe_op op_rep (sE a o _ h2) (sE b o _ h3)) fun _ _ _ q => rdRepF q
  · exact absurd rfl (hn _ _)
  · rename_i es
    cases e <;> simp only [chkE, Bool.false_eq_true] at h
    exact peMono (pe_lst (sL es o _ h)) fun _ _ _ q => rdLstF q
  · rename_i a lo hi
    cases e <;> try (simp only [chkE, Bool.false_eq_true] at h; done)
    rename_i x y p
    cases y <;> try (simp only [chkE, Bool.false_eq_true] at h; done)
    rename_i l u st p2
    cases st <;> simp only [chkE, Bool.false_eq_true] at h
    simp only [Bool.and_eq_true] at h
    exact peMono (pe_slice sl_list (sE a o _ h.1.1) (sO lo o (sE lo o) h.1.2) (sO hi o (sE hi o) h.2)) fun _ _ _ q => rdSlcF q
  · rename_i op a
    cases op <;> try (simp only [isFreshD, Bool.false_eq_true] at hf; done)
    cases e <;> try (simp only [chkE, Bool.false_eq_true] at h; done)
    rename_i g xs kw p
    cases g <;> try (simp only [chkE, Bool.false_eq_true] at h; done)
    match xs, kw, h with
    | [y], [], h =>
      simp only [chkE, Bool.and_eq_true, beq_iff_eq] at h
      obtain ⟨⟨⟨h1, h2⟩, h3⟩, h4⟩ := h
      subst h1
      exact peMono (pe_callTy call_list_of (gl_of h2) (o.free _ (nmB .lst)) (by decide +kernel) (pa_cons (sE a o y h4) pa_nil (starOne h3 _ _)) (okN (nmOk .lst)).2.2 (okN (nmOk .lst)).1 (starOne h3 _ _) (starNone _ _ rfl)) fun _ _ _ q => rdListF q
  · obtain ⟨x, tg, iter, ifs, scope, p, rfl, k⟩ := compParts o h
    exact peMono (pe_lc o.calm o.nd k.hi k.ok k.hg k.ht k.he k.hs) fun _ _ _ q => rdComp k.ho (compOwn q)
  · obtain ⟨x, tg, iter, ifs, tg1, iter1, ifs1, scope, p, rfl, k⟩ := compParts2 o h
    exact peMono (pe_lc2 o.calm o.nd k.hi k.ok k.hv k.hg k.ht k.hi1 k.hg1 k.ht1 k.he k.hs k.hs1) fun _ _ _ q => rdComp2 k.ho k.ho1 (compOwn2 q)
theorem sF : ∀ (c : CE) (o : OkX T cl n W X) {e : Expr} (_ : chkE T X.N c X.env.scope e = true) (_ : isFreshD c = true), PE X e (tF X.K W (fun r m => (evE cl c r m).bind ownOf)) := by
  intro c
  have key : ∀ (k : Nat) (c : CE), sizeOf c ≤ k → ∀ (o : OkX T cl n W X) {e : Expr} (_ : chkE T X.N c X.env.scope e = true) (_ : isFreshD c = true), PE X e (tF X.K W (fun r m => (evE cl c r m).bind ownOf)) := by
    intro k
    induction k with
    | zero => intro c hc; cases c <;> simp at hc
    | succ k ih =>
      intro c hc o e h hf
      by_cases q : ∃ a b, c = .orT a b
      · obtain ⟨a, b, rfl⟩ := q
        cases e <;> try (simp only [chkE, Bool.false_eq_true] at h; done)
        rename_i u xs p
        cases u <;> try (simp only [chkE, Bool.false_eq_true] at h; done)
        simp only [isFreshD, Bool.and_eq_true] at hf
        simp only [CE.orT.sizeOf_spec] at hc
        match xs, h with
        | [x, y], h =>
          simp only [chkE, Bool.and_eq_true] at h
          exact peMono (pe_orT (ih a (by omega) o h.1 hf.1) (pe_one (ih b (by omega) o h.2 hf.2))) fun _ _ _ q => rdOrF q
      · exact sF0 c o h hf fun a b e => q ⟨a, b, e⟩
  exact key (sizeOf c) c (Nat.le_refl _)
end
section
variable {K : PySem.W.Frag} {ks ks1 : List Addr} {Hz H Hz1 H1 : Hp} {m1 : Mem}
/-- the cells of a call are forgotten behind it -/
theorem cutBack {n : Nat} (hn : n = ks.length) (x : Ext ks Hz H ks1 Hz1 H1) (c : CR K ks1 m1 Hz1 H1) : Ext ks Hz H ks Hz1 H1 ∧ CR K ks (m1.take n) Hz1 H1 := by
  obtain ⟨t, e⟩ := x.pre
  subst e
  refine ⟨⟨⟨[], by simp⟩, x.zs, x.fr, fun b hb => .inl hb, x.nz⟩, ⟨c.zh, ?_, (List.nodup_append.mp c.nd).1, fun k a xs h1 h2 => ?_⟩⟩
  · have := c.len
    rw [List.length_take, hn]
    simp at this
    omega
  · have hk := (List.getElem?_eq_some_iff.mp h1).1
    refine c.at_ k a xs ?_ ?_
    · rw [List.getElem?_append_left hk]; exact h1
    · rw [List.getElem?_take] at h2
      split at h2
      · exact h2
      · cases h2
end
section
variable {K : PySem.W.Frag} {W : WX} {σ : L2.St} {H : Hp}
theorem CR.cellAt {ks : List Addr} {m : Mem} {Hz : Hp} {p : Addr} (c : CR K ks m Hz H) (hn : p ∉ ks) (hz : Hz p = none) {vs : List V} {xs : List PyData} (hp : H p = some (.lst vs)) (d : RpAll K Hz vs xs) : CR K (ks ++ [p]) (m ++ [xs]) Hz H where
  zh := c.zh
  len := by simp [c.len]
  nd := by
    rw [List.nodup_append]
    refine ⟨c.nd, by simp, fun a ha b hb e => ?_⟩
    rw [List.mem_singleton.mp hb] at e
    exact hn (e ▸ ha)
  at_ := fun k a ys h1 h2 => by
    by_cases q : k < ks.length
    · rw [List.getElem?_append_left q] at h1
      rw [List.getElem?_append_left (by rw [← c.len]; exact q)] at h2
      exact c.at_ k a ys h1 h2
    · have q1 : k = ks.length := by
        have := (List.getElem?_eq_some_iff.mp h1).1
        simp at this; omega
      have q2 : k = m.length := by rw [← c.len]; exact q1
      subst q1
      rw [List.getElem?_append_right (Nat.le_refl _)] at h1
      simp at h1; subst h1
      rw [q2, List.getElem?_append_right (Nat.le_refl _)] at h2
      simp at h2; subst h2
      exact ⟨hz, vs, hp, d⟩
theorem Ext.cellAt {ks0 ks : List Addr} {Hz0 H0 Hz : Hp} {p : Addr} (x : Ext ks0 Hz0 H0 ks Hz H) (hn : H0 p = none) : Ext ks0 Hz0 H0 (ks ++ [p]) Hz H where
  pre := by
    obtain ⟨t, e⟩ := x.pre
    exact ⟨t ++ [p], by rw [e, List.append_assoc]⟩
  zs := x.zs
  fr := x.fr
  nw := fun b hb => by
    rcases List.mem_append.mp hb with hb | hb
    · exact x.nw b hb
    · rw [List.mem_singleton.mp hb]; exact .inr hn
  nz := x.nz
theorem rdCellF {ev : Ev MV} {Q : VK} (h : tF K W (fun r m => (ev r m).bind (ownCell m.length)) σ H Q) : tE K W ev σ H Q := by
  obtain ⟨ks, m, Hz, r, c, e, a⟩ := h
  refine ⟨ks, m, Hz, r, c, e, ?_⟩
  dsimp only at a
  generalize ev r m = z at a
  cases z with
  | bad => exact a.elim
  | ex cc x m1 => exact a
  | ok x m1 =>
    cases x with
    | d x => exact a.elim
    | t kvs => exact a.elim
    | s ns => exact a.elim
    | c k =>
      simp only [Res.bind, ownCell] at a
      split at a
      · rename_i hk
        split at a
        · rename_i xs hx
          intro ks1 Hz1 H1 v x1 c1 rv
          cases rv with
          | c hka =>
            rename_i p
            have hn : m.length = ks.length := c.len.symm
            obtain ⟨x2, c2⟩ := cutBack hn x1 c1
            obtain ⟨z1, vs, z2, z3⟩ := c1.at_ k p xs hka hx
            have hpm : p ∈ ks1 := List.mem_of_getElem? hka
            have hpn : p ∉ ks := fun hp => by
              obtain ⟨t, rfl⟩ := x1.pre
              rw [List.getElem?_append_right (by omega)] at hka
              have h2 := List.mem_of_getElem? hka
              exact (List.nodup_append.mp c1.nd).2.2 p hp p h2 rfl
            have h0 : H p = none := (x1.nw p hpm).resolve_left hpn
            exact a ks Hz1 H1 (.ref p) x2 c2 ⟨p, vs, rfl, z2, z3, z1, hpn, h0⟩
        · exact a.elim
      · exact a.elim
theorem rdIteF {ec : Ev MV} {ea eb : Ev (List PyData)} {Q : VK} (h : tF K W (fun r m => (ec r m).bind fun x m1 => (match x with
    | .d (.bool true) => ea r m1
    | .d (.bool false) => eb r m1
    | _ => .bad)) σ H Q) : tIf (tB' K W (evT ec)) (tF K W ea) (tF K W eb) σ H Q := by
  obtain ⟨ks, m, Hz, r, c, e, a⟩ := h
  refine ⟨ks, m, Hz, r, c, e, ?_⟩
  unfold evT
  unfold AftF at a
  have key : ∀ {ks1 : List Addr} {Hz1 H1 : Hp} {m1 : Mem} {z : Res (List PyData)}, Ext ks Hz H ks1 Hz1 H1 → CR K ks1 m1 Hz1 H1 → Aft K (RF K ks H) W ks Hz H σ Q z → AftF K W ks1 Hz1 H1 σ Q z := fun {ks1 Hz1 H1 m1 z} x1 c1 a => by
    cases z with
    | bad => exact a
    | ex cc x m2 => exact fun k2 z2 h2 d e2 c q => a k2 z2 h2 d (x1.trans e2) c q
    | ok x m2 =>
      intro k2 z2 h2 b e2 c q
      obtain ⟨p, vs, rfl, q1, q2, q3, q4, q5⟩ := q
      exact a k2 z2 h2 _ (x1.trans e2) c ⟨p, vs, rfl, q1, q2, q3, q4, extNone x1 c1 q5⟩
  dsimp only at a
  cases q : ec r m with
  | bad => rw [q] at a; exact a.elim
  | ex cc x m1 => rw [q] at a; exact a
  | ok x m1 =>
    rw [q] at a
    cases x with
    | d x =>
      cases x with
      | bool b =>
        intro ks1 Hz1 H1 b' x1 c1 hb
        have hb' : b' = b := hb
        subst hb'
        cases b' with
        | true => exact ⟨ks1, m1, Hz1, r, c1, e.up x1, key x1 c1 a⟩
        | false => exact ⟨ks1, m1, Hz1, r, c1, e.up x1, key x1 c1 a⟩
      | _ => exact a.elim
    | _ => exact a.elim
theorem rdRetF {ef : Ev (List PyData)} {D : Ends} (h : tS K W (fun r m => .of (ef r m) r fun xs m1 => .rt (.c m1.length) (m1 ++ [xs])) D σ H) : tRet (tF K W ef) D σ H := by
  obtain ⟨ks0, Hz0, H0, Z, ks, m, Hz, r, b, a⟩ := h
  refine ⟨ks, m, Hz, r, b.c, b.e, AftS.of b a fun xs m1 ks1 Hz1 H1 v _ x1 c1 rv a1 => ?_⟩
  obtain ⟨p, vs, rfl, h1, h2, h3, h4, h5⟩ := rv
  refine a1 (ks1 ++ [p]) Hz1 H1 (.ref p) ((b.x.trans x1).cellAt (extNone b.x b.c h5)) (b.z.trans x1.zs) (c1.cellAt h4 h3 h1 h2) (.c ?_)
  rw [← c1.len, List.getElem?_append_right (Nat.le_refl _)]
  simp
theorem rdRetC {i : Nat} {D : Ends} (h : tS K W (fun r m => (match r[i]? with
    | some (.own xs) => .rt (.c m.length) (m ++ [xs])
    | _ => .bad)) D σ H) : tRet (tVar i) D σ H := by
  obtain ⟨ks0, Hz0, H0, Z, ks, m, Hz, r, b, a⟩ := h
  dsimp only at a
  cases hr : r[i]? with
  | none => simp only [hr] at a; exact a.elim
  | some s =>
    cases s with
    | own xs =>
      simp only [hr] at a
      have z := b.e.at_ i _ hr
      generalize ho : σ[i]? = o at z
      cases z with
      | own h1 h2 h3 h4 =>
        rename_i p vs
        refine ⟨_, ho, a (ks ++ [p]) Hz H (.ref p) (b.x.cellAt (b.o i xs p hr ho)) b.z (b.c.cellAt h4 h3 h1 h2) (.c ?_)⟩
        rw [← b.c.len, List.getElem?_append_right (Nat.le_refl _)]
        simp
    | _ => simp only [hr] at a; exact a.elim
end
section
variable {T : Tab} {cl : Calls} {n : Nat} {W : WX} {X : Cx}
theorem ownE_D : ∀ {c : CE}, isFreshD c = true → ownE cl c = fun r m => (evE cl c r m).bind ownOf := fun {c} h => by
  cases c <;> first | rfl | (simp [isFreshD] at h)
theorem sFN : ∀ (c : CE) (o : OkX T cl n W X) {e : Expr} (_ : chkE T X.N c X.env.scope e = true) (_ : isFresh c = true), PE X e (tF X.K W (ownE cl c)) := by
  intro c
  have key : ∀ (k : Nat) (c : CE), sizeOf c ≤ k → ∀ (o : OkX T cl n W X) {e : Expr} (_ : chkE T X.N c X.env.scope e = true) (_ : isFresh c = true), PE X e (tF X.K W (ownE cl c)) := by
    intro k
    induction k with
    | zero => intro c hc; cases c <;> simp at hc
    | succ k ih =>
      intro c hc o e h hf
      by_cases q : ∃ t a b, c = .ite t a b
      · obtain ⟨t, a, b, rfl⟩ := q
        cases e <;> try (simp only [chkE, Bool.false_eq_true] at h; done)
        simp only [chkE, Bool.and_eq_true] at h
        simp only [isFresh, Bool.and_eq_true] at hf
        simp only [CE.ite.sizeOf_spec] at hc
        exact peMono (pe_ifExp (sC t o _ h.1.1) (ih a (by omega) o h.1.2 hf.1) (ih b (by omega) o h.2 hf.2)) fun _ _ _ q => rdIteF q
      · cases c with
        | call f es => exact peMono (sE (.call f es) o e h) fun _ _ _ q => rdCellF q
        | callk f es ks ns => exact peMono (sE (.callk f es ks ns) o e h) fun _ _ _ q => rdCellF q
        | ite t a b => exact absurd ⟨t, a, b, rfl⟩ q
        | _ =>
          have hd : isFreshD _ = true := hf
          rw [ownE_D hd]
          exact sF _ o h hd
  exact key (sizeOf c) c (Nat.le_refl _)
theorem sP : ∀ (c : CL) (bs : List Bool) (o : OkX T cl n W X) (xs : List Expr), chkP T X.N c bs X.env.scope xs = true → PA X xs (tSl X.K W (evP cl c bs))
  | .nil, bs, o, xs, h => by
    match bs, xs, h with
    | [], [], h => exact paMono pa_nil fun _ _ _ q => rdNilS q
    | _ :: _, _, h => simp [chkP] at h
    | [], _ :: _, h => simp [chkP] at h
  | .cons e es, bs, o, xs, h => by
    match bs, xs, h with
    | [], _, h => simp [chkP] at h
    | _ :: _, [], h => simp [chkP] at h
    | false :: bs, x :: xs, h =>
      simp only [chkP, Bool.and_eq_true] at h
      exact paMono (pa_cons (sE e o x h.1.2) (sP es bs o xs h.2) (starOne h.1.1 _ _)) fun _ _ _ q => rdConsV q
    | true :: bs, x :: xs, h =>
      simp only [chkP, Bool.and_eq_true] at h
      exact paMono (pa_cons (sFN e o h.1.1.2 h.1.2) (sP es bs o xs h.2) (starOne h.1.1.1 _ _)) fun _ _ _ q => rdConsO q
  | .star _ _, bs, o, xs, h => by simp [chkP] at h
theorem evP_noStar (es : CL) : ∀ (bs : List Bool) (sc : Scope) (xs : List Expr), chkP T X.N es bs sc xs = true → True := fun _ _ _ _ => trivial
end
/-- a def's own block -/
structure OkS (T : Tab) (cl : Calls) (n : Nat) (W : WX) (X : Cx) : Prop extends OkX T cl n W X where
  fn : ∀ x, X.fn x = true
  kind : X.env.scope.kind = .function
  hp : PassesOwn (model X.prog X.w) X.A X.env X.xe
  stk : X.stack = X.env :: X.outer
  frm : X.env.frame = some X.env.locals
theorem OkS.tr {T : Tab} {cl : Calls} {n : Nat} {W W' : WX} {X : Cx} (o : OkS T cl n W X) (pn : List (Addr × Obj)) (xe : Value → Shared → Prop) (tk : Takes (X.tr pn xe) W') (hp : PassesOwn (model X.prog X.w) X.A X.env xe) : OkS T cl n W' (X.tr pn xe) :=
  ⟨⟨o.calm, o.nd, o.room, tk, o.free, o.kon, o.exk, o.exf, o.zon, o.don, o.tpd, o.fns⟩, o.fn, o.kind, hp, o.stk, o.frm⟩
section
variable {T : Tab} {cl : Calls} {n : Nat} {W : WX} {X : Cx}
theorem OkS.tg (o : OkS T cl n W X) : TgOk X X.env.scope := ⟨o.nd, o.calm, fun x h => ⟨loc_of h, .inl (o.fn x)⟩⟩
theorem pssMono {e : List Stmt} {t t' : TS} (h : PSs X e t) (f : ∀ D σ H, t' D σ H → t D σ H) : PSs X e t' := ⟨fun pins s σ H D I q => h.run pins s σ H D I (f D σ H q)⟩
theorem sw_plain {e : Expr} (h : ∀ x gs sc p, e ≠ .ListComp x gs sc p) (h2 : ∀ x gs sc p, e ≠ .SetComp x gs sc p) (h3 : ∀ x y gs sc p, e ≠ .DictComp x y gs sc p) (t : Option Expr) (l : Nat) (env : Env) : swapsWith e t l env = pure false := by
  cases e <;> first | rfl | (exact absurd rfl (h _ _ _ _)) | (exact absurd rfl (h2 _ _ _ _)) | (exact absurd rfl (h3 _ _ _ _ _))
theorem notCompSw {e : Expr} (h : notComp e = true) (t : Option Expr) (l : Nat) (env : Env) : swapsWith e t l env = pure false := by
  cases e <;> first | rfl | (simp [notComp] at h)
theorem sw_comp (hk : X.env.scope.kind = .function) {x : Expr} {gs : List Comprehension} {sc : Scope} {p pos : Pos} {t : Str} {l : Nat} :
    swapsWith (.ListComp x gs sc p) (some (.Name t pos)) l X.env = pure (X.env.scope.names.lookup t == some .local && pos.line == p.line && !(sc.names.any fun (n, k) => n == t && (k == .local || k == .cell))) := by
  have hbk := bk_of hk
  unfold swapsWith
  simp only [hbk, Expr.pos]
  rfl
/-- what a term stands for is no set's or dict's comprehension -/
theorem chkE_form {c : CE} {N : List Str} {sc : Scope} {e : Expr} (h : chkE T N c sc e = true) : (∀ x gs sc p, e ≠ .SetComp x gs sc p) ∧ (∀ x y gs sc p, e ≠ .DictComp x y gs sc p) ∧ ((∀ x gs sc p, e ≠ .ListComp x gs sc p) ∨ (∃ t it cc e1 own, c = .comp t it cc e1 own) ∨ ∃ t it cc t1 it1 cc1 e1 own vs1, c = .comp2 t it cc t1 it1 cc1 e1 own vs1) := by
  refine ⟨fun x gs s p q => ?_, fun x y gs s p q => ?_, ?_⟩
  · subst q; cases c <;> simp [chkE, notComp] at h
  · subst q; cases c <;> simp [chkE, notComp] at h
  · by_cases q : ∃ x gs s p, e = .ListComp x gs s p
    · obtain ⟨x, gs, s, p, rfl⟩ := q
      refine .inr ?_
      cases c <;> first | exact .inl ⟨_, _, _, _, _, rfl⟩ | exact .inr ⟨_, _, _, _, _, _, _, _, _, rfl⟩ | (simp [chkE, notComp] at h; done)
    · exact .inl fun x gs s p z => q ⟨x, gs, s, p, z⟩
/-- name = value, whatever the value -/
theorem sAsg (o : OkS T cl n W X) {i : Nat} {x : Str} {c : CE} {v : Expr} {px pos : Pos} {te : TE} (h1 : X.N[i]? = some x) (h2 : locB X.env.scope x = true) (h3 : chkE T X.N c X.env.scope v = true) (hv : PE X v te)
    (hc : ∀ t it cc e1 own, c = .comp t it cc e1 own → ∀ σ H Q, te σ H Q → tF X.K W (compL (evI cl it) t (evE cl cc) (evE cl e1) (own.map (·.2))) σ H Q)
    (hc2 : ∀ t it cc t1 it1 cc1 e1 own vs1, c = .comp2 t it cc t1 it1 cc1 e1 own vs1 → ∀ σ H Q, te σ H Q → tF X.K W (comp2L (evI cl it) t (evE cl cc) t1 (evI cl it1) (evE cl cc1) (evE cl e1) (own.map (·.2)) vs1) σ H Q) : PS X (.Assign [.Name x px] v pos) (tAsg te (gName i)) := by
  obtain ⟨f1, f2, f3⟩ := chkE_form h3
  have hl : ∀ b : Bool, (X.env.scope.names.lookup x == some .local && b) = true → X.env.scope.names.lookup x = some .local := fun b hb => by
    simp only [Bool.and_eq_true, beq_iff_eq] at hb
    exact hb.1
  rcases f3 with f3 | ⟨t, it, cc, e1, own, rfl⟩ | ⟨t, it, cc, t1, it1, cc1, e1, own, vs1, rfl⟩
  · exact ps_set o.nd h1 (loc_of h2) hv (sw_plain f3 f1 f2 _ _ _) (.inl (o.fn x))
  · obtain ⟨w, tg, iter, ifs, scope, p, rfl, k⟩ := compParts (W := W) o.toOkX h3
    cases hb : (X.env.scope.names.lookup x == some .local && px.line == p.line && !(scope.names.any fun (n, k) => n == x && (k == .local || k == .cell))) with
    | false => exact ps_set o.nd h1 (loc_of h2) hv (by rw [sw_comp o.kind, hb]) (.inl (o.fn x))
    | true => exact psMono (ps_setLc o.calm o.nd h1 (hl _ (by rw [Bool.and_assoc] at hb; exact hb)) (by rw [sw_comp o.kind, hb]) k.hi k.ok k.hg k.ht k.he k.hs) fun D σ H q => rdComp k.ho (hc t it cc e1 own rfl _ _ _ q)
  · obtain ⟨w, tg, iter, ifs, tg1, iter1, ifs1, scope, p, rfl, k⟩ := compParts2 (W := W) o.toOkX h3
    cases hb : (X.env.scope.names.lookup x == some .local && px.line == p.line && !(scope.names.any fun (n, k) => n == x && (k == .local || k == .cell))) with
    | false => exact ps_set o.nd h1 (loc_of h2) hv (by rw [sw_comp o.kind, hb]) (.inl (o.fn x))
    | true => exact psMono (ps_setLc2 o.calm o.nd h1 (hl _ (by rw [Bool.and_assoc] at hb; exact hb)) (by rw [sw_comp o.kind, hb]) k.hi k.ok k.hv k.hg k.ht k.hi1 k.hg1 k.ht1 k.he k.hs k.hs1) fun D σ H q => rdComp2 k.ho k.ho1 (hc2 t it cc t1 it1 cc1 e1 own vs1 rfl _ _ _ q)
/-- a slot is forgotten -/
theorem StB.gone {K : PySem.W.Frag} {ks0 ks : List Addr} {Hz0 H0 Z Hz H : Hp} {m : Mem} {r : Env'} {σ : L2.St} (b : StB K ks0 Hz0 H0 Z ks m Hz H r σ) (i : Nat) (o : Option V) : StB K ks0 Hz0 H0 Z ks m Hz H (r.set i .un) (σ.set i o) := by
  refine ⟨b.x, b.z, b.c, ⟨by simp [b.e.len], fun j s h => ?_, fun j k xs ys hjk e1 e2 => ?_⟩, fun j xs p e1 e2 => ?_⟩
  · by_cases q : i = j
    · subst q
      have hi : i < r.length := by
        have := (List.getElem?_eq_some_iff.mp h).1
        simpa using this
      rw [List.getElem?_set_self hi] at h
      cases h
      exact .un _
    · rw [List.getElem?_set_ne q] at h ⊢
      exact b.e.at_ j s h
  · by_cases q : i = j
    · subst q
      by_cases hi : i < r.length
      · rw [List.getElem?_set_self hi] at e1; cases e1
      · rw [List.getElem?_eq_none (by simpa using hi)] at e1; cases e1
    · by_cases q2 : i = k
      · subst q2
        by_cases hi : i < r.length
        · rw [List.getElem?_set_self hi] at e2; cases e2
        · rw [List.getElem?_eq_none (by simpa using hi)] at e2; cases e2
      · rw [List.getElem?_set_ne q] at e1 ⊢
        rw [List.getElem?_set_ne q2] at e2 ⊢
        exact b.e.ds j k xs ys hjk e1 e2
  · by_cases q : i = j
    · subst q
      by_cases hi : i < r.length
      · rw [List.getElem?_set_self hi] at e1; cases e1
      · rw [List.getElem?_eq_none (by simpa using hi)] at e1; cases e1
    · rw [List.getElem?_set_ne q] at e1 e2
      exact b.o j xs p e1 e2
/-- what an except suite of one statement asks -/
def tHnd (K : PySem.W.Frag) (c : Str) (i : Nat) (k : Option Nat) (hs : List HE) (a : Addr) (cls : Value) (d : Option Addr) : TS := fun D σ H => (cls = .ref (He.ga K c) ∧ d = none) ∧ (match k with
    | none => tRet (tLst (tHs K (He.ga K c) a i hs))
    | some j => tAsg (tLst (tHs K (He.ga K c) a i hs)) (gName j)) D σ H
theorem suiteOk (o : OkS T cl n W X) {c n1 : Str} {i : Nat} {k : Option Nat} {hs : List HE} {st : Stmt} (hc : c ∈ T.xs) (hi : X.N[i]? = some n1) (hv : visB X.env.scope n1 = true) (hn : okName n1 = true) (h : chkHk X.N X.env.scope n1 i k hs st = true)
    (a : Addr) (oe : Obj) (cls : Value) (d : Option Addr) (pn : List (Addr × Obj)) (hz : Zc cls d oe) (hf : ∃ vs, oe.data = .fields vs) : PSs (X.suite a ((a, oe) :: pn)) [st] (tHnd X.K c i k hs a cls d) := by
  refine ⟨fun pins s σ H D I q => ?_⟩
  obtain ⟨⟨e1, e2⟩, q⟩ := q
  subst e1 e2
  have fx := o.exk c hc
  have fi := o.free "isinstance" (by decide +kernel)
  have fv := o.free "ValueError" (by decide +kernel)
  unfold chkHk at h
  split at h
  · rename_i es p1 p2
    simp only [Bool.and_eq_true, Option.isNone_iff_eq_none] at h
    obtain ⟨h1, h2⟩ := h
    subst h1
    exact (pss_one (ps_ret (pe_lst (paH fx.c hz hf hi hv hn fi fv hs es h2)))).run pins s σ H D I q
  · rename_i y py es p1 p2
    cases k with
    | none => cases h
    | some j =>
      simp only [Bool.and_eq_true, beq_iff_eq] at h
      obtain ⟨⟨⟨h1, h2⟩, h3⟩, h4⟩ := h
      exact (pss_one (ps_set (X := X.suite a ((a, oe) :: pn)) o.nd h1 (loc_of h2) (pe_lst (paH fx.c hz hf hi hv hn fi fv hs es h4)) rfl (.inl (o.fn y)))).run pins s σ H D I q
  · cases h
theorem rdTry {K : PySem.W.Frag} {Wo : WX} {D : Ends} {σ : L2.St} {H : Hp} {eb : Env' → Mem → SRes} {c : Str} {i : Nat} {xs : List Str} {k : Option Nat} {hs : List HE} {mg : Str → Option Value} {ys : List Str} (hx : ∀ x ∈ xs, ExK ys K mg x) (hc : c ∈ ys) (hc2 : ExK ys K mg c) (hl : hs.length ≤ 100)
    (h : tS K Wo (fun r m => exS c i xs k hs (eb r m)) D σ H) : tS K (wAs K (.ref (He.ga K c)) i (tHnd K c i k hs) Wo D) eb D σ H := by
  obtain ⟨ks0, Hz0, H0, Z, ks, m, Hz, r, b, a⟩ := h
  refine ⟨ks0, Hz0, H0, Z, ks, m, Hz, r, b, ?_⟩
  dsimp only at a
  generalize eb r m = z at a
  cases z with
  | nx r1 m1 => exact a
  | rt x m1 => exact a
  | bk r1 m1 => exact a
  | ct r1 m1 => exact a
  | bad => exact a
  | ex c1 x r1 m1 =>
    simp only [exS] at a
    by_cases q : xs.contains c1 = true
    · rw [if_pos q] at a
      have f1 := hx c1 (by simpa using q)
      intro ks1 Hz1 H1 d σ1 b1 xr
      refine ⟨c1 == c, f1.m c hc, fun e => ?_, fun e => ?_⟩
      · have ec : c1 = c := by simpa using e
        subst ec
        rw [if_pos e] at a
        intro ad na
        cases x with
        | some y => exact a.elim
        | none =>
          have hd : d = none := xr
          subst hd
          have hlen : (hs.map heV).length ≤ sizeLine := by
            have : (100 : Nat) ≤ sizeLine := by decide
            simp; omega
          have key : ∀ (Q : V → Hp → Prop) (hi : i < σ1.length), (∀ p, H1 p = none → Q (.ref p) (upd H1 p (.lst (hs.map heV)))) → tLst (tHs K (He.ga K c1) ad i hs) (σ1.set i (some (.ref ad))) H1 Q := fun Q hi q => by
            refine rdH (a := ad) (by rw [List.getElem?_set_self hi]) f1.v hs _ ⟨hlen, q⟩
          simp only [hndS] at a
          cases k with
          | none =>
            dsimp only at a
            by_cases hi : i < r1.length
            · rw [if_pos hi] at a
              exact ⟨⟨rfl, rfl⟩, key D.rt (by rw [← b1.e.len]; exact hi) fun p np => a ks1 _ _ (.ref p) (b1.x.trans (Ext.new b1.c np _)) (b1.z.trans (Ext.new b1.c np _).zs) (b1.c.new np _) (.d (rpLst b1.c np (rpH hs)))⟩
            · rw [if_neg hi] at a; exact a.elim
          | some j =>
            dsimp only at a
            by_cases hi : j < r1.length ∧ i < r1.length ∧ i ≠ j
            · rw [if_pos hi] at a
              refine ⟨⟨rfl, rfl⟩, key _ (by rw [← b1.e.len]; exact hi.2.1) fun p np => ?_⟩
              have b2 := b1.up (Ext.new b1.c np (.lst (hs.map heV))) (b1.c.new np (.lst (hs.map heV)))
              have b3 := b2.set (x := .d (.list (hs.map heD))) hi.1 (.d (rpLst b1.c np (rpH hs)))
              have b4 := b3.gone i none
              have e1 : ((σ1.set i (some (V.ref ad))).set j (some (V.ref p))).set i none = (σ1.set j (some (V.ref p))).set i none := by
                rw [List.set_comm _ _ hi.2.2, List.set_set]
              show D.nx (((σ1.set i (some (V.ref ad))).set j (some (V.ref p))).set i none) _
              rw [e1]
              exact a ks1 _ _ _ b4
            · rw [if_neg hi] at a; exact a.elim
      · rw [if_neg (by simp [e])] at a
        exact a ks1 Hz1 H1 d σ1 b1 xr
    · rw [if_neg q] at a
      exact a.elim
/-- a suite of one statement, with the field -/
theorem suiteOkW (o : OkS T cl n W X) {q : Clz} {n1 : Str} {st : Stmt} (hc : T.cs.contains q.c = true) (hq : q.hs.all (hfOk T q.c) = true) (hi : X.N[q.i]? = some n1) (hv : visB X.env.scope n1 = true) (hn : okName n1 = true) (h : chkHkW X.N X.env.scope n1 q.i q.k q.hs st = true)
    (a : Addr) (oe : Obj) (cls : Value) (d : Option Addr) (pn : List (Addr × Obj)) (hz : Zc cls d oe) (hf : ∃ vs, oe.data = .fields vs) : PSs (X.suite a ((a, oe) :: pn)) [st] (tHndW X.K q a cls d) := by
  refine ⟨fun pins s σ H D I z => ?_⟩
  obtain ⟨e1, z⟩ := z
  subst e1
  have fi := o.free "isinstance" (by decide +kernel)
  have fv := o.free "ValueError" (by decide +kernel)
  have fl := o.free "LookupError" (by decide +kernel)
  have C : ExcC X.K (He.ga X.K q.c) := by
    have hm : q.c ∈ T.xs ++ T.fx.map (·.1) := by simpa [Tab.cs] using hc
    rcases List.mem_append.mp hm with hm | hm
    · exact (o.exk _ hm).c
    · obtain ⟨p, hp, e⟩ := List.mem_map.mp hm
      rw [← e]; exact (o.exf p hp).c
  have hno : ∀ f, HF.num f ∈ q.hs → PySem.W.findIn X.K (.ref (He.ga X.K q.c)) f = some none ∧ XfC X.K (He.ga X.K q.c) := fun f hm => by
    have e := List.all_eq_true.mp hq _ hm
    simp only [hfOk, beq_iff_eq] at e
    have F := o.exf (q.c, f) (PySem.mem_of_lookup e)
    exact ⟨F.no, F.xf⟩
  unfold chkHkW at h
  split at h
  · rename_i es p1 p2
    simp only [Bool.and_eq_true, Option.isNone_iff_eq_none] at h
    obtain ⟨h1, h2⟩ := h
    rw [h1] at z
    exact (pss_one (ps_ret (pe_lst (paW C hz hf hi hv hn fi fv fl q.hs hno es h2)))).run pins s σ H D I z
  · rename_i y py es p1 p2
    cases hk : q.k with
    | none => rw [hk] at h; cases h
    | some j =>
      rw [hk] at h z
      simp only [Bool.and_eq_true, beq_iff_eq] at h
      obtain ⟨⟨⟨h1, h2⟩, h3⟩, h4⟩ := h
      exact (pss_one (ps_set (X := X.suite a ((a, oe) :: pn)) o.nd h1 (loc_of h2) (pe_lst (paW C hz hf hi hv hn fi fv fl q.hs hno es h4)) rfl (.inl (o.fn y)))).run pins s σ H D I z
  · cases h
theorem clsOk (o : OkS T cl n W X) : ∀ (qs : List Clz) (hds : List ExceptHandler), chkCl T X.N X.env.scope qs hds = true → ClsOk X hds (qs.map (clOf X.K))
  | [], hds, h => by
    cases hds with
    | nil => exact .nil
    | cons _ _ => simp [chkCl] at h
  | q :: qs, hds, h => by
    unfold chkCl at h
    split at h
    · rename_i e1; cases e1
    · rename_i q' qs' x p1 n1 st p2 hds' e1
      cases e1
      simp only [Bool.and_eq_true, beq_iff_eq, decide_eq_true_eq] at h
      obtain ⟨⟨⟨⟨⟨⟨⟨⟨⟨⟨h1, h2⟩, h3⟩, h4⟩, h5⟩, h6⟩, h7⟩, h8⟩, h9⟩, h10⟩, h11⟩ := h
      subst h1
      have hv : visB X.env.scope n1 = true := by simp [visB, h6]
      have hg : X.mg q.c = some (.ref (He.ga X.K q.c)) := by
        have hm : q.c ∈ T.xs ++ T.fx.map (·.1) := by simpa [Tab.cs] using h4
        rcases List.mem_append.mp hm with hm | hm
        · exact (o.exk _ hm).g
        · obtain ⟨p, hp, e⟩ := List.mem_map.mp hm
          rw [← e]; exact (o.exf p hp).g
      exact .cons h5 h6 ⟨gl_of h2, (okN h3).1, .inl hg⟩ (suiteOkW o h4 h9 h5 hv h7 h10) (clsOk o qs hds' h11)
    · cases h
/-- what is raised with a field -/
theorem rdRaiseF {K : PySem.W.Frag} {W : WX} {D : Ends} {c f : Str} {e : CE} {σ : L2.St} {H : Hp} (h : tS K W (evS cl (.raise c (.tup (.cons (.ks f) (.cons e .nil))))) D σ H) : tFld (He.ga K c) f (tE K W (evE cl e)) σ H (fun cls d H' => W cls d σ H') := by
  obtain ⟨ks0, Hz0, H0, Z, ks, m, Hz, r, b, a⟩ := h
  refine ⟨ks, m, Hz, r, b.c, b.e, ?_⟩
  have e1 : evS cl (.raise c (.tup (.cons (.ks f) (.cons e .nil)))) r m = .of (evE cl e r m) r fun x m1 => (match x with
      | .d x => .ex c (some (.tuple [.str f, x])) r m1
      | _ => .bad) := by
    simp only [evS, evE, evL, Res.bind_ok]
    generalize evE cl e r m = z
    cases z with
    | ok x m1 =>
      cases x with
      | d x =>
        have : (2 : Nat) ≤ sizeLine := by decide
        simp [SRes.of, this]
      | _ => rfl
    | ex _ _ _ => rfl
    | bad => rfl
  rw [e1] at a
  refine AftS.of b a fun x m1 ks1 Hz1 H1 v _ x1 c1 rv a1 => ?_
  cases x with
  | d x =>
    intro d nd
    exact a1 ks1 Hz1 _ (some d) σ (b.up (x1.trans (Ext.fresh nd _)) (c1.fresh nd _)) ⟨d, v, rfl, upd_same, rv.rp⟩
  | _ => exact a1.elim
theorem clFacts (o : OkS T cl n W X) : ∀ (qs : List Clz) (hds : List ExceptHandler), chkCl T X.N X.env.scope qs hds = true → (∀ x, T.cs.contains x = true → ∀ q ∈ qs, PySem.W.exmOne X.K (.ref (He.ga X.K x)) (.ref (He.ga X.K q.c)) = some (x == q.c)) ∧
    ∀ q ∈ qs, q.hs.length ≤ 100 ∧ (HF.isv ∈ q.hs → PySem.W.kitOne X.K (.ref (He.ga X.K q.c)) (.type "ValueError") = some true) ∧ (HF.isl ∈ q.hs → PySem.W.kitOne X.K (.ref (He.ga X.K q.c)) (.type "LookupError") = some true)
  | [], hds, h => ⟨fun _ _ q hq => (nomatch hq), fun q hq => (nomatch hq)⟩
  | q :: qs, hds, h => by
    unfold chkCl at h
    split at h
    · rename_i e1; cases e1
    · rename_i q' qs' x p1 n1 st p2 hds' e1
      cases e1
      simp only [Bool.and_eq_true, beq_iff_eq, decide_eq_true_eq] at h
      obtain ⟨⟨⟨⟨⟨⟨⟨⟨⟨⟨h1, h2⟩, h3⟩, h4⟩, h5⟩, h6⟩, h7⟩, h8⟩, h9⟩, h10⟩, h11⟩ := h
      obtain ⟨g1, g2⟩ := clFacts o qs hds' h11
      refine ⟨fun x hx p hp => ?_, fun p hp => ?_⟩
      · rcases List.mem_cons.mp hp with rfl | hp
        · have hm : x ∈ T.xs ++ T.fx.map (·.1) := by simpa [Tab.cs] using hx
          have hcm : p.c ∈ T.cs := by simpa using h4
          rcases List.mem_append.mp hm with hm | hm
          · exact (o.exk _ hm).m _ hcm
          · obtain ⟨z, hz, e⟩ := List.mem_map.mp hm
            subst e
            exact (o.exf z hz).m _ hcm
        · exact g1 x hx p hp
      · rcases List.mem_cons.mp hp with rfl | hp
        · refine ⟨h8, fun hm => ?_, fun hm => ?_⟩
          · have e := List.all_eq_true.mp h9 _ hm
            exact (o.exk _ (by simpa [hfOk] using e)).v
          · have e := List.all_eq_true.mp h9 _ hm
            simp only [hfOk] at e
            obtain ⟨f, hf⟩ := Option.isSome_iff_exists.mp e
            exact (o.exf (p.c, f) (PySem.mem_of_lookup hf)).v
        · exact g2 p hp
    · cases h
/-- a clause is taken -/
theorem rdClz {K : PySem.W.Frag} {Wo : WX} {D : Ends} {ks0 ks1 : List Addr} {Hz0 H0 Z Hz1 H1 : Hp} {m1 : Mem} {r1 : Env'} {σ1 : L2.St} {x : Option PyData} {d : Option Addr} {q : Clz} (b1 : StB K ks0 Hz0 H0 Z ks1 m1 Hz1 H1 r1 σ1) (xr : XR K Hz1 H1 x d) (hl : q.hs.length ≤ 100)
    (hv : HF.isv ∈ q.hs → PySem.W.kitOne K (.ref (He.ga K q.c)) (.type "ValueError") = some true) (hL : HF.isl ∈ q.hs → PySem.W.kitOne K (.ref (He.ga K q.c)) (.type "LookupError") = some true) (a : AftS K Wo ks0 Hz0 H0 Z D (hndN q x r1 m1)) (ad : Addr) :
    tHndW K q ad (.ref (He.ga K q.c)) d { nx := fun σ' H' => D.nx (σ'.set q.i none) H', rt := D.rt, bk := fun σ' H' => D.bk (σ'.set q.i none) H', ct := fun σ' H' => D.ct (σ'.set q.i none) H' } (σ1.set q.i (some (.ref ad))) H1 := by
  unfold hndN at a
  cases hd : hfDs x q.hs with
  | none => rw [hd] at a; exact a.elim
  | some ds =>
    rw [hd] at a
    dsimp only at a
    obtain ⟨v, hx1, hx2, hx3⟩ : ∃ v : V, (∀ b, d = some b → ∃ f, H1 b = some (.xd [(f, v)])) ∧ (∀ f, HF.num f ∈ q.hs → ∃ b, d = some b ∧ H1 b = some (.xd [(f, v)])) ∧ ∀ f e, x = some (.tuple [.str f, e]) → Rp K Hz1 v e := by
      cases x with
      | none =>
        have hdn : d = none := xr
        subst hdn
        refine ⟨.non, fun b e => (nomatch e), fun f hm => ?_, fun f e h => (nomatch h)⟩
        obtain ⟨_, h⟩ := hfDs_num hd hm
        cases h
      | some y =>
        unfold XR at xr
        split at xr
        · rename_i e1; cases e1
        · rename_i f e e1
          cases e1
          obtain ⟨aa, v, rfl, h2, h3⟩ := xr
          refine ⟨v, fun b e => by cases e; exact ⟨f, h2⟩, fun g hm => ?_, fun g e' h => by cases h; exact h3⟩
          obtain ⟨d', h⟩ := hfDs_num hd hm
          cases h
          exact ⟨aa, rfl, h2⟩
        · exact xr.elim
    have rp := hfDs_rp hx3 hd
    have hlen : (q.hs.map (hfV v)).length ≤ sizeLine := by
      have : (100 : Nat) ≤ sizeLine := by decide
      simp; omega
    have key : ∀ (Q : V → Hp → Prop) (hi : q.i < σ1.length), (∀ p, H1 p = none → Q (.ref p) (upd H1 p (.lst (q.hs.map (hfV v))))) → tLst (tWs K (He.ga K q.c) ad (.ref (He.ga K q.c)) d q.i q.hs) (σ1.set q.i (some (.ref ad))) H1 Q := fun Q hi z =>
      rdW (v := v) (by rw [List.getElem?_set_self hi]) hx1 q.hs hv hL hx2 _ ⟨hlen, z⟩
    refine ⟨rfl, ?_⟩
    cases hk : q.k with
    | none =>
      rw [hk] at a
      dsimp only at a ⊢
      by_cases hi : q.i < r1.length
      · rw [if_pos hi] at a
        exact key D.rt (by rw [← b1.e.len]; exact hi) fun p np => a ks1 _ _ (.ref p) (b1.x.trans (Ext.new b1.c np _)) (b1.z.trans (Ext.new b1.c np _).zs) (b1.c.new np _) (.d (rpLst b1.c np rp))
      · rw [if_neg hi] at a; exact a.elim
    | some j =>
      rw [hk] at a
      dsimp only at a ⊢
      by_cases hi : j < r1.length ∧ q.i < r1.length ∧ q.i ≠ j
      · rw [if_pos hi] at a
        refine key _ (by rw [← b1.e.len]; exact hi.2.1) fun p np => ?_
        have b2 := b1.up (Ext.new b1.c np (.lst (q.hs.map (hfV v)))) (b1.c.new np (.lst (q.hs.map (hfV v))))
        have b3 := b2.set (x := .d (.list ds)) hi.1 (.d (rpLst b1.c np rp))
        have b4 := b3.gone q.i none
        have e1 : ((σ1.set q.i (some (V.ref ad))).set j (some (V.ref p))).set q.i none = (σ1.set j (some (V.ref p))).set q.i none := by
          rw [List.set_comm _ _ hi.2.2, List.set_set]
        show D.nx (((σ1.set q.i (some (V.ref ad))).set j (some (V.ref p))).set q.i none) _
        rw [e1]
        exact a ks1 _ _ _ b4
      · rw [if_neg hi] at a; exact a.elim
theorem wAllOk {K : PySem.W.Frag} {Wo : WX} {D : Ends} {ks0 ks1 : List Addr} {Hz0 H0 Z Hz1 H1 : Hp} {m1 : Mem} {r1 : Env'} {σ1 : L2.St} {x : Option PyData} {d : Option Addr} {c1 : Str} (b1 : StB K ks0 Hz0 H0 Z ks1 m1 Hz1 H1 r1 σ1) (xr : XR K Hz1 H1 x d) :
    ∀ qs : List Clz, (∀ q ∈ qs, PySem.W.exmOne K (.ref (He.ga K c1)) (.ref (He.ga K q.c)) = some (c1 == q.c)) →
    (∀ q ∈ qs, q.hs.length ≤ 100 ∧ (HF.isv ∈ q.hs → PySem.W.kitOne K (.ref (He.ga K q.c)) (.type "ValueError") = some true) ∧ (HF.isl ∈ q.hs → PySem.W.kitOne K (.ref (He.ga K q.c)) (.type "LookupError") = some true)) →
    AftS K Wo ks0 Hz0 H0 Z D (match clsN qs c1 with
      | some q => hndN q x r1 m1
      | none => .ex c1 x r1 m1) → wAll K Wo D (qs.map (clOf K)) (.ref (He.ga K c1)) d σ1 H1
  | [], _, _, a => a ks1 Hz1 H1 d σ1 b1 xr
  | q :: qs, hx, hq, a => by
    refine ⟨c1 == q.c, hx q List.mem_cons_self, fun e ad na => ?_, fun e => ?_⟩
    · have ec : c1 = q.c := by simpa using e
      simp only [clsN, if_pos e] at a
      subst ec
      obtain ⟨g1, g2, g3⟩ := hq q List.mem_cons_self
      exact rdClz b1 xr g1 g2 g3 a ad
    · simp only [clsN, e, Bool.false_eq_true, if_false] at a
      exact wAllOk b1 xr qs (fun q' h' => hx q' (List.mem_cons_of_mem _ h')) (fun q' h' => hq q' (List.mem_cons_of_mem _ h')) a
theorem rdTryN {K : PySem.W.Frag} {Wo : WX} {D : Ends} {σ : L2.St} {H : Hp} {eb : Env' → Mem → SRes} {xs : List Str} {qs : List Clz} (hx : ∀ x ∈ xs, ∀ q ∈ qs, PySem.W.exmOne K (.ref (He.ga K x)) (.ref (He.ga K q.c)) = some (x == q.c))
    (hq : ∀ q ∈ qs, q.hs.length ≤ 100 ∧ (HF.isv ∈ q.hs → PySem.W.kitOne K (.ref (He.ga K q.c)) (.type "ValueError") = some true) ∧ (HF.isl ∈ q.hs → PySem.W.kitOne K (.ref (He.ga K q.c)) (.type "LookupError") = some true))
    (h : tS K Wo (fun r m => exN xs qs (eb r m)) D σ H) : tS K (wAll K Wo D (qs.map (clOf K))) eb D σ H := by
  obtain ⟨ks0, Hz0, H0, Z, ks, m, Hz, r, b, a⟩ := h
  refine ⟨ks0, Hz0, H0, Z, ks, m, Hz, r, b, ?_⟩
  dsimp only at a
  generalize eb r m = z at a
  cases z with
  | nx r1 m1 => exact a
  | rt x m1 => exact a
  | bk r1 m1 => exact a
  | ct r1 m1 => exact a
  | bad => exact a
  | ex c1 x r1 m1 =>
    simp only [exN] at a
    by_cases hc : xs.contains c1 = true
    · rw [if_pos hc] at a
      have hx := hx c1 (by simpa using hc)
      intro ks1 Hz1 H1 d σ1 b1 xr
      exact wAllOk b1 xr qs hx hq a
    · rw [if_neg hc] at a
      exact a.elim
end
end Mp

set_option Elab.async false
set_option linter.all false
set_option maxRecDepth 100000
set_option maxHeartbeats 4000000
namespace Mp
open PySem PySem.Spec PyProof.Rows L2
section
mutual
theorem sS {T : Tab} {cl : Calls} {n : Nat} {W : WX} {X : Cx} : ∀ (c : CS) (o : OkS T cl n W X) (e : Stmt), chkS T X.N c X.env.scope e = true → PS X e (tS X.K W (evS cl c))
  | .asg i e, o, s, h => by
    cases s <;> try (simp only [chkS, Bool.false_eq_true] at h; done)
    rename_i tgs v pos
    match tgs, h with
    | [.Name x px], h =>
      simp only [chkS, Bool.and_eq_true, beq_iff_eq] at h
      exact psMono (sAsg o h.1.1 h.1.2 h.2 (sE e o.toOkX v h.2) (fun t it cc e1 own q σ H Q z => by subst q; exact tF_of z) (fun t it cc t1 it1 cc1 e1 own vs1 q σ H Q z => by subst q; exact tF2_of (by rw [comp2_eq] at z; exact z))) fun _ _ _ q => rdAsg q
  | .asgO i e, o, s, h => by
    cases s <;> try (simp only [chkS, Bool.false_eq_true] at h; done)
    rename_i tgs v pos
    match tgs, h with
    | [.Name x px], h =>
      simp only [chkS, Bool.and_eq_true, beq_iff_eq] at h
      exact psMono (sAsg o h.1.1.1 h.1.1.2 h.1.2 (sFN e o.toOkX h.1.2 h.2) (fun t it cc e1 own q σ H Q z => by subst q; exact compOwn z) (fun t it cc t1 it1 cc1 e1 own vs1 q σ H Q z => by subst q; exact compOwn2 z)) fun _ _ _ q => rdAsgO q
  | .asgT ts e, o, s, h => by
    cases s <;> try (simp only [chkS, Bool.false_eq_true] at h; done)
    rename_i tgs v pos
    match tgs, h with
    | [tg], h =>
      simp only [chkS, Bool.and_eq_true] at h
      obtain ⟨⟨h1, h2⟩, h3⟩ := h
      obtain ⟨es, k, p, rfl⟩ : ∃ es k p, tg = .Tuple es k p := by
        cases tg <;> first | exact ⟨_, _, _, rfl⟩ | (simp [chkT] at h1)
      have hsw : swapsWithSole [.Tuple es k p] v pos.line X.env = pure false := by cases v <;> rfl
      have hst : swappedStores [.Tuple es k p] v X.env = pure none := by cases v <;> first | rfl | (simp [notTup] at h3)
      exact psMono (ps_asg (sE e o.toOkX v h2) (sT o.tg (.tp ts) _ h1) hsw hst rfl) fun _ _ _ q => rdAsgT q
  | .par l bs es, o, s, h => by
    cases s <;> try (simp only [chkS, Bool.false_eq_true] at h; done)
    rename_i tgs v pos
    match tgs, v, h with
    | [.Tuple ts kt pt], .Tuple vs k2 pt2, h =>
      simp only [chkS, Bool.and_eq_true, decide_eq_true_eq] at h
      obtain ⟨⟨⟨h1, h2⟩, h3⟩, h4⟩ := h
      have pa := sP (cl := cl) (W := W) es bs o.toOkX vs h2
      unfold swOk at h4
      rw [Bool.or_eq_true] at h4
      rcases h4 with h4 | h4
      · have hst : swappedStores [.Tuple ts kt pt] (.Tuple vs k2 pt2) X.env = pure none := by
          rw [Bool.or_eq_true] at h4
          rcases h4 with h4 | h4
          · exact swK h4
          · exact sw0 (bne_iff_ne.mp h4)
        have hl : l.length ≤ sizeLine := by
          have : (100 : Nat) ≤ sizeLine := by decide
          omega
        exact psMono (ps_asg (pe_tup pa) (sT o.tg (.tp (nmsT l)) (.Tuple ts kt pt) h1) rfl hst rfl) fun _ _ _ q => rdParT hl q
      · match l, ts, vs, h1, h4, pa with
        | [i, j], [.Name x px, .Name y py], [a, b], h1, h4, pa =>
          simp only [Bool.and_eq_true, beq_iff_eq, bne_iff_ne, Bool.not_eq_true'] at h4
          obtain ⟨⟨⟨⟨⟨⟨⟨⟨g1, g2⟩, g3⟩, g4⟩, g5⟩, g6⟩, g7⟩, g8⟩, g9⟩ := h4
          simp only [nmsT, chkTs, chkT, Bool.and_eq_true, beq_iff_eq] at h1
          exact psMono (ps_par o.calm o.nd h1.1.2.1 h1.2.1.2.1 g1 g2 g3 pa (sw2 o.kind g2 g3 (by simpa using g4) (by simp [g5]) g6 g7 g8 g9) rfl) fun _ _ _ q => rdPar2 q
        | [i, j, k], [.Name x px, .Name y py, .Name z pz], [a, b, c], h1, h4, pa =>
          simp only [Bool.and_eq_true, beq_iff_eq, bne_iff_ne, Bool.not_eq_true'] at h4
          obtain ⟨⟨⟨⟨⟨⟨⟨⟨⟨⟨⟨⟨⟨⟨⟨g1, g2⟩, g3⟩, g4⟩, g5⟩, g6⟩, g7⟩, g8⟩, g9⟩, g10⟩, g11⟩, g12⟩, g13⟩, g14⟩, g15⟩, g16⟩ := h4
          simp only [nmsT, chkTs, chkT, Bool.and_eq_true, beq_iff_eq] at h1
          exact psMono (ps_par3 o.calm o.nd h1.1.2.1 h1.2.1.2.1 h1.2.2.1.2.1 g1 g2 g3 g4 g5 g6 pa (sw3 o.kind g4 g5 g6 (by simpa using g7) (by simpa using g8) (by simpa using g9) (by simp [g10]) (by simp [g11]) g12 g13 g14 g15 g16) rfl) fun _ _ _ q => rdPar3 q
  | .setC i k e, o, s, h => by
    cases s <;> try (simp only [chkS, Bool.false_eq_true] at h; done)
    rename_i tgs v pos
    match tgs, h with
    | [.Subscript (.Name y py) w ps], h =>
      simp only [chkS, Bool.and_eq_true, beq_iff_eq] at h
      obtain ⟨⟨⟨⟨⟨h1, h2⟩, h3⟩, h4⟩, h5⟩, h6⟩ := h
      have hsw : swapsWithSole [.Subscript (.Name y py) w ps] v pos.line X.env = pure false := by cases v <;> rfl
      have hst : swappedStores [.Subscript (.Name y py) w ps] v X.env = pure none := by cases v <;> rfl
      exact psMono (ps_asg (sE e o.toOkX v h6) (pg_sub (pe_var h1 (vis_of h2) (okN h3).1 (okN h3).2.1) (sE k o.toOkX w h4) set_list (fun v => by cases w <;> first | rfl | (simp [notSlice] at h5))) hsw hst rfl) fun _ _ _ q => rdSetC q
  | .setO i k e, o, s, h => by
    cases s <;> try (simp only [chkS, Bool.false_eq_true] at h; done)
    rename_i tgs v pos
    match tgs, h with
    | [.Subscript (.Name y py) w ps], h =>
      simp only [chkS, Bool.and_eq_true, beq_iff_eq] at h
      obtain ⟨⟨⟨⟨⟨h1, h2⟩, h3⟩, h4⟩, h5⟩, h6⟩ := h
      have hsw : swapsWithSole [.Subscript (.Name y py) w ps] v pos.line X.env = pure false := by cases v <;> rfl
      have hst : swappedStores [.Subscript (.Name y py) w ps] v X.env = pure none := by cases v <;> rfl
      exact psMono (ps_asg (sE e o.toOkX v h6) (pg_sub (pe_var h1 (vis_of h2) (okN h3).1 (okN h3).2.1) (sE k o.toOkX w h4) set_list (fun v => by cases w <;> first | rfl | (simp [notSlice] at h5))) hsw hst rfl) fun _ _ _ q => rdSetO q
  | .app i e, o, s, h => by
    cases s <;> try (simp only [chkS, Bool.false_eq_true] at h; done)
    rename_i x pos
    match x, h with
    | .Call (.Attribute (.Name y py) nm ap) [x] [] cp, h =>
      simp only [chkS, Bool.and_eq_true, beq_iff_eq] at h
      obtain ⟨⟨⟨⟨⟨⟨h1, h2⟩, h3⟩, h4⟩, h5⟩, h6⟩, h7⟩ := h
      subst h1
      exact psMono (ps_expr (pe_bm PySem.F.plainAttrs_list PySem.F.slot_list_append PySem.F.type_list_append mt_append (pe_var h3 (vis_of h4) (okN h5).1 (okN h5).2.1) (pa_cons (sE e o.toOkX x h7) pa_nil (starOne h6 _ _)) (attrBase _ _) (few h6 _ _) (by rw [h2]; exact beq_self_eq_true _) (starOne h6 _ _) (starNone _ _ rfl)) rfl) fun _ _ _ q => rdApp q
  | .appPop i j e, o, s, h => by
    cases s <;> try (simp only [chkS, Bool.false_eq_true] at h; done)
    rename_i x pos
    match x, h with
    | .Call (.Attribute (.Name y py) nm ap) [.Call (.Attribute (.Name z pz) nm2 ap2) [x] [] cp2] [] cp, h =>
      simp only [chkS, Bool.and_eq_true, beq_iff_eq] at h
      obtain ⟨⟨⟨⟨⟨⟨⟨⟨⟨⟨⟨h1, h2⟩, h3⟩, h4⟩, h5⟩, g1⟩, g2⟩, g3⟩, g4⟩, g5⟩, h6⟩, h7⟩ := h
      subst h1 g1
      exact psMono (ps_expr (pe_bm PySem.F.plainAttrs_list PySem.F.slot_list_append PySem.F.type_list_append mt_append (pe_var h3 (vis_of h4) (okN h5).1 (okN h5).2.1) (pa_cons (pe_bm PySem.F.plainAttrs_list PySem.F.slot_list_pop PySem.F.type_list_pop mt_popAt (pe_var g3 (vis_of g4) (okN g5).1 (okN g5).2.1) (pa_cons (sE e o.toOkX x h7) pa_nil (starOne h6 _ _)) (attrBase _ _) (few h6 _ _) (by rw [g2]; exact beq_self_eq_true _) (starOne h6 _ _) (starNone _ _ rfl)) pa_nil (starOne rfl _ _)) (attrBase _ _) (few rfl _ _) (by rw [h2]; exact beq_self_eq_true _) (starOne rfl _ _) (starNone _ _ rfl)) rfl) fun _ _ _ q => rdAppPop q
  | .ext i e, o, s, h => by
    cases s <;> try (simp only [chkS, Bool.false_eq_true] at h; done)
    rename_i x pos
    match x, h with
    | .Call (.Attribute (.Name y py) nm ap) [x] [] cp, h =>
      simp only [chkS, Bool.and_eq_true, beq_iff_eq] at h
      obtain ⟨⟨⟨⟨⟨⟨h1, h2⟩, h3⟩, h4⟩, h5⟩, h6⟩, h7⟩ := h
      subst h1
      exact psMono (ps_expr (pe_bm PySem.F.plainAttrs_list PySem.F.slot_list_extend PySem.F.type_list_extend mt_extend (pe_var h3 (vis_of h4) (okN h5).1 (okN h5).2.1) (pa_cons (sE e o.toOkX x h7) pa_nil (starOne h6 _ _)) (attrBase _ _) (few h6 _ _) (by rw [h2]; exact beq_self_eq_true _) (starOne h6 _ _) (starNone _ _ rfl)) rfl) fun _ _ _ q => rdExt q
  | .do_ e, o, s, h => by
    cases s <;> try (simp only [chkS, Bool.false_eq_true] at h; done)
    simp only [chkS, Bool.and_eq_true] at h
    exact psMono (ps_expr (sE e o.toOkX _ h.1) (notCompSw h.2 _ _ _)) fun _ _ _ q => rdDrop q
  | .ret e, o, s, h => by
    cases s <;> try (simp only [chkS, Bool.false_eq_true] at h; done)
    rename_i x pos
    cases x <;> simp only [chkS, Bool.false_eq_true] at h
    exact psMono (ps_ret (sE e o.toOkX _ h)) fun _ _ _ q => rdRet q
  | .retF e, o, s, h => by
    cases s <;> try (simp only [chkS, Bool.false_eq_true] at h; done)
    rename_i x pos
    cases x <;> simp only [chkS, Bool.false_eq_true] at h
    simp only [Bool.and_eq_true] at h
    exact psMono (ps_ret (sFN e o.toOkX h.1 h.2)) fun _ _ _ q => rdRetF q
  | .retC i, o, s, h => by
    cases s <;> try (simp only [chkS, Bool.false_eq_true] at h; done)
    rename_i x pos
    match x, h with
    | some (.Name y py), h =>
      simp only [chkS, Bool.and_eq_true, beq_iff_eq] at h
      exact psMono (ps_ret (pe_var h.1.1 (vis_of h.1.2) (okN h.2).1 (okN h.2).2.1)) fun _ _ _ q => rdRetC q
  | .retN, o, s, h => by
    cases s <;> try (simp only [chkS, Bool.false_eq_true] at h; done)
    rename_i x pos
    cases x <;> simp only [chkS, Bool.false_eq_true] at h
    exact psMono ps_retN fun _ _ _ q => rdRetN q
  | .if_ t a b, o, s, h => by
    cases s <;> try (simp only [chkS, Bool.false_eq_true] at h; done)
    simp only [chkS, Bool.and_eq_true] at h
    exact psMono (ps_if (sC t o.toOkX _ h.1.1) (sSs a o _ h.1.2) (sSs b o _ h.2)) fun _ _ _ q => rdIfS q
  | .for_ t it b, o, s, h => by
    cases s <;> try (simp only [chkS, Bool.false_eq_true] at h; done)
    rename_i tg iter body els pos
    cases els <;> simp only [chkS, Bool.false_eq_true] at h
    simp only [Bool.and_eq_true] at h
    exact psMono (ps_for o.hp o.calm (sI it o.toOkX tg iter h.1.1.1) (sT o.tg t tg h.1.2) (sSs b o body h.2) (fun x => notSetF h.1.1.2 _ x)) fun _ _ _ q => rdFor q
  | .whl t b, o, s, h => by
    cases s <;> try (simp only [chkS, Bool.false_eq_true] at h; done)
    rename_i c body els pos
    cases els <;> simp only [chkS, Bool.false_eq_true] at h
    simp only [Bool.and_eq_true] at h
    exact psMono (ps_while o.hp (sC t o.toOkX c h.1) (sSs b o body h.2)) fun _ _ _ q => rdWhl q
  | .pas, o, s, h => by
    cases s <;> try (simp only [chkS, Bool.false_eq_true] at h; done)
    · rename_i x pos
      match x, h with
      | .Constant (.str _) _ _, h => exact psMono ps_doc fun _ _ _ q => rdNext q
    · exact psMono ps_pass fun _ _ _ q => rdNext q
  | .dead, o, s, h => psMono ps_never fun _ _ _ q => rdNever q
  | .raise c e, o, s, h => by
    cases s <;> try (simp only [chkS, Bool.false_eq_true] at h; done)
    rename_i ex cause pos
    match ex, cause, h with
    | some (.Call (.Name x p1) [] [] p2), none, h =>
      have h' : noB e = true ∧ x = c ∧ glB X.env.scope x = true ∧ okName x = true ∧ T.xs.contains c = true := by
        unfold chkS at h
        simpa [Bool.and_eq_true, and_assoc] using h
      obtain ⟨h0, h1, h2, h3, h4⟩ := h'
      subst h1
      have he : e = .no := by cases e <;> first | rfl | cases h0
      subst he
      have fx := o.exk x (by simpa using h4)
      refine psMono (ps_raise o.calm o.tk (pmk_none fx (gl_of h2) (okN h3).1)) fun D σ H q => ?_
      obtain ⟨ks0, Hz0, H0, Z, ks, m, Hz, r, b, a⟩ := q
      exact a ks Hz H none σ b rfl
    | some (.Call (.Name x p1) [y] [] p2), none, h =>
      obtain ⟨f, e', rfl, h1, h2, h3, h4, h5, h6⟩ := chkS_raise1 h
      subst h1
      have fx := o.exf (x, f) (PySem.mem_of_lookup h4)
      refine psMono (ps_raise o.calm o.tk (pmk_fld fx.fc (o.free "super" (by decide +kernel)) o.room (gl_of h2) fx.g (sE e' o.toOkX y h6) (okN h3).1 (starOne h5 _ _))) fun D σ H q => ?_
      exact rdRaiseF q
  | .tryN b qs xs, o, s, h => by
    cases s <;> try (simp only [chkS, Bool.false_eq_true] at h; done)
    rename_i body hds orelse fin pos
    match hds, orelse, fin, h with
    | h0 :: hds, [], [], h =>
      have h' : (∀ x ∈ xs, T.cs.contains x = true) ∧ chkSs T X.N b X.env.scope body = true ∧ chkCl T X.N X.env.scope qs (h0 :: hds) = true := by
        unfold chkS at h
        simpa [Bool.and_eq_true, and_assoc] using h
      obtain ⟨h1, h2, h3⟩ := h'
      refine psMono (ps_try_all (tb := fun W2 => tS X.K W2 (evSs cl b)) o.stk o.frm o.nd o.tk (fun W' pn xe tk hp => sSs b (o.tr pn xe tk hp) body h2) (clsOk o qs _ h3)) fun D σ H q => ?_
      obtain ⟨g1, g2⟩ := clFacts o qs _ h3
      exact rdTryN (fun x hx q' hq => g1 x (h1 x hx) q' hq) g2 q
  | .try1 b c i xs k hs, o, s, h => by
    cases s <;> try (simp only [chkS, Bool.false_eq_true] at h; done)
    rename_i body hds orelse fin pos
    match hds, orelse, fin, h with
    | [.ExceptHandler (some (.Name x p1)) (some n1) [st] p2], [], [], h =>
      simp only [chkS, Bool.and_eq_true, beq_iff_eq, decide_eq_true_eq] at h
      obtain ⟨⟨⟨⟨⟨⟨⟨⟨⟨⟨h1, h2⟩, h3⟩, h4⟩, h5⟩, h6⟩, h7⟩, h8⟩, h9⟩, h10⟩, h11⟩ := h
      subst h1
      have hc : x ∈ T.xs := by simpa using h4
      have fx := o.exk x hc
      have hv : visB X.env.scope n1 = true := by simp [visB, h6]
      exact psMono (ps_try_as (tb := fun W2 => tS X.K W2 (evSs cl b)) (ts := tHnd X.K x i k hs) o.stk o.frm o.nd h5 h6 ⟨gl_of h2, (okN h3).1, .inl fx.g⟩ o.tk (fun W' pn xe tk hp => sSs b (o.tr pn xe tk hp) body h10) (suiteOk o hc h5 hv h7 h11)) fun D σ H q =>
        rdTry (ys := T.cs) (fun y hy => o.exk y (by simpa using List.all_eq_true.mp h8 y hy)) (List.mem_append_left _ hc) fx h9 q
termination_by structural c => c
theorem sSs {T : Tab} {cl : Calls} {n : Nat} {W : WX} {X : Cx} : ∀ (c : CSs) (o : OkS T cl n W X) (es : List Stmt), chkSs T X.N c X.env.scope es = true → PSs X es (tS X.K W (evSs cl c))
  | .nil, o, es, h => by
    cases es <;> simp only [chkSs, Bool.false_eq_true] at h
    exact pssMono pss_nil fun _ _ _ q => rdNext q
  | .cons s ss, o, es, h => by
    cases es <;> simp only [chkSs, Bool.false_eq_true] at h
    simp only [Bool.and_eq_true] at h
    exact pssMono (pss_cons (sS s o _ h.1) (sSs ss o _ h.2)) fun _ _ _ q => rdSeq q
  | .frz i ss, o, es, h => pssMono (sSs ss o es h) fun _ _ _ q => rdFrz q
termination_by structural c => c
end
end
end Mp

set_option Elab.async false
set_option linter.all false
set_option maxRecDepth 100000
set_option maxHeartbeats 4000000
namespace Mp
open PySem PySem.Spec PyProof.Rows L2
/-! ### arguments -/
theorem zipLook : ∀ (ps : List Str) (us : List Value), ps.Nodup → us.length = ps.length → (ps.filterMap fun n => ((ps.zip us).lookup n).map (n, ·)) = ps.zip us
  | [], _, _, _ => rfl
  | p :: ps, [], _, h => by simp at h
  | p :: ps, u :: us, hn, h => by
    obtain ⟨h1, h2⟩ := List.nodup_cons.mp hn
    have ih := zipLook ps us h2 (by simpa using h)
    rw [List.zip_cons_cons, List.filterMap_cons]
    have e : ((p, u) :: ps.zip us).lookup p = some u := by simp [List.lookup_cons]
    rw [e]
    simp only [Option.map_some]
    congr 1
    have cong : ∀ (l : List Str) (f g : Str → Option (Str × Value)), (∀ x ∈ l, f x = g x) → l.filterMap f = l.filterMap g := by
      intro l f g
      induction l with
      | nil => intro _; rfl
      | cons a l ihl =>
        intro hh
        rw [List.filterMap_cons, List.filterMap_cons, hh a List.mem_cons_self, ihl fun x hx => hh x (List.mem_cons_of_mem _ hx)]
    refine (cong _ _ _ fun x hx => ?_).trans ih
    have hxp : (x == p) = false := by
      rw [beq_eq_false_iff_ne]
      intro e2; subst e2; exact h1 hx
    simp only [List.lookup_cons, hxp]
theorem zipSome : ∀ (ps : List Str) (us : List Value) (x : Str), us.length = ps.length → x ∈ ps → ((ps.zip us).lookup x).isNone = false
  | [], _, _, _, h => by cases h
  | p :: ps, [], _, h, _ => by simp at h
  | p :: ps, u :: us, x, h, m => by
    rw [List.zip_cons_cons, List.lookup_cons]
    cases q : x == p with
    | true => rfl
    | false =>
      rcases List.mem_cons.mp m with e | m
      · rw [e] at q; simp at q
      · exact zipSome ps us x (by simpa using h) m
theorem bind_all {x qual : Str} {body : List Stmt} {scope : Scope} {ps : List Str} {as : List Arg} {kd ds} (hn : ps.Nodup) (ha : as.map (·.arg) = ps) (kV doc pm : Value) (an : Option Addr) (cdv ct : Value) (us : List Value) (hl : us.length = ps.length) :
    bindArgs (PySem.W.fnOf x qual ⟨[], as, none, [], kd, none, ds⟩ body scope .none kV doc pm an cdv ct) ⟨us, []⟩ = pure (ps.zip us) := by
  unfold bindArgs
  have e1 : ¬ (us.length > ps.length) := by omega
  have e2 : (ps.filter fun n => ((ps.zip us).lookup n).isNone) = [] := by
    rw [List.filter_eq_nil_iff]
    intro a h
    rw [zipSome ps us a hl h]
    decide
  simp [PySem.W.fnOf, ha, zipLook ps us hn hl, seqItems?, e1]
  have e3 : notAStandIn Value.none = pure () := rfl
  rw [e3, pure_bind, if_neg (by simp [ha, e2])]

theorem kwLoop {f : (Str × Value) → (List (Str × Value) × List (Str × Value)) → Sem (ForInStep (List (Str × Value) × List (Str × Value)))} {ps : List Str} {ex : List (Str × Value)} (hf : ∀ x slots, ps.contains x.1 = true → (List.lookup x.1 slots).isSome = false → f x (slots, ex) = pure (.yield (slots ++ [x], ex))) :
    ∀ (l slots : List (Str × Value)), (∀ x ∈ l, x.1 ∈ ps) → (l.map (·.1)).Nodup → (∀ x ∈ l, List.lookup x.1 slots = none) → forIn l (slots, ex) f = pure (slots ++ l, ex)
  | [], slots, _, _, _ => by rw [List.forIn_nil, List.append_nil]
  | x :: l, slots, h1, h2, h3 => by
    rw [List.map_cons] at h2
    obtain ⟨n1, n2⟩ := List.nodup_cons.mp h2
    rw [List.forIn_cons, hf x slots (by simpa using h1 x List.mem_cons_self) (by rw [h3 x List.mem_cons_self]; rfl), pure_bind]
    dsimp only
    rw [kwLoop hf l (slots ++ [x]) (fun y hy => h1 y (List.mem_cons_of_mem _ hy)) n2 fun y hy => ?_, List.append_assoc]
    · rfl
    · rw [List.lookup_append, h3 y (List.mem_cons_of_mem _ hy)]
      have : (y.1 == x.1) = false := by
        rw [beq_eq_false_iff_ne]
        exact fun e => n1 (List.mem_map.mpr ⟨y, hy, e⟩)
      simp [List.lookup_cons]
      exact fun e => n1 (List.mem_map.mpr ⟨y, hy, e⟩)
theorem lookZip {slots : List (Str × Value)} : ∀ {ps : List Str} {rs : List Value}, rs.length = ps.length → (∀ (i : Nat) (p : Str), ps[i]? = some p → slots.lookup p = rs[i]?) → (ps.filterMap fun n => (slots.lookup n).map (n, ·)) = ps.zip rs
  | [], [], _, _ => rfl
  | [], _ :: _, h, _ => by simp at h
  | _ :: _, [], h, _ => by simp at h
  | p :: ps, r :: rs, h, hl => by
    have h0 := hl 0 p rfl
    simp only [List.getElem?_cons_zero] at h0
    rw [List.filterMap_cons, h0]
    simp only [Option.map_some, List.zip_cons_cons]
    rw [lookZip (by simpa using h) fun i q hq => by simpa using hl (i + 1) q (by simpa using hq)]
theorem bind_kw {x qual : Str} {body : List Stmt} {scope : Scope} {ps : List Str} {as : List Arg} {kd ds} (ha : as.map (·.arg) = ps) (kV doc pm : Value) (an : Option Addr) (cdv ct : Value) (us ws : List Value) (ks : List Str) (rs : List Value)
    (h1 : ks.length = ws.length) (h2 : ∀ k ∈ ks, k ∈ ps) (h3 : ks.Nodup) (h4 : ∀ k ∈ ks, List.lookup k (ps.zip us) = none) (h5 : us.length + ks.length = ps.length)
    (hr : rs.length = ps.length) (hl : ∀ (i : Nat) (p : Str), ps[i]? = some p → ((ps.zip us) ++ ks.zip ws).lookup p = rs[i]?) :
    bindArgs (PySem.W.fnOf x qual ⟨[], as, none, [], kd, none, ds⟩ body scope .none kV doc pm an cdv ct) ⟨us, ks.zip ws⟩ = pure (ps.zip rs) := by
  unfold bindArgs
  simp only [PySem.W.fnOf]
  simp only [ha, List.map_nil, List.nil_append]
  have mz : ∀ y ∈ ks.zip ws, y.1 ∈ ks := fun y hy => (List.of_mem_zip hy).1
  have nz : ((ks.zip ws).map (·.1)).Nodup := by
    rw [List.map_fst_zip (by omega)]
    exact h3
  rw [kwLoop (ps := ps) (fun y slots c1 c2 => by simp only [c1, c2, Bool.true_or, if_true, Bool.false_eq_true, if_false]) (ks.zip ws) (ps.zip us) (fun y hy => h2 _ (mz y hy)) nz (fun y hy => h4 _ (mz y hy)), pure_bind]
  have e1 : ¬ (us.length > ps.length) := by omega
  have e2 : (ps.filter fun n => ((ps.zip us ++ ks.zip ws).lookup n).isNone) = [] := by
    rw [List.filter_eq_nil_iff]
    intro p hp
    obtain ⟨i, hi, e⟩ := List.getElem_of_mem hp
    have hi2 : ps[i]? = some p := by rw [List.getElem?_eq_getElem hi, e]
    rw [hl i p hi2, List.getElem?_eq_getElem (by omega)]
    simp
  have e3 : notAStandIn Value.none = pure () := rfl
  simp [seqItems?, e1, lookZip hr hl, e3, e2]
/-! ### a def keeps its promise -/
def kindB (sc : Scope) : Bool := (match sc.kind with | .function => true | _ => false) && !sc.isCoroutine && !sc.isGenerator
def parB : Arguments → List Str → Bool
  | ⟨[], as, none, [], _, none, _⟩, ps => as.map (·.arg) == ps
  | _, _ => false
def scopeB (N P : List Str) (sc : Scope) : Bool := kindB sc && decide N.Nodup && N.take P.length == P && (P.all fun x => locB sc x) && sc.names.all fun y => y.2 != .free
theorem scope_of {N P : List Str} {sc : Scope} (h : scopeB N P sc = true) : FnScope N P sc := by
  unfold scopeB kindB at h
  simp only [Bool.and_eq_true, Bool.not_eq_true', beq_iff_eq, decide_eq_true_eq, List.all_eq_true, bne_iff_ne] at h
  obtain ⟨⟨⟨⟨⟨⟨h1, h2⟩, h3⟩, h4⟩, h5⟩, h6⟩, h7⟩ := h
  refine ⟨?_, h2, h3, h4, h5, fun x hx => loc_of (h6 x hx), fun y hy => h7 y hy⟩
  split at h1
  · assumption
  · cases h1
/-- one def's check -/
def defB (T : Tab) (d : Def) (f : He.DefD) : Bool := f.at_ == (d.name, none) && f.dfl.isEmpty && f.kwd.isEmpty && parB f.params d.ps && scopeB d.ns d.ps f.scope && chkSs T d.ns d.body f.scope f.body
def allB (T : Tab) : List Def → List He.DefD → Bool
  | [], [] => true
  | d :: ds, f :: fs => defB T d f && allB T ds fs
  | _, _ => false
theorem allB_at {T : Tab} : ∀ {ds : List Def} {fs : List He.DefD}, allB T ds fs = true → ∀ (i : Nat) (d : Def), ds[i]? = some d → ∃ f, fs[i]? = some f ∧ defB T d f = true
  | [], [], _, i, d, e => by simp at e
  | d :: ds, f :: fs, h, 0, d', e => by
    simp only [allB, Bool.and_eq_true] at h
    simp at e; subst e
    exact ⟨f, rfl, h.1⟩
  | d :: ds, f :: fs, h, i + 1, d', e => by
    simp only [allB, Bool.and_eq_true] at h
    simpa using allB_at h.2 i d' (by simpa using e)
  | [], _ :: _, h, _, _, _ => by cases h
  | _ :: _, [], h, _, _, _ => by cases h
theorem vrsLen {K : PySem.W.Frag} {ks : List Addr} {Hz : Hp} : ∀ {vs : List V} {xs : List MV}, VRs K ks Hz vs xs → vs.length = xs.length
  | _, _, .nil => rfl
  | _, _, .cons a b => by simp [vrsLen b]
theorem vrsAt {K : PySem.W.Frag} {ks : List Addr} {Hz : Hp} : ∀ {vs : List V} {xs : List MV}, VRs K ks Hz vs xs → ∀ (i : Nat) (x : MV), xs[i]? = some x → ∃ v, vs[i]? = some v ∧ VR K ks Hz v x
  | _, _, .nil, i, x, e => by simp at e
  | _, _, .cons a b, 0, x, e => by simp at e; subst e; exact ⟨_, rfl, a⟩
  | _, _, .cons a b, i + 1, x, e => by simpa using vrsAt b i x (by simpa using e)
section
variable {K : PySem.W.Frag} {ks ks1 : List Addr} {Hz H Hz1 H1 : Hp} {m1 : Mem}
theorem vrCut {v : V} {x : MV} {t : List Addr} (h : VR K (ks ++ t) Hz1 v x) (hc : ∀ k, x = .c k → k < ks.length) : VR K ks Hz1 v x := by
  cases h with
  | d a => exact .d a
  | c a =>
    have := hc _ rfl
    rw [List.getElem?_append_left this] at a
    exact .c a
  | t a b n => exact .t a b n
  | s a => exact .s a
end
structure HypE (T : Tab) (cl : Calls) (P : Program) (w : World) (K : PySem.W.Frag) (mg : Str → Option Value) (base : Heap) (n : Nat) : Prop where
  hf : ∀ x ∈ bnames, mg x = none
  hkon : ∀ x i, T.ks.lookup x = some i → ∃ t, mg x = some (.int i t)
  hexk : ∀ x ∈ T.xs, ExK T.cs K mg x
  hexf : ∀ p ∈ T.fx, ExF T.cs P K mg p.1 p.2
  hzon : ∀ x z, T.zs.lookup x = some z → ∃ t, mg x = some (.str z t)
  hdon : ∀ x ps, T.ds.lookup x = some ps → ∃ a, mg x = some (.ref a) ∧ ∀ z v, ps.lookup z = some v → KDct K w a z (.str v)
  htp : ∀ i ∈ T.tp, ∀ d, T.fs[i]? = some d → ∃ f fd, mg d.name = some (.ref f) ∧ PySem.W.keepIn K (.ref f) = true ∧ Binds K fd d.ps [] ∧ FnOk P w K mg base (L2.CX P w) n f fd d.ps (spP K cl i)
  ih : ∀ (i : Nat) (d : Def), T.fs[i]? = some d → ∃ f fd, mg d.name = some (.ref f) ∧ PySem.W.keepIn K (.ref f) = true ∧ Binds K fd d.ps [] ∧ d.ps.Nodup ∧ KwB fd d.ps ∧ FnOk P w K mg base (L2.CX P w) n f fd d.ps (spF K cl i d.ps.length)
theorem HypE.oks {T : Tab} {cl : Calls} {P : Program} {w : World} {K : PySem.W.Frag} {mg : Str → Option Value} {base : Heap} {n : Nat} (E0 : HypE T cl P w K mg base n) {ns ps : List Str} {qual : Str} {scope : Scope} (S : FnScope ns ps scope) {f : Addr} {cdv : Value} {A : Around} {outer : List Env} {s : Shared} {H : Hp} {E : XK} (hr : Room n (cxOf (L2.CX P w) P w K mg base ns qual scope f cdv A outer s H E).A) :
    OkS T cl n (fun cls d' _ H' => E cls d' H') (cxOf (L2.CX P w) P w K mg base ns qual scope f cdv A outer s H E) :=
  { calm := rfl, nd := S.nd, room := hr, tk := takes_of rfl rfl rfl rfl, free := E0.hf, kon := E0.hkon, exk := E0.hexk, exf := E0.hexf, zon := E0.hzon, don := E0.hdon, tpd := E0.htp, fns := E0.ih, fn := fun _ => rfl, kind := S.kind, hp := passes_of rfl, stk := rfl, frm := rfl }
/-- THE RULE -/
theorem body_ok {T : Tab} {cl : Calls} {P : Program} {w : World} {K : PySem.W.Frag} {mg : Str → Option Value} {base : Heap} {n i : Nat} {d : Def} {f : Addr} {fd : FuncData} {g : He.DefD}
    (E0 : HypE T cl P w K mg base n) (hi : T.fs[i]? = some d) (hg : defB T d g = true) (F : FunD K g.name g.qual g.params g.body g.scope (g.dvs K) (g.kws K) f fd)
    {cl' : Calls} (hcl : ∀ xs m, cl' i xs m = if xs.length = d.ps.length then back m.length (evSs cl d.body (xs.map .v ++ List.replicate (d.ns.length - d.ps.length) .un) m) else .bad) :
    FnOk P w K mg base (L2.CX P w) (n + 1) f fd d.ps (spF K cl' i d.ps.length) := by
  unfold defB at hg
  simp only [Bool.and_eq_true, beq_iff_eq] at hg
  obtain ⟨⟨⟨⟨⟨h1, h2⟩, h3⟩, h4⟩, h5⟩, h6⟩ := hg
  have S := scope_of h5
  refine F.ok S (fun vs H Q E h => ?_) fun cdv A outer s H vs Q E hr h => ?_
  · obtain ⟨ks, m, Hz, xs, c, r, hl, _⟩ := h
    rw [vrsLen r, hl]
  · have oks := E0.oks (E := E) (s := s) (H := H) (outer := outer) (A := A) (cdv := cdv) (f := f) (qual := g.qual) S hr
    refine ⟨_, sSs d.body oks g.body h6, ?_⟩
    obtain ⟨ks, m, Hz, xs, c, r, hl, a⟩ := h
    rw [hcl, if_pos hl] at a
    have hpl : d.ps.length ≤ d.ns.length := by have := congrArg List.length S.pre; rw [List.length_take] at this; omega
    have hvl : vs.length = d.ps.length := by rw [vrsLen r, hl]
    refine ⟨ks, Hz, H, Hz, ks, m, Hz, xs.map .v ++ List.replicate (d.ns.length - d.ps.length) .un, ⟨Ext.refl _ _ _, Same.refl _, c, ⟨?_, fun j s' e => ?_, fun j k xs' ys' _ e => ?_⟩, fun j xs' p e => ?_⟩, ?_⟩
    · show _ = (L2.start d.ns vs).length
      unfold L2.start
      simp [hl, hvl]
    · show SR K ks Hz H s' (L2.start d.ns vs)[j]?
      unfold L2.start
      by_cases q : j < xs.length
      · rw [List.getElem?_append_left (by simpa using q)] at e
        rw [List.getElem?_append_left (by rw [List.length_map, vrsLen r]; exact q), List.getElem?_map]
        rw [List.getElem?_map] at e
        cases hx : xs[j]? with
        | none => rw [hx] at e; cases e
        | some x =>
          rw [hx] at e; cases e
          obtain ⟨v, hv, rv⟩ := vrsAt r j x hx
          rw [hv]
          exact .v rv
      · rw [List.getElem?_append_right (by simpa using q)] at e
        have := List.mem_of_getElem? e
        rw [List.eq_of_mem_replicate this]
        exact .un _
    · exfalso
      by_cases q : j < xs.length
      · rw [List.getElem?_append_left (by simpa using q), List.getElem?_map] at e
        cases hx : xs[j]? with
        | none => rw [hx] at e; cases e
        | some x => rw [hx] at e; cases e
      · rw [List.getElem?_append_right (by simpa using q)] at e
        have := List.eq_of_mem_replicate (List.mem_of_getElem? e)
        cases this
    · exfalso
      by_cases q : j < xs.length
      · rw [List.getElem?_append_left (by simpa using q), List.getElem?_map] at e
        cases hx : xs[j]? with
        | none => rw [hx] at e; cases e
        | some x => rw [hx] at e; cases e
      · rw [List.getElem?_append_right (by simpa using q)] at e
        have := List.eq_of_mem_replicate (List.mem_of_getElem? e)
        cases this
    · generalize evSs cl d.body _ m = z at a
      have hn : m.length = ks.length := c.len.symm
      cases z with
      | nx r1 m1 =>
        intro ks1 Hz1 H1 σ1 b1
        obtain ⟨x2, c2⟩ := cutBack hn b1.x b1.c
        exact a ks Hz1 H1 .non x2 c2 (.d .non)
      | rt x m1 =>
        intro ks1 Hz1 H1 v x1 _ c1 rv
        obtain ⟨x2, c2⟩ := cutBack hn x1 c1
        obtain ⟨t, e⟩ := x1.pre
        have cut : (∀ k, x = .c k → k < ks.length) → Aft K (RV K) (fun c d' _ H' => E c d' H') ks Hz H [] Q (.ok x (m1.take m.length)) → Q v H1 := fun hk a' =>
          a' ks Hz1 H1 v x2 c2 (vrCut (by rw [← e]; exact rv) hk)
        cases x with
        | c k =>
          simp only [back] at a
          split at a
          · rename_i hk
            exact cut (fun k' e' => by cases e'; omega) a
          · exact a ks1 Hz1 H1 v x1 c1 rv
        | d x => exact cut (fun _ e' => by cases e') a
        | t x => exact cut (fun _ e' => by cases e') a
        | s x => exact cut (fun _ e' => by cases e') a
      | bk r1 m1 => exact a.elim
      | ct r1 m1 => exact a.elim
      | ex cc x r1 m1 =>
        intro ks1 Hz1 H1 d1 σ1 b1 xr
        obtain ⟨x2, c2⟩ := cutBack hn b1.x b1.c
        exact a ks Hz1 H1 d1 x2 c2 xr
      | bad => exact a.elim
/-- a def of the form: return tuple([..]) if isinstance(x, (list, tuple)) else x -/
def tpB (T : Tab) (d : Def) (g : He.DefD) : Bool := match d.body, g.body with
  | .cons (.ret (.ite (.isin (.var 0) ts) (.b1 .tup (.comp t it c1 e1 own)) (.var 0))) .nil, [.Return (some (.IfExp c (.Call (.Name x _) [y] [] _) z _)) _] => (ts == ["list", "tuple"]) && x == ("tuple" : Str) && glB g.scope x && noStar y && chkC T d.ns (.isin (.var 0) ts) g.scope c && chkE T d.ns (.comp t it c1 e1 own) g.scope y && chkE T d.ns (.var 0) g.scope z && d.ps.length == 1
  | _, _ => false
theorem tpB_inv {T : Tab} {d : Def} {g : He.DefD} (h : tpB T d g = true) : ∃ e c x p1 y p2 z p3 p4, d.body = .cons (.ret (.ite (.isin (.var 0) ["list", "tuple"]) (.b1 .tup e) (.var 0))) .nil ∧ g.body = [.Return (some (.IfExp c (.Call (.Name x p1) [y] [] p2) z p3)) p4] ∧
    x = "tuple" ∧ glB g.scope x = true ∧ noStar y = true ∧ chkC T d.ns (.isin (.var 0) ["list", "tuple"]) g.scope c = true ∧ chkE T d.ns e g.scope y = true ∧ chkE T d.ns (.var 0) g.scope z = true ∧ d.ps.length = 1 ∧ ∃ t it c1 e1 own, e = .comp t it c1 e1 own := by
  unfold tpB at h
  split at h
  · rename_i q1 q2
    simp only [Bool.and_eq_true, beq_iff_eq] at h
    obtain ⟨⟨⟨⟨⟨⟨⟨h1, h2⟩, h3⟩, h4⟩, h5⟩, h6⟩, h7⟩, h8⟩ := h
    subst h1
    exact ⟨_, _, _, _, _, _, _, _, _, q1, q2, h2, h3, h4, h5, h6, h7, h8, _, _, _, _, _, rfl⟩
  · cases h
theorem comp_list {cl : Calls} {t : CT} {it : CI} {c e : CE} {own : List (Str × Nat)} {r : Env'} {m m1 : Mem} {y : MV} (h : evE cl (.comp t it c e own) r m = .ok y m1) : ∃ ds, y = .d (.list ds) := by
  simp only [evE] at h
  generalize evI cl it r m = q at h
  cases q with
  | ok xs m2 =>
    simp only [Res.bind] at h
    split at h
    · simp only [Res.ok.injEq] at h
      exact ⟨_, h.1.symm⟩
    · cases h
    · cases h
  | ex _ _ _ => cases h
  | bad => cases h
theorem body_tp {T : Tab} {cl : Calls} {P : Program} {w : World} {K : PySem.W.Frag} {mg : Str → Option Value} {base : Heap} {n i : Nat} {d : Def} {f : Addr} {fd : FuncData} {g : He.DefD}
    (E0 : HypE T cl P w K mg base n) (hi : T.fs[i]? = some d) (hg : defB T d g = true) (ht : tpB T d g = true) (F : FunD K g.name g.qual g.params g.body g.scope (g.dvs K) (g.kws K) f fd)
    {cl' : Calls} (hcl : ∀ xs m, cl' i xs m = if xs.length = d.ps.length then back m.length (evSs cl d.body (xs.map .v ++ List.replicate (d.ns.length - d.ps.length) .un) m) else .bad) :
    FnOk P w K mg base (L2.CX P w) (n + 1) f fd d.ps (spP K cl' i) := by
  unfold defB at hg
  simp only [Bool.and_eq_true, beq_iff_eq] at hg
  obtain ⟨⟨⟨⟨⟨h1, h2⟩, h3⟩, h4⟩, h5⟩, h6⟩ := hg
  obtain ⟨e, c0, x0, p1, y, p2, z, p3, p4, eb, eg, k1, k2, k3, k4, k5, k6, k7, k8⟩ := tpB_inv ht
  subst k1
  have S := scope_of h5
  refine F.ok S (fun vs H Q E h => ?_) fun cdv A outer s H vs Q E hr h => ?_
  · obtain ⟨ks, m, Hz, x, c, r, hl, _⟩ := h
    rw [vrsLen r, k7]; rfl
  · have oks := E0.oks (E := E) (s := s) (H := H) (outer := outer) (A := A) (cdv := cdv) (f := f) (qual := g.qual) S hr
    have pr := pss_one (ps_ret (pos := p4) (pe_ifExp (pos := p3) (sC (.isin (.var 0) ["list", "tuple"]) oks.toOkX c0 k4) (pe_callTy (p := p1) (pos := p2) cb_tupP (gl_of k2) (E0.hf "tuple" (by decide +kernel)) (by decide +kernel) (pa_cons (sE e oks.toOkX y k5) pa_nil (starOne k3 _ _)) (by decide) (by decide) (starOne k3 _ _) (starNone _ _ rfl)) (sE (.var 0) oks.toOkX z k6)))
    rw [← eg] at pr
    refine ⟨_, pr, ?_⟩
    obtain ⟨ks, m, Hz, x, c, r, hx, a⟩ := h
    rw [hcl, if_pos (by rw [k7]; rfl), eb] at a
    have hpl : d.ps.length ≤ d.ns.length := by have := congrArg List.length S.pre; rw [List.length_take] at this; omega
    obtain ⟨v, hv0, rv⟩ : ∃ v, vs = [v] ∧ VR K ks Hz v (.d x) := by
      cases r with
      | cons a1 b1 => cases b1; exact ⟨_, rfl, a1⟩
    subst hv0
    let r0 : Env' := [MV.d x].map Slot.v ++ List.replicate (d.ns.length - d.ps.length) Slot.un
    have er : ER K ks Hz H r0 (L2.start d.ns [v]) := by
      refine ⟨?_, fun j s' e => ?_, fun j k xs' ys' _ e => ?_⟩
      · unfold L2.start
        simp [r0, k7]
      · show SR K ks Hz H s' (L2.start d.ns [v])[j]?
        unfold L2.start
        cases j with
        | zero => simp [r0] at e; subst e; exact .v rv
        | succ j =>
          simp only [r0, List.map_cons, List.map_nil, List.cons_append, List.nil_append, List.getElem?_cons_succ] at e
          rw [List.eq_of_mem_replicate (List.mem_of_getElem? e)]
          exact .un _
      · exfalso
        cases j with
        | zero => simp [r0] at e
        | succ j =>
          simp only [r0, List.map_cons, List.map_nil, List.cons_append, List.nil_append, List.getElem?_cons_succ] at e
          have := List.eq_of_mem_replicate (List.mem_of_getElem? e)
          cases this
    have et : evT (evE cl (.isin (.var 0) ["list", "tuple"])) r0 m = .ok true m := by
      cases x <;> first | rfl | (cases hx; done)
    have ee : evE cl (.ite (.isin (.var 0) ["list", "tuple"]) (.b1 .tup e) (.var 0)) r0 m = (evE cl e r0 m).bind fun x m1 => (match x with
        | .d x => optD (b1D .tup x) m1
        | _ => .bad) := by
      cases x <;> first | rfl | (cases hx; done)
    refine ⟨ks, m, Hz, r0, c, er, ?_⟩
    rw [et]
    intro ks1 Hz1 H1 b x1 c1 hb
    have hb' : b = true := hb
    subst hb'
    rw [if_pos rfl]
    refine ⟨ks1, m, Hz1, r0, c1, er.up x1, ?_⟩
    have a2 : Aft K (RVp K) (fun c d _ H' => E c d H') ks Hz H [] Q (back m.length (SRes.of (evE cl (.ite (.isin (.var 0) ["list", "tuple"]) (.b1 .tup e) (.var 0))  r0 m) r0 fun x m1 => .rt x m1)) := by
      have z : ∀ q : Res MV, (match SRes.of q r0 (fun x m1 => SRes.rt x m1) with
        | .nx r1 m1 => evSs cl .nil r1 m1
        | x => x) = SRes.of q r0 fun x m1 => .rt x m1 := fun q => by cases q <;> rfl
      have y2 : evSs cl (.cons (.ret (.ite (.isin (.var 0) ["list", "tuple"]) (.b1 .tup e) (.var 0))) .nil) r0 m = SRes.of (evE cl (.ite (.isin (.var 0) ["list", "tuple"]) (.b1 .tup e) (.var 0)) r0 m) r0 fun x m1 => .rt x m1 := by
        rw [← z]; rfl
      rw [← y2]
      exact a
    rw [ee] at a2
    have hn : m.length = ks.length := c.len.symm
    have hcl2 : ∀ y m1, evE cl e r0 m = .ok y m1 → ∃ ds, y = .d (.list ds) := fun y m1 h => by
      obtain ⟨t, it, c1, e1, own, rfl⟩ := k8
      exact comp_list h
    generalize evE cl e r0 m = q at a2 hcl2
    cases q with
    | bad => exact a2.elim
    | ex cc x m1 =>
      intro ks2 Hz2 H2 d' x2 c2 xr
      obtain ⟨x3, c3⟩ := cutBack hn (x1.trans x2) c2
      exact a2 ks Hz2 H2 d' x3 c3 xr
    | ok y m1 =>
      obtain ⟨ds, rfl⟩ := hcl2 y m1 rfl
      intro ks2 Hz2 H2 v2 x2 c2 rv2
      refine ⟨ks2, m1, Hz2, v2, ds, rfl, c2, rv2.rp, fun Hz3 H3 w3 x3 c3 rp3 pl3 => ?_⟩
      obtain ⟨x4, c4⟩ := cutBack hn ((x1.trans x2).trans x3) c3
      exact a2 ks Hz3 H3 w3 x4 c4 ⟨.d rp3, pl3⟩
theorem kwb_of {K : PySem.W.Frag} {x qual : Str} {as : List Arg} {kd ds} {body : List Stmt} {scope : Scope} {kws : List (Str × V)} {f : Addr} {fd : FuncData} {ps : List Str} (F : FunD K x qual ⟨[], as, none, [], kd, none, ds⟩ body scope [] kws f fd) (ha : as.map (·.arg) = ps) : KwB fd ps := by
  obtain ⟨oc, od, dV, kV, doc, pm, an, cdv, ct, osl, rfl, _, _, hD, _⟩ := F.ex
  rcases hD with ⟨_, rfl⟩ | ⟨e, _⟩
  · exact fun s us ws ks rs h1 h2 h3 h4 h5 h6 h7 => .of_eq (bind_kw ha kV doc pm an cdv ct us ws ks rs h1 h2 h3 h4 h5 h6 h7)
  · exact absurd rfl e
theorem fns0 {T : Tab} {fa : List He.Fa} {DL : List He.DefD} {K : PySem.W.Frag} {mg : Str → Option Value} {h : Heap} (X : K.In h) (G : h.Ns mainGlobals mg) (c : He.SaysD fa DL K)
    (hall : allB T T.fs DL = true) (hfa : (T.fs.all fun d => fa.any fun z => match z with | .glo x => x == d.name | _ => false) = true) (i : Nat) (d : Def) (hi : T.fs[i]? = some d) :
    ∃ (g : He.DefD) (fd : FuncData), DL[i]? = some g ∧ defB T d g = true ∧ FunD K g.name g.qual g.params g.body g.scope (g.dvs K) (g.kws K) (He.ga K d.name) fd ∧ mg d.name = some (.ref (He.ga K d.name)) ∧ PySem.W.keepIn K (.ref (He.ga K d.name)) = true ∧ Binds K fd d.ps [] ∧ d.ps.Nodup ∧ KwB fd d.ps ∧
      ∀ (s : Shared) (us : List Value), us.length = d.ps.length → BindsTo s fd ⟨us, []⟩ (d.ps.zip us) := by
  have facts := (He.ba (show ((fa.all fun f => f.ok K) && DL.all fun d => d.ok K) = true from congrArg (fun z : He.AlD => z.1) c)).1
  obtain ⟨g, hg, hd⟩ := allB_at hall i d hi
  obtain ⟨fd, F⟩ := c.def_ i hg
  have hd' := hd
  unfold defB at hd
  simp only [Bool.and_eq_true, beq_iff_eq] at hd
  obtain ⟨⟨⟨⟨⟨h1, h2⟩, h3⟩, h4⟩, h5⟩, h6⟩ := hd
  have hat : He.fAd K g.at_ = He.ga K d.name := by rw [h1]; rfl
  rw [hat] at F
  have hm : mg d.name = some (.ref (He.ga K d.name)) := by
    have := List.all_eq_true.mp hfa d (List.mem_of_getElem? hi)
    obtain ⟨z, hz, e⟩ := List.any_eq_true.mp this
    cases z <;> simp at e
    subst e
    exact He.glo_ok X G (List.all_eq_true.mp facts _ hz)
  refine ⟨g, fd, hg, hd', F, hm, F.kp, ?_⟩
  have hdv : g.dvs K = [] := by unfold He.DefD.dvs; rw [List.isEmpty_iff.mp h2]; rfl
  rw [hdv] at F
  have nd : d.ps.Nodup := by
    have S := scope_of h5
    have h8 := S.nd
    rw [← S.pre]
    exact h8.sublist (List.take_sublist _ _)
  revert h4 F
  cases g with
  | mk at_ name qual params body scope dfl kwd =>
    intro F h4
    dsimp only at F h4 ⊢
    obtain ⟨po, as, va, ko, kd, kwa, ds⟩ := params
    match po, va, ko, kwa, h4, F with
    | [], none, [], none, h4, F =>
      have h4' : as.map (·.arg) = d.ps := eq_of_beq h4
      exact ⟨F.bindsN fun kV doc pm an cdv ct us hl => bind_all nd h4' kV doc pm an cdv ct us hl, nd, kwb_of F h4', fun s us hl => F.bindsA (fun kV doc pm an cdv ct us hl => bind_all nd h4' kV doc pm an cdv ct us hl) s us hl⟩
def zonB (K : PySem.W.Frag) (p : Str × Str) : Bool := (He.Fa.str p.1 p.2).ok K
def donB (K : PySem.W.Frag) (p : Str × List (Str × Str)) : Bool := (He.Fa.glo p.1).ok K && p.2.all fun q => (match PySem.W.nsIn K (He.ga K p.1) q.1 with
  | some (some (.str y _)) => decide (y = q.2)
  | _ => false)
theorem donB_ok {K : PySem.W.Frag} {w : World} {h : Heap} {mg : Str → Option Value} {p : Str × List (Str × Str)} (X : K.In h) (G : h.Ns mainGlobals mg) (hb : donB K p = true) (hd : He.dicW K (He.ga K p.1) = some (He.keysIn w.params (p.2.map (·.1)))) :
    ∃ a, mg p.1 = some (.ref a) ∧ ∀ z v, p.2.lookup z = some v → KDct K w a z (.str v) := by
  obtain ⟨h1, h2⟩ := He.ba hb
  refine ⟨_, He.glo_ok X G h1, fun z v hz => ?_⟩
  obtain ⟨es, n, D⟩ := He.dicW_ok hd
  have hm : (z, v) ∈ p.2 := PySem.mem_of_lookup hz
  have q := List.all_eq_true.mp h2 _ hm
  cases e : PySem.W.nsIn K (He.ga K p.1) z with
  | none => simp only [e] at q; cases q
  | some o =>
    cases o with
    | none => simp only [e] at q; cases q
    | some u =>
      cases u with
      | str y t =>
        simp only [e] at q
        have : y = v := of_decide_eq_true q
        subst this
        exact ⟨es, n, .str y t, D.at_, D.lit, e, t, rfl⟩
      | _ => simp only [e] at q; cases q
theorem fns_ok {T : Tab} {fa : List He.Fa} {DL : List He.DefD} {P : Program} {w : World} {K : PySem.W.Frag} {mg : Str → Option Value} {base h : Heap} (X : K.In h) (G : h.Ns mainGlobals mg) (c : He.SaysD fa DL K)
    (hall : allB T T.fs DL = true) (hfa : (T.fs.all fun d => fa.any fun z => match z with | .glo x => x == d.name | _ => false) = true) (hfk : (T.ks.all fun p => fa.any fun z => match z with | .int x i => x == p.1 && i == p.2 | _ => false) = true) (hfb : (bnames.all fun y => fa.any fun z => match z with | .free x => x == y | _ => false) = true) (hxs : (T.xs.all fun x => exkB T.cs K x) = true) (hfx : (T.fx.all fun p => exfB T.cs P K p) = true) (hzs : (T.zs.all fun p => zonB K p) = true) (hds : (T.ds.all fun p => donB K p) = true) (hdw : T.ds.map (fun p => He.dicW K (He.ga K p.1)) = T.ds.map fun p => some (He.keysIn w.params (p.2.map (·.1)))) (htp : (T.tp.all fun i => match T.fs[i]?, DL[i]? with | some d, some g => tpB T d g | _, _ => false) = true) :
    ∀ (n : Nat), (∀ (i : Nat) (d : Def), T.fs[i]? = some d → ∀ (g : He.DefD) (fd : FuncData), defB T d g = true → FunD K g.name g.qual g.params g.body g.scope (g.dvs K) (g.kws K) (He.ga K d.name) fd → FnOk P w K mg base (L2.CX P w) n (He.ga K d.name) fd d.ps (spF K (callF T.fs n) i d.ps.length)) ∧
      ∀ i ∈ T.tp, ∀ d, T.fs[i]? = some d → ∀ (g : He.DefD) (fd : FuncData), DL[i]? = some g → defB T d g = true → FunD K g.name g.qual g.params g.body g.scope (g.dvs K) (g.kws K) (He.ga K d.name) fd → FnOk P w K mg base (L2.CX P w) n (He.ga K d.name) fd d.ps (spP K (callF T.fs n) i) := by
  have facts := (He.ba (show ((fa.all fun f => f.ok K) && DL.all fun d => d.ok K) = true from congrArg (fun z : He.AlD => z.1) c)).1
  have free : ∀ x ∈ bnames, mg x = none := fun x hx => by
    have := List.all_eq_true.mp hfb x hx
    obtain ⟨z, hz, e⟩ := List.any_eq_true.mp this
    cases z <;> simp at e
    subst e
    exact He.free_ok X G (List.all_eq_true.mp facts _ hz)
  have kon : ∀ x i, T.ks.lookup x = some i → ∃ t, mg x = some (.int i t) := fun x i hx => by
    have hm : (x, i) ∈ T.ks := PySem.mem_of_lookup hx
    have := List.all_eq_true.mp hfk _ hm
    obtain ⟨z, hz, e⟩ := List.any_eq_true.mp this
    cases z <;> simp at e
    obtain ⟨rfl, rfl⟩ := e
    exact He.int_ok X G (List.all_eq_true.mp facts _ hz)
  have exk : ∀ x ∈ T.xs, ExK T.cs K mg x := fun x hx => exk_ok X G (List.all_eq_true.mp hxs x hx)
  have exf : ∀ p ∈ T.fx, ExF T.cs P K mg p.1 p.2 := fun p hp => exf_ok X G (List.all_eq_true.mp hfx p hp)
  have zon : ∀ x z, T.zs.lookup x = some z → ∃ t, mg x = some (.str z t) := fun x z hx => by
    have hm : (x, z) ∈ T.zs := PySem.mem_of_lookup hx
    exact He.str_ok X G (List.all_eq_true.mp hzs _ hm)
  have don : ∀ x ps, T.ds.lookup x = some ps → ∃ a, mg x = some (.ref a) ∧ ∀ z v, ps.lookup z = some v → KDct K w a z (.str v) := fun x ps hx => by
    have hm : (x, ps) ∈ T.ds := PySem.mem_of_lookup hx
    exact donB_ok X G (List.all_eq_true.mp hds _ hm) (List.map_inj_left.mp hdw _ hm)
  have tpAt : ∀ i ∈ T.tp, ∀ d g, T.fs[i]? = some d → DL[i]? = some g → tpB T d g = true := fun i hi d g h1 h2 => by
    have := List.all_eq_true.mp htp i hi
    rw [h1, h2] at this
    exact this
  have one : ∀ i ∈ T.tp, ∀ d, T.fs[i]? = some d → d.ps.length = 1 := fun i hi d hd => by
    obtain ⟨g, fd, hg, _⟩ := fns0 X G c hall hfa i d hd
    obtain ⟨_, _, _, _, _, _, _, _, _, _, _, _, _, _, _, _, _, k7, _⟩ := tpB_inv (tpAt i hi d g hd hg)
    exact k7
  intro n
  induction n with
  | zero =>
    refine ⟨fun i d hi g fd hd F => ?_, fun i hip d hi g fd hg hd F => ?_⟩
    · refine ⟨fun vs H Q E h => ?_, fun A outer s H args us vs Q E _ _ _ _ h => ?_⟩
      · obtain ⟨ks, m, Hz, xs, c, r, hl, _⟩ := h
        rw [vrsLen r, hl]
      · obtain ⟨ks, m, Hz, xs, c, r, hl, a⟩ := h
        exact a.elim
    · refine ⟨fun vs H Q E h => ?_, fun A outer s H args us vs Q E _ _ _ _ h => ?_⟩
      · obtain ⟨ks, m, Hz, xs, c, r, hl, _⟩ := h
        rw [vrsLen r, one i hip d hi]; rfl
      · obtain ⟨ks, m, Hz, xs, c, r, hl, a⟩ := h
        exact a.elim
  | succ n ih =>
    have E0 : HypE T (callF T.fs n) P w K mg base n := by
      refine ⟨free, kon, exk, exf, zon, don, fun j hj e he => ?_, fun j e hj => ?_⟩
      · obtain ⟨g', fd', hg', hd', F', hm', kp', hb', nd', kw', _⟩ := fns0 X G c hall hfa j e he
        exact ⟨_, fd', hm', kp', hb', ih.2 j hj e he g' fd' hg' hd' F'⟩
      · obtain ⟨g', fd', hg', hd', F', hm', kp', hb', nd', kw', _⟩ := fns0 X G c hall hfa j e hj
        exact ⟨_, fd', hm', kp', hb', nd', kw', ih.1 j e hj g' fd' hd' F'⟩
    have st : ∀ (i : Nat) (d : Def), T.fs[i]? = some d → ∀ xs m, callF T.fs (n + 1) i xs m = if xs.length = d.ps.length then back m.length (evSs (callF T.fs n) d.body (xs.map Slot.v ++ List.replicate (d.ns.length - d.ps.length) Slot.un) m) else .bad := fun i d hi xs m => by
      show (match T.fs[i]? with
        | some d => if xs.length = d.ps.length then back m.length (evSs (callF T.fs n) d.body (xs.map Slot.v ++ List.replicate (d.ns.length - d.ps.length) Slot.un) m) else .bad
        | none => .bad) = _
      rw [hi]
    exact ⟨fun i d hi g fd hd F => body_ok (cl := callF T.fs n) (cl' := callF T.fs (n + 1)) E0 hi hd F (st i d hi), fun i hip d hi g fd hg hd F => body_tp (cl := callF T.fs n) (cl' := callF T.fs (n + 1)) E0 hi hd (tpAt i hip d g hi hg) F (st i d hi)⟩
end Mp

set_option Elab.async false
set_option linter.all false
set_option maxRecDepth 100000
set_option maxHeartbeats 4000000
namespace Mp
open PySem PySem.Spec PyProof.Rows L2
/-! ### the law's end -/
def isOk : Res MV → Bool
  | .ok (.d (.bool true)) _ => true
  | _ => false
theorem law_sp {K : PySem.W.Frag} {cl : Calls} {i : Nat} {a : Addr} {ns : List Int} {H : Hp} (hS : SqL K H a (ns.map V.int)) (h : isOk (cl i [.s ns] []) = true) : spF K cl i 1 [.ref a] H (fun v _ => v = .bl true) fun _ _ _ => False := by
  refine ⟨[], [], H, [.s ns], ⟨Same.refl _, rfl, List.nodup_nil, fun k a xs h1 _ => by simp at h1⟩, .cons (.s hS) .nil, rfl, ?_⟩
  generalize cl i [.s ns] [] = z at h
  cases z with
  | ok x m =>
    cases x with
    | d x =>
      cases x with
      | bool b =>
        cases b with
        | true => exact fun ks Hz H' v _ _ rv => dpBool rv.rp
        | false => cases h
      | _ => cases h
    | _ => cases h
  | _ => cases h
theorem facts {T : Tab} {fa : List He.Fa} {DL : List He.DefD} {P : Program} {w : World} {K : PySem.W.Frag} {h : Heap} {mg : Str → Option Value} {f : Addr} {d : Def} {i k : Nat} {x : Str} (X : K.In h) (G : h.Ns mainGlobals mg) (c : He.SaysD fa DL K)
    (hall : allB T T.fs DL = true) (hfa : (T.fs.all fun d => fa.any fun z => match z with | .glo x => x == d.name | _ => false) = true) (hfk : (T.ks.all fun p => fa.any fun z => match z with | .int x i => x == p.1 && i == p.2 | _ => false) = true) (hfb : (bnames.all fun y => fa.any fun z => match z with | .free x => x == y | _ => false) = true) (hxs : (T.xs.all fun x => exkB T.cs K x) = true) (hfx : (T.fx.all fun p => exfB T.cs P K p) = true) (hzs : (T.zs.all fun p => zonB K p) = true) (hds : (T.ds.all fun p => donB K p) = true) (hdw : T.ds.map (fun p => He.dicW K (He.ga K p.1)) = T.ds.map fun p => some (He.keysIn w.params (p.2.map (·.1)))) (htp : (T.tp.all fun i => match T.fs[i]?, DL[i]? with | some d, some g => tpB T d g | _, _ => false) = true)
    (hi : T.fs[i]? = some d) (hm : mg d.name = some (.ref f)) (hp : d.ps = [x]) :
    ∃ fd : FuncData, (∀ (s : Shared) (v : Value), BindsTo s fd ⟨[v], []⟩ [(x, v)]) ∧ ∀ base : Heap, K.In base → base.Ns mainGlobals mg → FnOk P w K mg base (L2.CX P w) k f fd [x] (spF K (callF T.fs k) i 1) := by
  obtain ⟨g, fd, _, hd, F, hm', kp, hb, _, _, hb2⟩ := fns0 X G c hall hfa i d hi
  rw [hm] at hm'
  cases hm'
  refine ⟨fd, fun s v => ?_, fun base _ _ => ?_⟩
  · have := hb2 s [v] (by rw [hp]; rfl)
    rw [hp] at this
    exact this
  · have := (fns_ok (P := P) (w := w) (base := base) X G c hall hfa hfk hfb hxs hfx hzs hds hdw htp k).1 i d hi g fd hd F
    rw [hp] at this
    exact this
/-- what is looked at when the top has run: the defs, the names, the exception classes, the texts, the tables of texts -/
abbrev AlE : Type := He.AlD × Bool × List (Option (List (Option (Str × Int))))
def lookE (fa : List He.Fa) (fn : List He.DefD) (P : Program) (xs : List Str) (fx : List (Str × Str)) (zs : List (Str × Str)) (ds : List (Str × List (Str × Str))) (K : PySem.W.Frag) : AlE := (He.obsD fa fn K, ((xs.all fun x => exkB (xs ++ fx.map (·.1)) K x) && fx.all fun p => exfB (xs ++ fx.map (·.1)) P K p) && ((zs.all fun p => zonB K p) && ds.all fun p => donB K p), ds.map fun p => He.dicW K (He.ga K p.1))
def obsE (n : Nat) (fa : List He.Fa) (fn : List He.DefD) (P : Program) (xs : List Str) (fx : List (Str × Str)) (zs : List (Str × Str)) (ds : List (Str × List (Str × Str))) (g : Addr → Option Obj) : AlE := lookE fa fn P xs fx zs ds (He.frG g (cStatics :: He.asD g n))
def valX (fn : List He.DefD) (ds : List (Str × List (Str × Str))) (w : World) : AlE := (He.valD fn, true, ds.map fun p => some (He.keysIn w.params (p.2.map (·.1))))
structure SaysX (fa : List He.Fa) (fn : List He.DefD) (P : Program) (xs : List Str) (fx : List (Str × Str)) (zs : List (Str × Str)) (ds : List (Str × List (Str × Str))) (w : World) (K : PySem.W.Frag) : Prop where
  sd : He.SaysD fa fn K
  sx : (xs.all fun x => exkB (xs ++ fx.map (·.1)) K x) = true
  sf : (fx.all fun p => exfB (xs ++ fx.map (·.1)) P K p) = true
  sz : (zs.all fun p => zonB K p) = true
  sp : (ds.all fun p => donB K p) = true
  sw : ds.map (fun p => He.dicW K (He.ga K p.1)) = ds.map fun p => some (He.keysIn w.params (p.2.map (·.1)))
theorem says_of {fa : List He.Fa} {fn : List He.DefD} {P : Program} {xs : List Str} {fx : List (Str × Str)} {zs : List (Str × Str)} {ds : List (Str × List (Str × Str))} {w : World} {K : PySem.W.Frag} (e : lookE fa fn P xs fx zs ds K = valX fn ds w) : SaysX fa fn P xs fx zs ds w K := by
  have h2 := congrArg (fun z : AlE => z.2.1) e
  obtain ⟨a1, a2⟩ := He.ba h2
  obtain ⟨a3, a4⟩ := He.ba a2
  obtain ⟨a1, a5⟩ := He.ba a1
  exact ⟨congrArg (fun z : AlE => z.1) e, a1, a5, a3, a4, congrArg (fun z : AlE => z.2.2) e⟩
def hookE (n : Nat) (fa : List He.Fa) (fn : List He.DefD) (P : Program) (xs : List Str) (fx : List (Str × Str)) (zs : List (Str × Str)) (ds : List (Str × List (Str × Str))) : PySem.W.Hook where
  α := AlE
  obs := fun s => obsE n fa fn P xs fx zs ds s.heap.get?
  val := fun w => valX fn ds w
  says := fun w h => ∃ K : PySem.W.Frag, K.In h ∧ SaysX fa fn P xs fx zs ds w K
  of := fun _ _ e => ⟨_, He.frG_in, says_of e⟩
  keeps := fun _ _ _ ⟨K, hK, c⟩ k => ⟨K, PySem.W.Frag.In.keeps hK k, c⟩
theorem obsE_eq {n : Nat} {fa : List He.Fa} {fn : List He.DefD} {P : Program} {xs : List Str} {fx : List (Str × Str)} {zs : List (Str × Str)} {ds : List (Str × List (Str × Str))} {g : Addr → Option Obj} {s : Shared} (h : ∀ a, g a = s.heap.get? a) : obsE n fa fn P xs fx zs ds g = (hookE n fa fn P xs fx zs ds).obs s := by
  have e : g = s.heap.get? := funext h
  rw [e] <;> rfl
theorem noCX {P : Program} {w : World} {outer : List Env} {H : Hp} {s : Shared} {e : Value} {s' : Shared} : L2.CX P w outer H s (fun _ _ _ => False) e s' → False := fun h => by
  obtain ⟨_, _, _, _, _, _, _, _, _, _, _, _, z⟩ := h
  exact z.elim
/-- where nothing is let out -/
theorem fnOk0 {P : Program} {w : World} {K : PySem.W.Frag} {mg : Str → Option Value} {base : Heap} {k : Nat} {f : Addr} {fd : FuncData} {ps : List Str} {sp : Sp} (F : FnOk P w K mg base (L2.CX P w) k f fd ps sp) : FnOk P w K mg base CX0 k f fd ps (fun vs H Q E => E = (fun _ _ _ => False) ∧ sp vs H Q E) := by
  refine ⟨fun vs H Q E h => F.len vs H Q E h.2, fun A outer s H args us vs Q E hr e0 hb hv hs => ?_⟩
  obtain ⟨rfl, hs⟩ := hs
  refine codeAny_mono (F.run A outer s H args us vs Q _ hr e0 hb hv hs) fun r s' hq => ?_
  cases r with
  | error e => exact (noCX hq).elim
  | ok fl => cases fl <;> exact hq
end Mp

set_option maxRecDepth 100000
set_option linter.all false
set_option Elab.async false
namespace Mp
open PySem PySem.Spec PyProof.Rows L2

/-! ### evaluation, one constructor at a time -/
section
variable (cl : Calls) (r : Env') (m : Mem)
@[simp] theorem evE_var (i : Nat) : evE cl (.var i) r m = (match r[i]? with | some (.v x) => .ok x m | _ => .bad) := by simp only [evE]; try rfl
@[simp] theorem evE_kn : evE cl .kn r m = .ok (.d .none) m := by simp only [evE]; try rfl
@[simp] theorem evE_kb (b : Bool) : evE cl (.kb b) r m = .ok (.d (.bool b)) m := by simp only [evE]; try rfl
@[simp] theorem evE_ki (i : Int) : evE cl (.ki i) r m = .ok (.d (.int i)) m := by simp only [evE]; try rfl
@[simp] theorem evE_ks (x : Str) : evE cl (.ks x) r m = .ok (.d (.str x)) m := by simp only [evE]; try rfl
@[simp] theorem evE_kg (x : Str) (i : Int) : evE cl (.kg x i) r m = .ok (.d (.int i)) m := by simp only [evE]; try rfl
@[simp] theorem evE_kz (x z : Str) : evE cl (.kz x z) r m = .ok (.d (.str z)) m := by simp only [evE]; try rfl
def kdxM (ps : List (Str × Str)) : MV → Mem → Res MV
  | .d (.str z), m => optD ((ps.lookup z).map .str) m
  | _, _ => .bad
@[simp] theorem kdxM_s (ps : List (Str × Str)) (z : Str) : kdxM ps (.d (.str z)) m = optD ((ps.lookup z).map .str) m := (rfl)
@[simp] theorem evE_kdx (x : Str) (ps : List (Str × Str)) (e : CE) : evE cl (.kdx x ps e) r m = (evE cl e r m).bind (kdxM ps) := by
  simp only [evE]; congr 1; funext x m1; rcases x with (_ | _ | _ | _ | _ | _ | _) | _ | _ | _ <;> rfl
def binM (op : Bop) : MV → MV → Mem → Res MV
  | .d x, .d y, m => optD (binD op x y) m
  | _, _, _ => .bad
@[simp] theorem binM_d (op : Bop) (x y : D) : binM op (.d x) (.d y) m = optD (binD op x y) m := (rfl)
@[simp] theorem evE_bin (op : Bop) (a b : CE) : evE cl (.bin op a b) r m = (evE cl a r m).bind fun x m1 => (evE cl b r m1).bind fun y m2 => binM op x y m2 := by
  simp only [evE]; congr 1; funext x m1; congr 1; funext y m2; cases x <;> cases y <;> rfl
def negM : MV → Mem → Res MV
  | .d (.int i), m => .ok (.d (.int (-i))) m
  | _, _ => .bad
@[simp] theorem negM_i (i : Int) : negM (.d (.int i)) m = .ok (.d (.int (-i))) m := (rfl)
@[simp] theorem evE_neg (a : CE) : evE cl (.neg a) r m = (evE cl a r m).bind negM := by
  simp only [evE]; congr 1; funext x m1; rcases x with (_ | _ | _ | _ | _ | _ | _) | _ | _ | _ <;> rfl
def cmpM (op : Cop) : MV → MV → Mem → Res MV
  | .d x, .d y, m => optB (cmpD op x y) m
  | .d x, .t kvs, m => optB (inT op x kvs) m
  | _, _, _ => .bad
@[simp] theorem cmpM_d (op : Cop) (x y : D) : cmpM op (.d x) (.d y) m = optB (cmpD op x y) m := (rfl)
@[simp] theorem cmpM_t (op : Cop) (x : D) (kvs : List (Int × D)) : cmpM op (.d x) (.t kvs) m = optB (inT op x kvs) m := (rfl)
@[simp] theorem inT_in (i : Int) (kvs : List (Int × D)) : inT .in_ (.int i) kvs = some (getT kvs i).isSome := (rfl)
@[simp] theorem inT_nin (i : Int) (kvs : List (Int × D)) : inT .nin (.int i) kvs = some (!(getT kvs i).isSome) := (rfl)
def dctN : MV → Mem → Res MV
  | .d (.tuple ds), m => (match prsOf ds with
    | some kvs => if (kvs.map (·.1)).Nodup then .ok (.t kvs) m else .bad
    | none => .bad)
  | _, _ => .bad
theorem dctN_t (ds : List D) (kvs : List (Int × D)) (h : prsOf ds = some kvs) (hn : (kvs.map (·.1)).Nodup) : dctN (.d (.tuple ds)) m = .ok (.t kvs) m := by
  simp only [dctN, h, if_pos hn]
def dctM (cl : Calls) (f : Nat) : MV → Mem → Res MV
  | .d x, m => if isSeq x = true then (cl f [.d x] m).bind dctN else .bad
  | _, _ => .bad
@[simp] theorem dctM_d (cl : Calls) (f : Nat) (x : D) : dctM cl f (.d x) m = if isSeq x = true then (cl f [.d x] m).bind dctN else .bad := (rfl)
@[simp] theorem evE_dctT (f : Nat) (a : CE) : evE cl (.dctT f a) r m = (evE cl a r m).bind (dctM cl f) := by
  simp only [evE]; congr 1; funext x m1
  cases x <;> try rfl
  rename_i x
  simp only [dctM]
  congr 1; congr 1; funext y m2
  rcases y with (_ | _ | _ | _ | _ | _ | _) | _ | _ | _ <;> rfl
@[simp] theorem evE_cmp (op : Cop) (a b : CE) : evE cl (.cmp op a b) r m = (evE cl a r m).bind fun x m1 => (evE cl b r m1).bind fun y m2 => cmpM op x y m2 := by
  simp only [evE]; congr 1; funext x m1; congr 1; funext y m2; cases x <;> cases y <;> rfl
def cmpC (op : Cop) : MV → MV → Mem → Res MV
  | .d x, .d y, m => optB (cmpD op x y) m
  | _, _, _ => .bad
@[simp] theorem cmpC_d (op : Cop) (x y : D) : cmpC op (.d x) (.d y) m = optB (cmpD op x y) m := (rfl)
def chainM (o1 o2 : Cop) : MV → MV → (Mem → Res MV) → Mem → Res MV
  | .d x, .d y, c, m => (match cmpD o1 x y with
      | some true => (c m).bind (cmpC o2 (.d y))
      | some false => .ok (.d (.bool false)) m
      | none => .bad)
  | _, _, _, _ => .bad
theorem chainM_some (o1 o2 : Cop) (x y : D) (c : Mem → Res MV) (b : Bool) (h : cmpD o1 x y = some b) : chainM o1 o2 (.d x) (.d y) c m = if b = true then (c m).bind (cmpC o2 (.d y)) else .ok (.d (.bool false)) m := by
  simp only [chainM, h]; cases b <;> rfl
@[simp] theorem chainM_lei (o2 : Cop) (i j : Int) (c : Mem → Res MV) : chainM .le o2 (.d (.int i)) (.d (.int j)) c m = if decide (i ≤ j) = true then (c m).bind (cmpC o2 (.d (.int j))) else .ok (.d (.bool false)) m := chainM_some _ _ _ _ _ _ _ rfl
@[simp] theorem chainM_lti (o2 : Cop) (i j : Int) (c : Mem → Res MV) : chainM .lt o2 (.d (.int i)) (.d (.int j)) c m = if decide (i < j) = true then (c m).bind (cmpC o2 (.d (.int j))) else .ok (.d (.bool false)) m := chainM_some _ _ _ _ _ _ _ rfl
@[simp] theorem evE_chain (o1 o2 : Cop) (a b c : CE) : evE cl (.chain o1 o2 a b c) r m = (evE cl a r m).bind fun x m1 => (evE cl b r m1).bind fun y m2 => chainM o1 o2 x y (evE cl c r) m2 := by
  simp only [evE]; congr 1; funext x m1; congr 1; funext y m2
  cases x <;> cases y <;> try rfl
  rename_i x y
  simp only [chainM]
  cases cmpD o1 x y with
  | none => rfl
  | some b =>
    cases b with
    | false => rfl
    | true =>
      simp only
      congr 1; funext z m3
      cases z <;> rfl
@[simp] theorem evE_band (es : CL) : evE cl (.band es) r m = evAnd cl es r m := by simp only [evE]; try rfl
@[simp] theorem evE_bor (es : CL) : evE cl (.bor es) r m = evOr cl es r m := by simp only [evE]; try rfl
def notM : MV → Mem → Res MV
  | .d (.bool c), m => .ok (.d (.bool (!c))) m
  | _, _ => .bad
@[simp] theorem notM_b (c : Bool) : notM (.d (.bool c)) m = .ok (.d (.bool (!c))) m := (rfl)
@[simp] theorem evE_not (a : CE) : evE cl (.not_ a) r m = (evE cl a r m).bind notM := by
  simp only [evE]; congr 1; funext x m1; rcases x with (_ | _ | _ | _ | _ | _ | _) | _ | _ | _ <;> rfl
def orTM : MV → Res MV → Mem → Res MV
  | .d (.list []), b, _ => b
  | .d (.list (x :: xs)), _, m => .ok (.d (.list (x :: xs))) m
  | _, _, _ => .bad
@[simp] theorem orTM_nil (b : Res MV) : orTM (.d (.list [])) b m = b := (rfl)
@[simp] theorem orTM_cons (x : D) (xs : List D) (b : Res MV) : orTM (.d (.list (x :: xs))) b m = .ok (.d (.list (x :: xs))) m := (rfl)
@[simp] theorem evE_orT (a b : CE) : evE cl (.orT a b) r m = (evE cl a r m).bind fun x m1 => orTM x (evE cl b r m1) m1 := by
  simp only [evE]; congr 1; funext x m1
  rcases x with (_ | _ | _ | _ | (_ | _) | _ | _) | _ | _ | _ <;> rfl
def iteM {α : Type} : MV → Res α → Res α → Res α
  | .d (.bool true), a, _ => a
  | .d (.bool false), _, b => b
  | _, _, _ => .bad
@[simp] theorem iteM_b {α : Type} (c : Bool) (a b : Res α) : iteM (.d (.bool c)) a b = if c = true then a else b := by cases c <;> rfl
@[simp] theorem evE_ite (t a b : CE) : evE cl (.ite t a b) r m = (evE cl t r m).bind fun x m1 => iteM x (evE cl a r m1) (evE cl b r m1) := by
  simp only [evE]; congr 1; funext x m1
  rcases x with (_ | b | _ | _ | _ | _ | _) | _ | _ | _ <;> try rfl
  cases b <;> rfl
@[simp] theorem evE_tup (es : CL) : evE cl (.tup es) r m = (evL cl es r m).bind fun xs m1 => if xs.length ≤ sizeLine then .ok (.d (.tuple xs)) m1 else .bad := by simp only [evE]; try rfl
@[simp] theorem evE_lst (es : CL) : evE cl (.lst es) r m = (evL cl es r m).bind fun xs m1 => if xs.length ≤ sizeLine then .ok (.d (.list xs)) m1 else .bad := by simp only [evE]; try rfl
def idxM' : MV → MV → Mem → Res MV
  | x, .d y, m => idxM x y m
  | _, _, _ => .bad
@[simp] theorem idxM'_d (x : MV) (y : D) : idxM' x (.d y) m = idxM x y m := (rfl)
@[simp] theorem evE_idx (a i : CE) : evE cl (.idx a i) r m = (evE cl a r m).bind fun x m1 => (evE cl i r m1).bind fun y m2 => idxM' x y m2 := by
  simp only [evE]; congr 1; funext x m1; congr 1; funext y m2; cases y <;> rfl
@[simp] theorem evE_newc (es : CL) : evE cl (.newc es) r m = (evL cl es r m).bind fun xs m1 => if xs.length ≤ sizeLine then .ok (.c m1.length) (m1 ++ [xs]) else .bad := by simp only [evE]; try rfl
def slcM : MV → Option Int → Option Int → Mem → Res MV
  | .d x, l, h, m => optD (slcD x l h) m
  | .s ns, l, h, m => optD (slcD (.list (ns.map .int)) l h) m
  | _, _, _, _ => .bad
@[simp] theorem slcM_d (x : D) (l h : Option Int) : slcM (.d x) l h m = optD (slcD x l h) m := (rfl)
@[simp] theorem slcM_s (ns : List Int) (l h : Option Int) : slcM (.s ns) l h m = optD (slcD (.list (ns.map .int)) l h) m := (rfl)
@[simp] theorem evE_slc (a lo hi : CE) : evE cl (.slc a lo hi) r m = (evE cl a r m).bind fun x m1 => (partO lo (evE cl lo) r m1).bind fun l m2 => (partO hi (evE cl hi) r m2).bind fun h m3 => slcM x l h m3 := by
  simp only [evE]; congr 1; funext x m1; congr 1; funext l m2; congr 1; funext h m3; cases x <;> rfl
@[simp] theorem partO_no (ev : Env' → Mem → Res MV) : partO .no ev r m = .ok none m := (rfl)
def toI : MV → Mem → Res (Option Int)
  | .d (.int i), m => .ok (some i) m
  | _, _ => .bad
@[simp] theorem toI_i (i : Int) : toI (.d (.int i)) m = .ok (some i) m := (rfl)
theorem partO_e (e : CE) (ev : Env' → Mem → Res MV) (h : noB e = false) : partO e ev r m = (ev r m).bind toI := by
  simp only [partO, h, Bool.false_eq_true, if_false]; congr 1; funext x m1; rcases x with (_ | _ | _ | _ | _ | _ | _) | _ | _ | _ <;> rfl
@[simp] theorem partO_ki (i : Int) (ev : Env' → Mem → Res MV) : partO (.ki i) ev r m = (ev r m).bind toI := partO_e _ _ _ _ rfl
@[simp] theorem partO_var (i : Nat) (ev : Env' → Mem → Res MV) : partO (.var i) ev r m = (ev r m).bind toI := partO_e _ _ _ _ rfl
@[simp] theorem partO_bin (o : Bop) (a b : CE) (ev : Env' → Mem → Res MV) : partO (.bin o a b) ev r m = (ev r m).bind toI := partO_e _ _ _ _ rfl
@[simp] theorem partO_neg (a : CE) (ev : Env' → Mem → Res MV) : partO (.neg a) ev r m = (ev r m).bind toI := partO_e _ _ _ _ rfl
@[simp] theorem partO_idx (a b : CE) (ev : Env' → Mem → Res MV) : partO (.idx a b) ev r m = (ev r m).bind toI := partO_e _ _ _ _ rfl
@[simp] theorem partO_call (f : Nat) (a : CL) (ev : Env' → Mem → Res MV) : partO (.call f a) ev r m = (ev r m).bind toI := partO_e _ _ _ _ rfl
def revM : MV → Mem → Res MV
  | .d (.list xs), m => .ok (.d (.list xs.reverse)) m
  | .d (.tuple xs), m => .ok (.d (.tuple xs.reverse)) m
  | _, _ => .bad
@[simp] theorem revM_l (xs : List D) : revM (.d (.list xs)) m = .ok (.d (.list xs.reverse)) m := (rfl)
@[simp] theorem revM_t (xs : List D) : revM (.d (.tuple xs)) m = .ok (.d (.tuple xs.reverse)) m := (rfl)
@[simp] theorem evE_rev (a : CE) : evE cl (.rev a) r m = (evE cl a r m).bind revM := by
  simp only [evE]; congr 1; funext x m1; rcases x with (_ | _ | _ | _ | _ | _ | _) | _ | _ | _ <;> rfl
@[simp] theorem evE_call (f : Nat) (es : CL) : evE cl (.call f es) r m = (evA cl es r m).bind fun xs m1 => cl f xs m1 := by simp only [evE]; try rfl
@[simp] theorem evE_callk (f : Nat) (es ks : CL) (ns : List Nat) : evE cl (.callk f es ks ns) r m = (evA cl es r m).bind fun xs m1 => (evA cl ks r m1).bind fun ys m2 => cl f (ns.filterMap fun i => (xs ++ ys)[i]?) m2 := by simp only [evE]; try rfl
def b1M (op : B1) : MV → Mem → Res MV
  | .d x, m => optD (b1D op x) m
  | _, _ => .bad
@[simp] theorem b1M_d (op : B1) (x : D) : b1M op (.d x) m = optD (b1D op x) m := (rfl)
@[simp] theorem evE_b1 (op : B1) (a : CE) : evE cl (.b1 op a) r m = (evE cl a r m).bind (b1M op) := by
  simp only [evE]; congr 1; funext x m1; rcases x with (_ | _ | _ | _ | _ | _ | _) | _ | _ | _ <;> rfl
def isM (ts : List String) : MV → Mem → Res MV
  | .d x, m => .ok (.d (.bool (ts.any fun t => isD x t))) m
  | _, _ => .bad
@[simp] theorem isM_d (ts : List String) (x : D) : isM ts (.d x) m = .ok (.d (.bool (ts.any fun t => isD x t))) m := (rfl)
@[simp] theorem evE_isin (a : CE) (ts : List String) : evE cl (.isin a ts) r m = (evE cl a r m).bind (isM ts) := by
  simp only [evE]; congr 1; funext x m1; rcases x with (_ | _ | _ | _ | _ | _ | _) | _ | _ | _ <;> rfl
@[simp] theorem evE_index (a b : CE) : evE cl (.index a b) r m = (evE cl a r m).bind fun x m1 => (match x with
    | .d (.list xs) => (evE cl b r m1).bind fun y m2 => (match y with
      | .d y => if plain y = true ∧ plain (.list xs) = true then (match findD xs y with
        | some i => .ok (.d (.int (i : Int))) m2
        | none => .bad) else .bad
      | _ => .bad)
    | _ => .bad) := by simp only [evE]; try rfl
/-- one turn of a comprehension -/
def compF (t : CT) (c e : CE) (own : List (Str × Nat)) (r : Env') (x : MV) (m : Mem) : Res (Option D) := match tgt t x (wipeE r (own.map (·.2))) with
  | some r1 => (evE cl c r1 m).bind fun b m2 => iteM b ((evE cl e r1 m2).bind fun y m3 => (match y with
      | .d y => .ok (some y) m3
      | _ => .bad)) (.ok none m2)
  | none => .bad
@[simp] theorem evE_comp (t : CT) (it : CI) (c e : CE) (own : List (Str × Nat)) : evE cl (.comp t it c e own) r m = (evI cl it r m).bind fun xs m1 => (mapM' (compF cl t c e own r) xs m1).bind fun ys m2 => .ok (.d (.list ys)) m2 := by
  simp only [evE]; congr 1; funext xs m1
  congr 2
  funext x m
  unfold compF
  cases tgt t x (wipeE r (own.map (·.2))) with
  | none => rfl
  | some r1 =>
    simp only
    congr 1; funext b m2
    rcases b with (_ | b | _ | _ | _ | _ | _) | _ | _ | _ <;> try rfl
    cases b <;> rfl
/-- one turn of the inner clause of two -/
def compG (t1 : CT) (c1 e : CE) (vs1 : List Nat) (r1 : Env') (y : MV) (acc : List D) (m : Mem) : Res (List D) := match tgt t1 y (wipeE r1 vs1) with
  | some r2 => (evE cl c1 r2 m).bind fun b m2 => iteM b ((evE cl e r2 m2).bind fun z m3 => (match z with
      | .d z => if acc.length < sizeLine then .ok (acc ++ [z]) m3 else .bad
      | _ => .bad)) (.ok acc m2)
  | none => .bad
def compH (t : CT) (c : CE) (t1 : CT) (it1 : CI) (c1 e : CE) (own : List (Str × Nat)) (vs1 : List Nat) (r : Env') (x : MV) (acc : List D) (m : Mem) : Res (List D) := match tgt t x (wipeE r (own.map (·.2))) with
  | some r1 => (evE cl c r1 m).bind fun b m2 => iteM b ((evI cl it1 r1 m2).bind fun ys m3 => foldA (compG cl t1 c1 e vs1 r1) ys acc m3) (.ok acc m2)
  | none => .bad
@[simp] theorem evE_comp2 (t : CT) (it : CI) (c : CE) (t1 : CT) (it1 : CI) (c1 e : CE) (own : List (Str × Nat)) (vs1 : List Nat) : evE cl (.comp2 t it c t1 it1 c1 e own vs1) r m = (evI cl it r m).bind fun xs m1 => (foldA (compH cl t c t1 it1 c1 e own vs1 r) xs [] m1).bind fun ys m2 => .ok (.d (.list ys)) m2 := by
  simp only [evE]; congr 1; funext xs m1
  congr 2
  funext x acc m
  unfold compH
  cases tgt t x (wipeE r (own.map (·.2))) with
  | none => rfl
  | some r1 =>
    simp only
    congr 1; funext b m2
    have key : ∀ m2 : Mem, ((evI cl it1 r1 m2).bind fun ys m3 => foldA (fun y acc m => match tgt t1 y (wipeE r1 vs1) with
            | some r2 => (evE cl c1 r2 m).bind fun b m2 => (match b with
              | .d (.bool true) => (evE cl e r2 m2).bind fun z m3 => (match z with
                | .d z => if acc.length < sizeLine then .ok (acc ++ [z]) m3 else .bad
                | _ => .bad)
              | .d (.bool false) => .ok acc m2
              | _ => .bad)
            | none => .bad) ys acc m3) = ((evI cl it1 r1 m2).bind fun ys m3 => foldA (compG cl t1 c1 e vs1 r1) ys acc m3) := by
      intro m2
      congr 1; funext ys m3; congr 1
      funext y acc m
      unfold compG
      cases tgt t1 y (wipeE r1 vs1) with
      | none => rfl
      | some r2 =>
        simp only
        congr 1; funext b m2
        rcases b with (_ | b | _ | _ | _ | _ | _) | _ | _ | _ <;> try rfl
        cases b <;> rfl
    rcases b with (_ | b | _ | _ | _ | _ | _) | _ | _ | _ <;> try rfl
    cases b
    · rfl
    · exact key m2
def mmM (mx : Bool) : MV → MV → Mem → Res MV
  | .d (.int i), .d (.int j), m => .ok (.d (.int (if mx then (if j > i then j else i) else (if j < i then j else i)))) m
  | _, _, _ => .bad
@[simp] theorem mmM_i (mx : Bool) (i j : Int) : mmM mx (.d (.int i)) (.d (.int j)) m = .ok (.d (.int (if mx then (if j > i then j else i) else (if j < i then j else i)))) m := (rfl)
@[simp] theorem evE_mm (mx : Bool) (a b : CE) : evE cl (.mm mx a b) r m = (evE cl a r m).bind fun x m1 => (evE cl b r m1).bind fun y m2 => mmM mx x y m2 := by
  simp only [evE]; congr 1; funext x m1; congr 1; funext y m2
  rcases x with (_ | _ | _ | _ | _ | _ | _) | _ | _ | _ <;> rcases y with (_ | _ | _ | _ | _ | _ | _) | _ | _ | _ <;> rfl
@[simp] theorem evE_lenO (i : Nat) : evE cl (.lenO i) r m = (match r[i]? with | some (.own xs) => .ok (.d (.int xs.length)) m | _ => .bad) := by simp only [evE]; try rfl
@[simp] theorem evE_idxO (i : Nat) (e : CE) : evE cl (.idxO i e) r m = (match r[i]? with
    | some (.own xs) => (evE cl e r m).bind fun y m1 => (match y with
      | .d (.int j) => optD (atI xs j) m1
      | _ => .bad)
    | _ => .bad) := by simp only [evE]; try rfl
@[simp] theorem evAnd_1 (e : CE) : evAnd cl (.cons e .nil) r m = evE cl e r m := by simp only [evAnd]; try rfl
@[simp] theorem evAnd_2 (e e2 : CE) (es : CL) : evAnd cl (.cons e (.cons e2 es)) r m = (evE cl e r m).bind fun x m1 => iteM x (evAnd cl (.cons e2 es) r m1) (.ok (.d (.bool false)) m1) := by
  simp only [evAnd]; congr 1; funext x m1
  rcases x with (_ | b | _ | _ | _ | _ | _) | _ | _ | _ <;> try rfl
  cases b <;> rfl
@[simp] theorem evOr_1 (e : CE) : evOr cl (.cons e .nil) r m = evE cl e r m := by simp only [evOr]; try rfl
@[simp] theorem evOr_2 (e e2 : CE) (es : CL) : evOr cl (.cons e (.cons e2 es)) r m = (evE cl e r m).bind fun x m1 => iteM x (.ok (.d (.bool true)) m1) (evOr cl (.cons e2 es) r m1) := by
  simp only [evOr]; congr 1; funext x m1
  rcases x with (_ | b | _ | _ | _ | _ | _) | _ | _ | _ <;> try rfl
  cases b <;> rfl
@[simp] theorem evL_nil : evL cl .nil r m = .ok [] m := by simp only [evL]; try rfl
def consM (x : MV) (y : Mem → Res (List D)) (m : Mem) : Res (List D) := match x with
  | .d x => (y m).bind fun xs m2 => .ok (x :: xs) m2
  | _ => .bad
@[simp] theorem consM_d (x : D) (y : Mem → Res (List D)) : consM (.d x) y m = (y m).bind fun xs m2 => .ok (x :: xs) m2 := (rfl)
@[simp] theorem evL_cons (e : CE) (es : CL) : evL cl (.cons e es) r m = (evE cl e r m).bind fun x m1 => consM x (evL cl es r) m1 := by
  simp only [evL]; rfl
def starM (x : MV) (y : Mem → Res (List D)) (m : Mem) : Res (List D) := match x with
  | .d (.list ys) => (y m).bind fun xs m2 => .ok (ys ++ xs) m2
  | .d (.tuple ys) => (y m).bind fun xs m2 => .ok (ys ++ xs) m2
  | _ => .bad
@[simp] theorem starM_l (ys : List D) (y : Mem → Res (List D)) : starM (.d (.list ys)) y m = (y m).bind fun xs m2 => .ok (ys ++ xs) m2 := (rfl)
@[simp] theorem starM_t (ys : List D) (y : Mem → Res (List D)) : starM (.d (.tuple ys)) y m = (y m).bind fun xs m2 => .ok (ys ++ xs) m2 := (rfl)
@[simp] theorem evL_star (e : CE) (es : CL) : evL cl (.star e es) r m = (evE cl e r m).bind fun x m1 => starM x (evL cl es r) m1 := by
  simp only [evL]; rfl
@[simp] theorem evA_nil : evA cl .nil r m = .ok [] m := by simp only [evA]; try rfl
@[simp] theorem evA_cons (e : CE) (es : CL) : evA cl (.cons e es) r m = (evE cl e r m).bind fun x m1 => (evA cl es r m1).bind fun xs m2 => .ok (x :: xs) m2 := by simp only [evA]; try rfl
def datM : MV → Mem → Res (List MV)
  | .d (.list xs), m => .ok (xs.map .d) m
  | .d (.tuple xs), m => .ok (xs.map .d) m
  | _, _ => .bad
@[simp] theorem datM_l (xs : List D) : datM (.d (.list xs)) m = .ok (xs.map .d) m := (rfl)
@[simp] theorem datM_t (xs : List D) : datM (.d (.tuple xs)) m = .ok (xs.map .d) m := (rfl)
@[simp] theorem evI_dat (e : CE) : evI cl (.dat e) r m = (evE cl e r m).bind datM := by simp only [evI]; congr 1; funext x m1; rcases x with (_ | _ | _ | _ | _ | _ | _) | _ | _ | _ <;> rfl
def rgM (a : Int) : MV → Mem → Res (List MV)
  | .d (.int n), m => if rgOk a n then .ok ((rangeD a n).map .d) m else .bad
  | _, _ => .bad
@[simp] theorem rgM_i (a n : Int) : rgM a (.d (.int n)) m = if rgOk a n then .ok ((rangeD a n).map .d) m else .bad := (rfl)
@[simp] theorem evI_rg1 (e : CE) : evI cl (.rg1 e) r m = (evE cl e r m).bind (rgM 0) := by simp only [evI]; congr 1; funext x m1; rcases x with (_ | _ | _ | _ | _ | _ | _) | _ | _ | _ <;> rfl
def rg2M : MV → MV → Mem → Res (List MV)
  | .d (.int i), .d (.int n), m => if rgOk i n then .ok ((rangeD i n).map .d) m else .bad
  | _, _, _ => .bad
@[simp] theorem rg2M_i (i n : Int) : rg2M (.d (.int i)) (.d (.int n)) m = if rgOk i n then .ok ((rangeD i n).map .d) m else .bad := (rfl)
@[simp] theorem evI_rg2 (a b : CE) : evI cl (.rg2 a b) r m = (evE cl a r m).bind fun x m1 => (evE cl b r m1).bind fun y m2 => rg2M x y m2 := by
  simp only [evI]; congr 1; funext x m1; congr 1; funext y m2
  rcases x with (_ | _ | _ | _ | _ | _ | _) | _ | _ | _ <;> rcases y with (_ | _ | _ | _ | _ | _ | _) | _ | _ | _ <;> rfl
def zipM : MV → MV → Mem → Res (List MV)
  | .d (.list xs), .d (.list ys), m => .ok ((zipD xs ys).map .d) m
  | .d (.tuple xs), .d (.tuple ys), m => .ok ((zipD xs ys).map .d) m
  | .d (.list xs), .d (.tuple ys), m => .ok ((zipD xs ys).map .d) m
  | .d (.tuple xs), .d (.list ys), m => .ok ((zipD xs ys).map .d) m
  | _, _, _ => .bad
@[simp] theorem zipM_l (xs ys : List D) : zipM (.d (.list xs)) (.d (.list ys)) m = .ok ((zipD xs ys).map .d) m := (rfl)
@[simp] theorem zipM_lt (xs ys : List D) : zipM (.d (.list xs)) (.d (.tuple ys)) m = .ok ((zipD xs ys).map .d) m := (rfl)
@[simp] theorem zipM_tl (xs ys : List D) : zipM (.d (.tuple xs)) (.d (.list ys)) m = .ok ((zipD xs ys).map .d) m := (rfl)
@[simp] theorem zipM_t (xs ys : List D) : zipM (.d (.tuple xs)) (.d (.tuple ys)) m = .ok ((zipD xs ys).map .d) m := (rfl)
@[simp] theorem evI_zip (a b : CE) : evI cl (.zip a b) r m = (evE cl a r m).bind fun x m1 => (evE cl b r m1).bind fun y m2 => zipM x y m2 := by
  simp only [evI]; congr 1; funext x m1; congr 1; funext y m2
  rcases x with (_ | _ | _ | _ | _ | _ | _) | _ | _ | _ <;> rcases y with (_ | _ | _ | _ | _ | _ | _) | _ | _ | _ <;> rfl
def enumM : MV → Mem → Res (List MV)
  | .d (.list xs), m => .ok ((enumD 0 xs).map .d) m
  | .d (.tuple xs), m => .ok ((enumD 0 xs).map .d) m
  | _, _ => .bad
@[simp] theorem enumM_t (xs : List D) : enumM (.d (.tuple xs)) m = .ok ((enumD 0 xs).map .d) m := (rfl)
@[simp] theorem enumM_l (xs : List D) : enumM (.d (.list xs)) m = .ok ((enumD 0 xs).map .d) m := (rfl)
@[simp] theorem evI_enum (a : CE) : evI cl (.enum a) r m = (evE cl a r m).bind enumM := by
  simp only [evI]; congr 1; funext x m1
  rcases x with (_ | _ | _ | _ | _ | _ | _) | _ | _ | _ <;> rfl
@[simp] theorem SRes.of_ok {α : Type} (a : α) (k : α → Mem → SRes) : SRes.of (.ok a m) r k = k a m := (rfl)
@[simp] theorem evS_asg (i : Nat) (e : CE) : evS cl (.asg i e) r m = .of (evE cl e r m) r fun x m1 => if i < r.length then .nx (r.set i (.v x)) m1 else .bad := by simp only [evS]; try rfl
@[simp] theorem ownOf_l (xs : List D) : ownOf (.d (.list xs)) m = .ok xs m := (rfl)
@[simp] theorem ownE_lst (es : CL) : ownE cl (.lst es) r m = (evE cl (.lst es) r m).bind ownOf := by simp only [ownE]
@[simp] theorem ownE_comp (t : CT) (it : CI) (c e : CE) (own : List (Str × Nat)) : ownE cl (.comp t it c e own) r m = (evE cl (.comp t it c e own) r m).bind ownOf := by simp only [ownE]
@[simp] theorem ownE_comp2 (t : CT) (it : CI) (c : CE) (t1 : CT) (it1 : CI) (c1 e : CE) (own : List (Str × Nat)) (vs1 : List Nat) : ownE cl (.comp2 t it c t1 it1 c1 e own vs1) r m = (evE cl (.comp2 t it c t1 it1 c1 e own vs1) r m).bind ownOf := by simp only [ownE]
@[simp] theorem ownE_b1 (op : B1) (a : CE) : ownE cl (.b1 op a) r m = (evE cl (.b1 op a) r m).bind ownOf := by simp only [ownE]
@[simp] theorem ownE_bin (op : Bop) (a b : CE) : ownE cl (.bin op a b) r m = (evE cl (.bin op a b) r m).bind ownOf := by simp only [ownE]
@[simp] theorem ownE_slc (a lo hi : CE) : ownE cl (.slc a lo hi) r m = (evE cl (.slc a lo hi) r m).bind ownOf := by simp only [ownE]
@[simp] theorem ownE_orT (a b : CE) : ownE cl (.orT a b) r m = (evE cl (.orT a b) r m).bind ownOf := by simp only [ownE]
@[simp] theorem ownE_call (f : Nat) (es : CL) : ownE cl (.call f es) r m = (evE cl (.call f es) r m).bind (ownCell m.length) := by simp only [ownE]
@[simp] theorem ownE_callk (f : Nat) (es ks : CL) (ns : List Nat) : ownE cl (.callk f es ks ns) r m = (evE cl (.callk f es ks ns) r m).bind (ownCell m.length) := by simp only [ownE]
@[simp] theorem ownE_ite (t a b : CE) : ownE cl (.ite t a b) r m = (evE cl t r m).bind fun x m1 => (match x with
    | .d (.bool true) => ownE cl a r m1
    | .d (.bool false) => ownE cl b r m1
    | _ => .bad) := by simp only [ownE]; try rfl
@[simp] theorem evS_retF (e : CE) : evS cl (.retF e) r m = .of (ownE cl e r m) r fun xs m1 => .rt (.c m1.length) (m1 ++ [xs]) := by simp only [evS]; try rfl
@[simp] theorem evS_retC (i : Nat) : evS cl (.retC i) r m = (match r[i]? with
    | some (.own xs) => .rt (.c m.length) (m ++ [xs])
    | _ => .bad) := by simp only [evS]; try rfl
@[simp] theorem evS_asgO (i : Nat) (e : CE) : evS cl (.asgO i e) r m = .of (ownE cl e r m) r fun xs m1 => if i < r.length then .nx (r.set i (.own xs)) m1 else .bad := by simp only [evS]; try rfl
def nxO (o : Option Env') (m : Mem) : SRes := match o with
  | some r1 => .nx r1 m
  | none => .bad
@[simp] theorem nxO_some (r1 : Env') : nxO (some r1) m = .nx r1 m := (rfl)
def asgTM (t : CTs) (r : Env') : MV → Mem → SRes
  | .d (.tuple xs), m => nxO (tgts t xs r) m
  | .d (.list xs), m => nxO (tgts t xs r) m
  | _, _ => .bad
@[simp] theorem asgTM_t (t : CTs) (xs : List D) : asgTM t r (.d (.tuple xs)) m = nxO (tgts t xs r) m := (rfl)
@[simp] theorem asgTM_l (t : CTs) (xs : List D) : asgTM t r (.d (.list xs)) m = nxO (tgts t xs r) m := (rfl)
@[simp] theorem evS_asgT (t : CTs) (e : CE) : evS cl (.asgT t e) r m = .of (evE cl e r m) r (asgTM t r) := by
  simp only [evS]; congr 1; funext x m1; rcases x with (_ | _ | _ | _ | _ | _ | _) | _ | _ | _ <;> rfl
@[simp] theorem evS_par (l : List Nat) (bs : List Bool) (es : CL) : evS cl (.par l bs es) r m = .of (evP cl es bs r m) r fun xs m1 => nxO (setAll l xs r) m1 := by
  simp only [evS]; rfl
@[simp] theorem setAll_nil : setAll [] [] r = some r := (rfl)
@[simp] theorem setAll_cons (i : Nat) (l : List Nat) (x : Slot) (xs : List Slot) : setAll (i :: l) (x :: xs) r = if i < r.length then setAll l xs (r.set i x) else none := (rfl)
@[simp] theorem evP_nil : evP cl .nil [] r m = .ok [] m := (rfl)
@[simp] theorem evP_f (e : CE) (es : CL) (bs : List Bool) : evP cl (.cons e es) (false :: bs) r m = (evE cl e r m).bind fun x m1 => (evP cl es bs r m1).bind fun ss m2 => .ok (.v x :: ss) m2 := (rfl)
@[simp] theorem evP_t (e : CE) (es : CL) (bs : List Bool) : evP cl (.cons e es) (true :: bs) r m = (ownE cl e r m).bind fun x m1 => (evP cl es bs r m1).bind fun ss m2 => .ok (.own x :: ss) m2 := (rfl)
@[simp] theorem evS_setC (i : Nat) (k e : CE) : evS cl (.setC i k e) r m = .of (evE cl e r m) r fun x m1 => (match x, r[i]? with
    | .d x, some (.v (.c a)) => .of (evE cl k r m1) r fun j m2 => (match j, m2[a]? with
      | .d (.int j), some xs => (match ixN xs.length j with
        | some q => .nx r (m2.set a (xs.set q x))
        | none => .bad)
      | _, _ => .bad)
    | _, _ => .bad) := by simp only [evS]; try rfl
@[simp] theorem evS_setO (i : Nat) (k e : CE) : evS cl (.setO i k e) r m = .of (evE cl e r m) r fun x m1 => (match x, r[i]? with
    | .d x, some (.own xs) => .of (evE cl k r m1) r fun j m2 => (match j with
      | .d (.int j) => (match ixN xs.length j with
        | some q => .nx (r.set i (.own (xs.set q x))) m2
        | none => .bad)
      | _ => .bad)
    | _, _ => .bad) := by simp only [evS]; try rfl
@[simp] theorem evS_app (i : Nat) (e : CE) : evS cl (.app i e) r m = (match r[i]? with
    | some (.own xs) => .of (evE cl e r m) r fun x m1 => (match x with
      | .d x => if xs.length < sizeLine then .nx (r.set i (.own (xs ++ [x]))) m1 else .bad
      | _ => .bad)
    | _ => .bad) := by simp only [evS]; try rfl
@[simp] theorem evS_appPop (i j : Nat) (e : CE) : evS cl (.appPop i j e) r m = (match r[i]?, r[j]? with
    | some (.own xs), some (.own ys) => .of (evE cl e r m) r fun x m1 => (match x with
      | .d (.int k) => if 0 ≤ k ∧ k < 2 ^ 62 ∧ i ≠ j ∧ xs.length < sizeLine then (match ys[k.toNat]? with
        | some y => .nx ((r.set j (.own (ys.eraseIdx k.toNat))).set i (.own (xs ++ [y]))) m1
        | none => .bad) else .bad
      | _ => .bad)
    | _, _ => .bad) := by simp only [evS]; try rfl
@[simp] theorem evS_ext (i : Nat) (e : CE) : evS cl (.ext i e) r m = (match r[i]? with
    | some (.own xs) => .of (evE cl e r m) r fun x m1 => (match x with
      | .d (.list ys) => if xs.length + ys.length ≤ sizeLine then .nx (r.set i (.own (xs ++ ys))) m1 else .bad
      | _ => .bad)
    | _ => .bad) := by simp only [evS]; try rfl
@[simp] theorem evS_do (e : CE) : evS cl (.do_ e) r m = .of (evE cl e r m) r fun _ m1 => .nx r m1 := by simp only [evS]; try rfl
@[simp] theorem evS_ret (e : CE) : evS cl (.ret e) r m = .of (evE cl e r m) r fun x m1 => .rt x m1 := by simp only [evS]; try rfl
@[simp] theorem evS_retN : evS cl .retN r m = .rt (.d .none) m := by simp only [evS]; try rfl
def ifM : MV → SRes → SRes → SRes
  | .d (.bool true), a, _ => a
  | .d (.bool false), _, b => b
  | _, _, _ => .bad
@[simp] theorem ifM_b (c : Bool) (a b : SRes) : ifM (.d (.bool c)) a b = if c = true then a else b := by cases c <;> rfl
@[simp] theorem evS_if (t : CE) (a b : CSs) : evS cl (.if_ t a b) r m = .of (evE cl t r m) r fun x m1 => ifM x (evSs cl a r m1) (evSs cl b r m1) := by
  simp only [evS]; congr 1; funext x m1
  rcases x with (_ | b | _ | _ | _ | _ | _) | _ | _ | _ <;> try rfl
  cases b <;> rfl
/-- one turn of a loop -/
def forF (t : CT) (b : CSs) (x : MV) (r : Env') (m : Mem) : SRes := match tgt t x r with
  | some r1 => evSs cl b r1 m
  | none => .bad
@[simp] theorem evS_for (t : CT) (it : CI) (b : CSs) : evS cl (.for_ t it b) r m = .of (evI cl it r m) r fun xs m1 => forS (forF cl t b) xs r m1 := by simp only [evS]; rfl
@[simp] theorem evS_whl (t : CE) (b : CSs) : evS cl (.whl t b) r m = whlS (fun r m => evE cl t r m) (fun r m => evSs cl b r m) fuel r m := by simp only [evS]
@[simp] theorem evS_pas : evS cl .pas r m = .nx r m := by simp only [evS]; try rfl
def thenS (x : SRes) (k : Env' → Mem → SRes) : SRes := match x with
  | .nx r1 m1 => k r1 m1
  | x => x
@[simp] theorem thenS_nx (r1 : Env') (m1 : Mem) (k : Env' → Mem → SRes) : thenS (.nx r1 m1) k = k r1 m1 := (rfl)
@[simp] theorem thenS_rt (x : MV) (m1 : Mem) (k : Env' → Mem → SRes) : thenS (.rt x m1) k = .rt x m1 := (rfl)
@[simp] theorem evSs_nil : evSs cl .nil r m = .nx r m := by simp only [evSs]; try rfl
@[simp] theorem evSs_cons (s : CS) (ss : CSs) : evSs cl (.cons s ss) r m = thenS (evS cl s r m) (evSs cl ss) := by
  simp only [evSs]; cases evS cl s r m <;> rfl
@[simp] theorem evSs_frz (i : Nat) (ss : CSs) : evSs cl (.frz i ss) r m = (match r[i]? with
    | some (.own xs) => evSs cl ss (r.set i (.v (.d (.list xs)))) m
    | _ => .bad) := by simp only [evSs]; try rfl
end
@[simp] theorem thenS_ite {c : Prop} [Decidable c] (a b : SRes) (k : Env' → Mem → SRes) : thenS (if c then a else b) k = if c then thenS a k else thenS b k := by split <;> rfl
@[simp] theorem bind_ite {α β : Type} {c : Prop} [Decidable c] (a b : Res α) (k : α → Mem → Res β) : (if c then a else b).bind k = if c then a.bind k else b.bind k := by split <;> rfl
@[simp] theorem of_ite {α : Type} {c : Prop} [Decidable c] (a b : Res α) (r : Env') (k : α → Mem → SRes) : SRes.of (if c then a else b) r k = if c then SRes.of a r k else SRes.of b r k := by split <;> rfl
@[simp] theorem optD_some (d : D) (m : Mem) : optD (some d) m = .ok (.d d) m := (rfl)
@[simp] theorem optB_some (d : Bool) (m : Mem) : optB (some d) m = .ok (.d (.bool d)) m := (rfl)
@[simp] theorem back_nx (n : Nat) (r : Env') (m : Mem) : back n (.nx r m) = .ok (.d .none) (m.take n) := (rfl)
@[simp] theorem back_rt (n : Nat) (x : D) (m : Mem) : back n (.rt (.d x) m) = .ok (.d x) (m.take n) := (rfl)
@[simp] theorem back_ite {c : Prop} [Decidable c] (n : Nat) (a b : SRes) : back n (if c then a else b) = if c then back n a else back n b := by split <;> rfl
@[simp] theorem b1_lenl (xs : List D) : b1D .len (.list xs) = some (.int xs.length) := (rfl)
@[simp] theorem b1_lent (xs : List D) : b1D .len (.tuple xs) = some (.int xs.length) := (rfl)
@[simp] theorem b1_tupl (xs : List D) : b1D .tup (.list xs) = some (.tuple xs) := (rfl)
@[simp] theorem b1_tupt (xs : List D) : b1D .tup (.tuple xs) = some (.tuple xs) := (rfl)
@[simp] theorem b1_lstl (xs : List D) : b1D .lst (.list xs) = some (.list xs) := (rfl)
@[simp] theorem b1_lstt (xs : List D) : b1D .lst (.tuple xs) = some (.list xs) := (rfl)
@[simp] theorem b1_inti (i : Int) : b1D .int (.int i) = some (.int i) := (rfl)
@[simp] theorem b1_intb (b : Bool) : b1D .int (.bool b) = some (.int (if b then 1 else 0)) := (rfl)
@[simp] theorem bin_addi (i j : Int) : binD .add (.int i) (.int j) = some (.int (i + j)) := (rfl)
@[simp] theorem bin_subi (i j : Int) : binD .sub (.int i) (.int j) = some (.int (i - j)) := (rfl)
@[simp] theorem cmp_lti (i j : Int) : cmpD .lt (.int i) (.int j) = some (decide (i < j)) := (rfl)
@[simp] theorem cmp_lei (i j : Int) : cmpD .le (.int i) (.int j) = some (decide (i ≤ j)) := (rfl)
@[simp] theorem cmp_gti (i j : Int) : cmpD .gt (.int i) (.int j) = some (decide (j < i)) := (rfl)
@[simp] theorem cmp_gei (i j : Int) : cmpD .ge (.int i) (.int j) = some (decide (j ≤ i)) := (rfl)
@[simp] theorem cmp_isNb (b : Bool) : cmpD .isN (.bool b) .none = some false := (rfl)
@[simp] theorem cmp_notNb (b : Bool) : cmpD .notN (.bool b) .none = some true := (rfl)
@[simp] theorem cmp_isNi (i : Int) : cmpD .isN (.int i) .none = some false := (rfl)
@[simp] theorem cmp_notNi (i : Int) : cmpD .notN (.int i) .none = some true := (rfl)
@[simp] theorem cmp_isNs (x : Str) : cmpD .isN (.str x) .none = some false := (rfl)
@[simp] theorem cmp_notNs (x : Str) : cmpD .notN (.str x) .none = some true := (rfl)
@[simp] theorem cmp_isNl (xs : List D) : cmpD .isN (.list xs) .none = some false := (rfl)
@[simp] theorem cmp_notNl (xs : List D) : cmpD .notN (.list xs) .none = some true := (rfl)
@[simp] theorem cmp_isNt (xs : List D) : cmpD .isN (.tuple xs) .none = some false := (rfl)
@[simp] theorem cmp_notNt (xs : List D) : cmpD .notN (.tuple xs) .none = some true := (rfl)
@[simp] theorem cmp_isNn : cmpD .isN .none .none = some true := (rfl)
@[simp] theorem cmp_notNn : cmpD .notN .none .none = some false := (rfl)
theorem callF_at {Fs : List Def} {i : Nat} {d : Def} (h : Fs[i]? = some d) (n : Nat) (xs : List MV) (m : Mem) (hl : xs.length = d.ps.length) :
    callF Fs (n + 1) i xs m = back m.length (evSs (callF Fs n) d.body (xs.map .v ++ List.replicate (d.ns.length - d.ps.length) .un) m) := by
  simp only [callF, h, hl, if_true]
@[simp] theorem tgt_nm (i : Nat) (v : MV) (r : Env') : tgt (.nm i) v r = if i < r.length then some (r.set i (.v v)) else none := by simp only [tgt]
@[simp] theorem tgt_tp (ts : CTs) (xs : List D) (r : Env') : tgt (.tp ts) (.d (.tuple xs)) r = tgts ts xs r := by simp only [tgt]
@[simp] theorem tgt_tpl (ts : CTs) (xs : List D) (r : Env') : tgt (.tp ts) (.d (.list xs)) r = tgts ts xs r := by simp only [tgt]
@[simp] theorem tgts_nil (r : Env') : tgts .nil [] r = some r := by simp only [tgts]
@[simp] theorem tgts_cons (t : CT) (ts : CTs) (x : D) (xs : List D) (r : Env') : tgts (.cons t ts) (x :: xs) r = (tgt t (.d x) r).bind fun r1 => tgts ts xs r1 := by simp only [tgts]
@[simp] theorem wipeE_nil (r : Env') : wipeE r [] = r := (rfl)
@[simp] theorem wipeE_cons (r : Env') (v : Nat) (vs : List Nat) : wipeE r (v :: vs) = (wipeE r vs).set v .un := (rfl)
@[simp] theorem noEx_ok1 {α : Type} (a : α) (m : Mem) : noEx (.ok a m) = .ok a m := (rfl)

/-! ### walks -/
theorem mapM'_pure {β : Type} {f : MV → Mem → Res (Option D)} {m : Mem} (enc : β → MV) (g : β → Option D) : ∀ l : List β, (∀ x ∈ l, f (enc x) m = .ok (g x) m) → mapM' f (l.map enc) m = .ok (l.filterMap g) m
  | [], _ => rfl
  | x :: l, h => by
    have h1 := h x (by simp)
    have h2 := mapM'_pure enc g l fun y hy => h y (by simp [hy])
    simp only [List.map_cons, mapM', h1, noEx_ok1, Res.bind_ok, h2, List.filterMap_cons]
    cases g x <;> rfl
theorem mapM'_all {β : Type} {f : MV → Mem → Res (Option D)} {m : Mem} (enc : β → MV) (g : β → D) (l : List β) (h : ∀ x ∈ l, f (enc x) m = .ok (some (g x)) m) : mapM' f (l.map enc) m = .ok (l.map g) m := by
  rw [mapM'_pure enc (fun x => some (g x)) l h]
  simp
theorem mapM'_filter {β : Type} {f : MV → Mem → Res (Option D)} {m : Mem} (enc : β → MV) (c : β → Bool) (g : β → D) (l : List β) (h : ∀ x ∈ l, f (enc x) m = .ok (if c x = true then some (g x) else none) m) : mapM' f (l.map enc) m = .ok ((l.filter c).map g) m := by
  rw [mapM'_pure enc _ l h]
  congr 1
  induction l with
  | nil => rfl
  | cons x l ih => 
    simp only [List.filterMap_cons, List.filter_cons]
    rw [ih fun y hy => h y (by simp [hy])]
    cases c x <;> simp
theorem foldA_pure {β : Type} {f : MV → List D → Mem → Res (List D)} {m : Mem} (enc : β → MV) (g : β → List D) : ∀ (l : List β) (acc : List D), (∀ x ∈ l, ∀ acc, acc.length ≤ acc.length → f (enc x) acc m = .ok (acc ++ g x) m) → foldA f (l.map enc) acc m = .ok (acc ++ l.flatMap g) m
  | [], acc, _ => by simp [foldA]
  | x :: l, acc, h => by
    have h1 := h x (by simp) acc (Nat.le_refl _)
    have h2 := foldA_pure enc g l (acc ++ g x) fun y hy => h y (by simp [hy])
    simp only [List.map_cons, foldA, h1, noEx_ok1, Res.bind_ok, h2, List.flatMap_cons, List.append_assoc]
end Mp

set_option maxRecDepth 100000
set_option linter.all false
set_option Elab.async false
namespace Mp
open PySem PySem.Spec PyProof.Rows L2

/-! ### Lean values as data -/
class Enc (α : Type) where
  enc : α → D
  lt : α → α → Bool
  dep : Nat
  eqv_iff : ∀ a b, PyData.eqv (enc a) (enc b) = true ↔ a = b
  lay : ∀ a, (enc a).canLay0 = true
  depth_le : ∀ a, (enc a).depth ≤ dep
  alike : ∀ a b, PySem.W.alike (enc a) (enc b) = true
  lt_eq : ∀ a b, PySem.W.dataLt (enc a) (enc b) = lt a b
  total : ∀ a b, lt a b = false → lt b a = false → a = b
open Enc (enc)
instance : Enc Int where
  enc i := .int i
  lt a b := decide (a < b)
  dep := 0
  eqv_iff a b := by simp [PyData.eqv]
  lay a := by simp [PyData.canLay0]
  depth_le a := by simp [PyData.depth]
  alike a b := by simp [PySem.W.alike]
  lt_eq a b := PySem.W.dataLt_int a b
  total a b h1 h2 := by simp at h1 h2; omega
instance : Enc Nat where
  enc i := .int (i : Int)
  lt a b := decide (a < b)
  dep := 0
  eqv_iff a b := by simp [PyData.eqv]; omega
  lay a := by simp [PyData.canLay0]
  depth_le a := by simp [PyData.depth]
  alike a b := by simp [PySem.W.alike]
  lt_eq a b := by rw [PySem.W.dataLt_int]; simp
  total a b h1 h2 := by simp at h1 h2; omega
instance : Enc Bool where
  enc b := .bool b
  lt a b := !a && b
  dep := 0
  eqv_iff a b := by simp [PyData.eqv]
  lay a := by simp [PyData.canLay0]
  depth_le a := by simp [PyData.depth]
  alike a b := by simp [PySem.W.alike]
  lt_eq a b := by rw [PySem.W.dataLt_bool]; cases a <;> cases b <;> rfl
  total a b h1 h2 := by cases a <;> cases b <;> simp_all
section
variable {α β : Type} [Enc α] [Enc β]
theorem eqvAll_enc : ∀ xs ys : List α, PyData.eqvAll (xs.map enc) (ys.map enc) = true ↔ xs = ys
  | [], [] => by simp [PyData.eqvAll]
  | [], _ :: _ => by simp [PyData.eqvAll]
  | _ :: _, [] => by simp [PyData.eqvAll]
  | x :: xs, y :: ys => by
    rw [List.map_cons, List.map_cons, PyData.eqvAll, Bool.and_eq_true, Enc.eqv_iff, eqvAll_enc xs ys]
    simp
theorem layAll_enc : ∀ xs : List α, PyData.canLayAll0 (xs.map enc) = true
  | [] => by simp [PyData.canLayAll0]
  | x :: xs => by simp [PyData.canLayAll0, Enc.lay, layAll_enc xs]
theorem depthAll_enc : ∀ xs : List α, PyData.depthAll (xs.map enc) ≤ Enc.dep α
  | [] => by simp [PyData.depthAll]
  | x :: xs => by
    have h1 := Enc.depth_le x
    have h2 := depthAll_enc xs
    simp only [List.map_cons, PyData.depthAll]
    omega
theorem alikeAll_enc : ∀ xs ys : List α, PySem.W.alikeAll (xs.map enc) (ys.map enc) = true
  | [], _ => by rw [List.map_nil, PySem.W.alikeAll]
  | _ :: _, [] => by rw [List.map_nil, List.map_cons, PySem.W.alikeAll]
  | x :: xs, y :: ys => by rw [List.map_cons, List.map_cons, PySem.W.alikeAll, Enc.alike x y, alikeAll_enc xs ys]; rfl
/-- the first difference decides, else the shorter is the less -/
def ltL : List α → List α → Bool
  | [], [] => false
  | [], _ :: _ => true
  | _ :: _, [] => false
  | x :: xs, y :: ys => Enc.lt x y || (!Enc.lt y x && ltL xs ys)
theorem lt_irr (a : α) : Enc.lt a a = false := by rw [← Enc.lt_eq]; exact lex_irrefl _
theorem lt_trans' {a b c : α} (h1 : Enc.lt a b = true) (h2 : Enc.lt b c = true) : Enc.lt a c = true := by
  rw [← Enc.lt_eq] at *; exact lex_trans _ _ _ h1 h2
theorem lt_asym {a b : α} (h1 : Enc.lt a b = true) : Enc.lt b a = false := by
  cases h : Enc.lt b a with
  | false => rfl
  | true => have := lt_trans' h1 h; rw [lt_irr] at this; cases this
theorem lt_ne {a b : α} (h1 : Enc.lt a b = true) : a ≠ b := fun e => by subst e; rw [lt_irr] at h1; cases h1
theorem enc_inj {a b : α} (h : enc a = enc b) : a = b := (Enc.eqv_iff a b).mp (by rw [h]; exact (Enc.eqv_iff b b).mpr rfl)
theorem lexAll_enc : ∀ xs ys : List α, PyProof.Rows.lexLt itemOrd (PySem.W.keyToksAll (xs.map enc)) (PySem.W.keyToksAll (ys.map enc)) = ltL xs ys
  | [], [] => lex_irrefl _
  | [], y :: ys => by
    rw [List.map_nil, List.map_cons, PySem.W.toks_all_cons]
    simp only [PySem.W.keyToksAll]
    rw [lex_diff (O := itemOrd) (by simp)]
    rfl
  | x :: xs, [] => by
    rw [List.map_nil, List.map_cons, PySem.W.toks_all_cons]
    simp only [PySem.W.keyToksAll]
    rw [lex_diff (O := itemOrd) (by simp)]
    rfl
  | x :: xs, y :: ys => by
    rw [List.map_cons, List.map_cons, ltL]
    cases h : PyData.eqv (enc x) (enc y) with
    | true =>
      have e := (Enc.eqv_iff x y).mp h
      rw [PySem.W.dataLt_all_yes (Enc.alike x y) h, lexAll_enc xs ys, e, lt_irr]
      simp
    | false =>
      rw [PySem.W.dataLt_all_no (Enc.alike x y) h, Enc.lt_eq]
      cases h1 : Enc.lt x y with
      | true => rfl
      | false =>
        cases h2 : Enc.lt y x with
        | true => rfl
        | false => 
          have := Enc.total x y h1 h2
          subst this
          rw [(Enc.eqv_iff x x).mpr rfl] at h
          cases h
theorem ltL_total : ∀ xs ys : List α, ltL xs ys = false → ltL ys xs = false → xs = ys
  | [], [], _, _ => rfl
  | [], _ :: _, h, _ => by simp [ltL] at h
  | _ :: _, [], _, h => by simp [ltL] at h
  | x :: xs, y :: ys, h1, h2 => by
    simp only [ltL, Bool.or_eq_false_iff, Bool.and_eq_false_iff, Bool.not_eq_false'] at h1 h2
    obtain ⟨a1, b1⟩ := h1
    obtain ⟨a2, b2⟩ := h2
    have e := Enc.total x y a1 a2
    subst e
    rw [lt_irr] at b1 b2
    simp at b1 b2
    rw [ltL_total xs ys b1 b2]
instance instEncList : Enc (List α) where
  enc l := .tuple (l.map enc)
  lt := ltL
  dep := Enc.dep α + 1
  eqv_iff a b := by simp only [PyData.eqv]; exact eqvAll_enc a b
  lay a := by simp only [PyData.canLay0]; exact layAll_enc a
  depth_le a := by have := depthAll_enc a; simp only [PyData.depth]; omega
  alike a b := by simp only [PySem.W.alike]; exact alikeAll_enc a b
  lt_eq a b := (PySem.W.dataLt_tuple _ _).trans (lexAll_enc a b)
  total := ltL_total
instance instEncProd : Enc (α × β) where
  enc p := .tuple [enc p.1, enc p.2]
  lt p q := Enc.lt p.1 q.1 || (!Enc.lt q.1 p.1 && Enc.lt p.2 q.2)
  dep := max (Enc.dep α) (Enc.dep β) + 1
  eqv_iff a b := by
    simp only [PyData.eqv, PyData.eqvAll, Bool.and_true, Bool.and_eq_true, Enc.eqv_iff]
    exact Prod.ext_iff.symm
  lay a := by simp [PyData.canLay0, PyData.canLayAll0, Enc.lay]
  depth_le a := by have h1 := Enc.depth_le a.1; have h2 := Enc.depth_le a.2; simp only [PyData.depth, PyData.depthAll]; omega
  alike a b := by simp [PySem.W.alike, PySem.W.alikeAll, Enc.alike]
  lt_eq p q := by
    refine (PySem.W.dataLt_tuple _ _).trans ?_
    cases h : PyData.eqv (enc p.1) (enc q.1) with
    | true =>
      have e := (Enc.eqv_iff _ _).mp h
      rw [PySem.W.dataLt_all_yes (Enc.alike p.1 q.1) h, e, lt_irr]
      cases h2 : PyData.eqv (enc p.2) (enc q.2) with
      | true =>
        have e2 := (Enc.eqv_iff _ _).mp h2
        rw [PySem.W.dataLt_all_yes (Enc.alike p.2 q.2) h2, lex_irrefl, e2, lt_irr]
        rfl
      | false => rw [PySem.W.dataLt_all_no (Enc.alike p.2 q.2) h2, Enc.lt_eq]; simp
    | false =>
      rw [PySem.W.dataLt_all_no (Enc.alike p.1 q.1) h, Enc.lt_eq]
      cases h1 : Enc.lt p.1 q.1 with
      | true => rfl
      | false =>
        cases h2 : Enc.lt q.1 p.1 with
        | true => rfl
        | false =>
          have e := Enc.total _ _ h1 h2
          rw [(Enc.eqv_iff _ _).mpr e] at h
          cases h
  total p q h1 h2 := by
    simp only [Bool.or_eq_false_iff, Bool.and_eq_false_iff, Bool.not_eq_false'] at h1 h2
    obtain ⟨a1, b1⟩ := h1
    obtain ⟨a2, b2⟩ := h2
    have e := Enc.total _ _ a1 a2
    rw [e, lt_irr] at b1 b2
    simp at b1 b2
    exact Prod.ext e (Enc.total _ _ b1 b2)
@[simp] theorem enc_nat (n : Nat) : enc n = PyData.int (n : Int) := rfl
@[simp] theorem enc_int (n : Int) : enc n = PyData.int n := rfl
@[simp] theorem enc_bool (n : Bool) : enc n = PyData.bool n := rfl
@[simp] theorem enc_list (l : List α) : enc l = PyData.tuple (l.map enc) := rfl
@[simp] theorem enc_pair (p : α × β) : enc p = PyData.tuple [enc p.1, enc p.2] := rfl
theorem plain_enc (a : α) (h : Enc.dep α ≤ 64) : plain (enc a) = true := by
  have h1 := Enc.depth_le a
  simp only [plain, SeqAt.shaped, Enc.lay, Bool.true_and, decide_eq_true_eq]
  omega
theorem plain_tup (l : List α) (h : Enc.dep α < 64) : plain (.tuple (l.map enc)) = true := by
  have h1 := depthAll_enc l
  simp only [plain, SeqAt.shaped, PyData.canLay0, layAll_enc, PyData.depth, Bool.true_and]
  exact decide_eq_true (by omega)
theorem plain_lst (l : List α) (h : Enc.dep α < 64) : plain (.list (l.map enc)) = true := by
  have h1 := depthAll_enc l
  simp only [plain, SeqAt.shaped, PyData.canLay0, layAll_enc, PyData.depth, Bool.true_and]
  exact decide_eq_true (by omega)
variable [DecidableEq α] [DecidableEq β]
theorem eqv_enc (a b : α) : PyData.eqv (enc a) (enc b) = decide (a = b) := by
  cases h : PyData.eqv (enc a) (enc b) with
  | true => simp [(Enc.eqv_iff a b).mp h]
  | false => 
    have : a ≠ b := fun e => by rw [(Enc.eqv_iff a b).mpr e] at h; cases h
    simp [this]
theorem any_eqv (l : List α) (a : α) : ((l.map enc).any fun z => PyData.eqv z (enc a)) = decide (a ∈ l) := by
  induction l with
  | nil => rfl
  | cons x l ih =>
    rw [List.map_cons, List.any_cons, ih, eqv_enc]
    by_cases h : x = a
    · subst h; simp
    · have h' : a ≠ x := fun e => h e.symm
      simp [h, h']
theorem cmp_in (a : α) (l : List α) (h : Enc.dep α < 64) : cmpD .in_ (enc a) (.tuple (l.map enc)) = some (decide (a ∈ l)) := by
  simp only [cmpD, plain_enc a (Nat.le_of_lt h), plain_tup l h, and_self, if_true, any_eqv]
theorem cmp_inl (a : α) (l : List α) (h : Enc.dep α < 64) : cmpD .in_ (enc a) (.list (l.map enc)) = some (decide (a ∈ l)) := by
  simp only [cmpD, plain_enc a (Nat.le_of_lt h), plain_lst l h, and_self, if_true, any_eqv]
theorem cmp_nin (a : α) (l : List α) (h : Enc.dep α < 64) : cmpD .nin (enc a) (.tuple (l.map enc)) = some (!decide (a ∈ l)) := by
  simp only [cmpD, plain_enc a (Nat.le_of_lt h), plain_tup l h, and_self, if_true, any_eqv]
theorem cmp_ninl (a : α) (l : List α) (h : Enc.dep α < 64) : cmpD .nin (enc a) (.list (l.map enc)) = some (!decide (a ∈ l)) := by
  simp only [cmpD, plain_enc a (Nat.le_of_lt h), plain_lst l h, and_self, if_true, any_eqv]
theorem cmp_eq (a b : α) (h : Enc.dep α ≤ 64) : cmpD .eq (enc a) (enc b) = some (decide (a = b)) := by
  simp only [cmpD, plain_enc a h, plain_enc b h, and_self, if_true, eqv_enc]
theorem cmp_ne (a b : α) (h : Enc.dep α ≤ 64) : cmpD .ne (enc a) (enc b) = some (!decide (a = b)) := by
  simp only [cmpD, plain_enc a h, plain_enc b h, and_self, if_true, eqv_enc]
end
theorem plain_int (i : Int) : plain (.int i) = true := plain_enc i (by decide)
theorem plain_bool (i : Bool) : plain (.bool i) = true := plain_enc i (by decide)
@[simp] theorem cmp_eqi (i j : Int) : cmpD .eq (.int i) (.int j) = some (decide (i = j)) := cmp_eq i j (by decide)
@[simp] theorem cmp_nei (i j : Int) : cmpD .ne (.int i) (.int j) = some (!decide (i = j)) := cmp_ne i j (by decide)
@[simp] theorem cmp_eqb (i j : Bool) : cmpD .eq (.bool i) (.bool j) = some (decide (i = j)) := cmp_eq i j (by decide)
@[simp] theorem cmp_neb (i j : Bool) : cmpD .ne (.bool i) (.bool j) = some (!decide (i = j)) := cmp_ne i j (by decide)
end Mp

set_option linter.all false
namespace Mp
open PySem PySem.Spec PyProof.Rows L2
def c__law_cells : CSs := (.cons (.asgO 2 (.orT (.b1 .lst (.slc (.var 0) .no (.var 1))) (.lst (.cons (.ki 0) .nil)))) (.cons (.for_ (.tp (.cons (.nm 3) (.cons (.nm 4) .nil))) (.enum (.slc (.var 0) (.var 1) (.ki 63))) (.cons (.asg 5 (.bin .mod (.b1 .int (.var 3)) (.var 1))) (.cons (.setO 2 (.var 5) (.bin .add (.idxO 2 (.var 5)) (.bin .mul (.var 4) (.bin .add (.var 3) (.ki 2))))) .nil))) (.frz 2 (.cons (.ret (.var 2)) .nil))))
def d__law_cells : Def := ⟨"_law_cells", ["_law_script", "_law_top_so"], ["_law_script", "_law_top_so", "_law_cells_so", "_law_nth_so", "_law_cell", "_law_at_so"], c__law_cells⟩
def c__law_take : CSs := (.cons (.if_ (.cmp .gt (.idx (.var 0) (.ki 0)) (.ki 0)) (.cons (.asg 2 (.bin .mod (.b1 .int (.idx (.var 0) (.ki 0))) (.var 1))) (.cons (.setC 0 (.ki 0) (.bin .fdiv (.idx (.var 0) (.ki 0)) (.var 1))) (.cons (.ret (.var 2)) .nil))) .nil) (.cons (.setC 0 (.ki 2) (.bin .add (.idx (.var 0) (.ki 2)) (.ki 1))) (.cons (.asg 3 (.bin .mod (.b1 .int (.bin .mul (.bin .add (.idx (.var 0) (.ki 1)) (.bin .mul (.ki 48271) (.idx (.var 0) (.ki 2)))) (.bin .add (.ki 39373) (.idx (.var 0) (.ki 2))))) (.ki 2147483647))) (.cons (.asg 4 (.bin .add (.bin .mod (.b1 .int (.var 3)) (.ki 40009)) (.ki 7))) (.cons (.asg 5 (.bin .mod (.b1 .int (.bin .mul (.bin .add (.bin .add (.var 3) (.idx (.var 0) (.ki 2))) (.bin .fdiv (.idx (.var 0) (.ki 1)) (.ki 1000003))) (.var 4))) (.ki 2147483629))) (.cons (.ret (.bin .mod (.b1 .int (.bin .fdiv (.bin .mod (.b1 .int (.bin .add (.bin .mul (.var 5) (.ki 48271)) (.var 3))) (.ki 2147483587)) (.ki 64))) (.var 1))) .nil))))))
def d__law_take : Def := ⟨"_law_take", ["_law_box_here", "_law_below_so"], ["_law_box_here", "_law_below_so", "_law_drawn", "_law_once", "_law_far", "_law_twice"], c__law_take⟩
def c__law_same : CSs := (.cons (.if_ (.isin (.var 1) ["list", "tuple"]) (.cons (.if_ (.bor (.cons (.cmp .ne (.isin (.var 0) ["list"]) (.isin (.var 1) ["list"])) (.cons (.cmp .ne (.isin (.var 0) ["tuple"]) (.isin (.var 1) ["tuple"])) .nil))) (.cons (.ret (.kb false)) .nil) .nil) (.cons (.ret (.band (.cons (.cmp .eq (.b1 .len (.var 0)) (.b1 .len (.var 1))) (.cons (.b1 .all (.comp (.tp (.cons (.nm 2) (.cons (.nm 3) .nil))) (.zip (.var 0) (.var 1)) (.kb true) (.call 3 (.cons (.var 2) (.cons (.var 3) .nil))) [("_law_mine", 2), ("_law_its", 3)])) .nil)))) .nil)) .nil) (.cons (.if_ (.bor (.cons (.cmp .isN (.var 1) .kn) (.cons (.isin (.var 1) ["bool", "str"]) .nil))) (.cons (.ret (.band (.cons (.cmp .eq (.var 0) (.var 1)) (.cons (.cmp .eq (.isin (.var 0) ["bool"]) (.isin (.var 1) ["bool"])) (.cons (.cmp .eq (.cmp .isN (.var 0) .kn) (.cmp .isN (.var 1) .kn)) .nil))))) .nil) .nil) (.cons (.ret (.band (.cons (.isin (.var 0) ["int"]) (.cons (.not_ (.isin (.var 0) ["bool"])) (.cons (.cmp .eq (.var 0) (.var 1)) .nil))))) .nil)))
def d__law_same : Def := ⟨"_law_same", ["_law_got", "_law_due"], ["_law_got", "_law_due", "_law_mine", "_law_its"], c__law_same⟩
def c__law_lists : CSs := (.cons (.ret (.ite (.isin (.var 0) ["list", "tuple"]) (.comp (.nm 1) (.dat (.var 0)) (.kb true) (.call 4 (.cons (.var 1) .nil)) [("_law_bit", 1)]) (.var 0))) .nil)
def d__law_lists : Def := ⟨"_law_lists", ["_law_matter_so"], ["_law_matter_so", "_law_bit"], c__law_lists⟩
def c__law_of : CSs := (.cons (.ret (.idx (.var 1) (.call 2 (.cons (.var 0) (.cons (.b1 .len (.var 1)) .nil))))) .nil)
def d__law_of : Def := ⟨"_law_of", ["_law_box_here", "_law_pool_so"], ["_law_box_here", "_law_pool_so"], c__law_of⟩
def c__law_mixed : CSs := (.cons (.par [2, 3] [true, true] (.cons (.b1 .lst (.var 1)) (.cons (.lst .nil) .nil))) (.cons (.for_ (.nm 4) (.rg1 (.b1 .len (.var 1))) (.cons (.appPop 3 2 (.call 2 (.cons (.var 0) (.cons (.lenO 2) .nil)))) .nil)) (.frz 3 (.cons (.ret (.var 3)) .nil))))
def d__law_mixed : Def := ⟨"_law_mixed", ["_law_box_here", "_law_rows_so"], ["_law_box_here", "_law_rows_so", "_law_rest_so", "_law_found", "_law_lap"], c__law_mixed⟩
def c__law_tuples : CSs := (.cons (.asg 2 (.lst (.cons (.tup .nil) .nil))) (.cons (.for_ (.nm 3) (.rg1 (.var 1)) (.cons (.asg 4 (.lst .nil)) (.cons (.for_ (.nm 5) (.dat (.var 2)) (.cons (.asg 4 (.bin .add (.var 4) (.comp (.nm 6) (.rg1 (.var 0)) (.kb true) (.bin .add (.var 5) (.tup (.cons (.var 6) .nil))) [("_law_bit", 6)]))) .nil)) (.cons (.asg 2 (.var 4)) .nil)))) (.cons (.ret (.var 2)) .nil)))
def d__law_tuples : Def := ⟨"_law_tuples", ["_law_many_so", "_law_width_so"], ["_law_many_so", "_law_width_so", "_law_found", "_law_lap", "_law_longer_so", "_law_own", "_law_bit"], c__law_tuples⟩
def c__law_kind : CSs := (.cons (.asg 2 (.call 5 (.cons (.var 0) (.cons (.lst (.cons (.ki 1) (.cons (.ki 2) (.cons (.ki 2) (.cons (.ki 2) (.cons (.ite (.cmp .eq (.var 1) (.ki 2)) (.ki 3) (.ki 2)) .nil)))))) .nil)))) (.cons (.asg 3 (.call 7 (.cons (.var 1) (.cons (.var 2) .nil)))) (.cons (.asg 4 (.bin .add (.ki 2) (.call 2 (.cons (.var 0) (.cons (.ki 2) .nil))))) (.cons (.asg 5 (.comp (.nm 6) (.dat (.var 3)) (.cmp .gt (.call 2 (.cons (.var 0) (.cons (.var 4) .nil))) (.ki 0)) (.var 6) [("_law_own", 6)])) (.cons (.ret (.tup (.cons (.var 2) (.cons (.b1 .tup (.b1 .srt (.slc (.call 6 (.cons (.var 0) (.cons (.var 5) .nil))) .no (.ki 6)))) .nil)))) .nil)))))
def d__law_kind : Def := ⟨"_law_kind", ["_law_box_here", "_law_many_so"], ["_law_box_here", "_law_many_so", "_law_width_so", "_law_every_so", "_law_keep_so", "_law_rows_so", "_law_own"], c__law_kind⟩
def c__law_known : CSs := (.cons (.par [0, 1] [false, false] (.cons (.tup (.cons (.ki 2) (.cons (.tup (.cons (.tup (.cons (.ki 0) (.cons (.ki 0) .nil))) (.cons (.tup (.cons (.ki 1) (.cons (.ki 1) .nil))) .nil))) .nil))) (.cons (.tup (.cons (.ki 2) (.cons (.tup (.cons (.tup (.cons (.ki 0) (.cons (.ki 0) .nil))) (.cons (.tup (.cons (.ki 0) (.cons (.ki 1) .nil))) (.cons (.tup (.cons (.ki 1) (.cons (.ki 1) .nil))) .nil)))) .nil))) .nil))) (.cons (.par [2, 3] [false, false] (.cons (.tup (.cons (.ki 2) (.cons (.tup (.cons (.tup (.cons (.ki 0) (.cons (.ki 1) .nil))) (.cons (.tup (.cons (.ki 1) (.cons (.ki 0) .nil))) (.cons (.tup (.cons (.ki 1) (.cons (.ki 1) .nil))) .nil)))) .nil))) (.cons (.tup (.cons (.ki 2) (.cons (.tup (.cons (.tup (.cons (.ki 0) (.cons (.ki 1) .nil))) (.cons (.tup (.cons (.ki 1) (.cons (.ki 0) .nil))) .nil))) .nil))) .nil))) (.cons (.asg 4 (.tup (.cons (.ki 3) (.cons (.tup (.cons (.tup (.cons (.ki 0) (.cons (.ki 0) (.cons (.ki 0) .nil)))) (.cons (.tup (.cons (.ki 0) (.cons (.ki 1) (.cons (.ki 1) .nil)))) (.cons (.tup (.cons (.ki 1) (.cons (.ki 0) (.cons (.ki 1) .nil)))) (.cons (.tup (.cons (.ki 1) (.cons (.ki 1) (.cons (.ki 0) .nil)))) .nil))))) .nil)))) (.cons (.asg 5 (.tup (.cons (.ki 3) (.cons (.tup (.cons (.tup (.cons (.ki 0) (.cons (.ki 0) (.cons (.ki 1) .nil)))) (.cons (.tup (.cons (.ki 0) (.cons (.ki 1) (.cons (.ki 0) .nil)))) (.cons (.tup (.cons (.ki 1) (.cons (.ki 0) (.cons (.ki 0) .nil)))) .nil)))) .nil)))) (.cons (.asg 6 (.tup (.cons (.ki 2) (.cons (.tup (.cons (.tup (.cons (.ki 0) (.cons (.ki 1) .nil))) (.cons (.tup (.cons (.ki 0) (.cons (.ki 2) .nil))) (.cons (.tup (.cons (.ki 1) (.cons (.ki 0) .nil))) (.cons (.tup (.cons (.ki 1) (.cons (.ki 2) .nil))) (.cons (.tup (.cons (.ki 2) (.cons (.ki 0) .nil))) (.cons (.tup (.cons (.ki 2) (.cons (.ki 1) .nil))) .nil))))))) .nil)))) (.cons (.par [7, 8] [false, false] (.cons (.tup (.cons (.ki 2) (.cons (.tup (.cons (.tup (.cons (.ki 0) (.cons (.ki 0) .nil))) (.cons (.tup (.cons (.ki 1) (.cons (.ki 2) .nil))) (.cons (.tup (.cons (.ki 2) (.cons (.ki 1) .nil))) .nil)))) .nil))) (.cons (.tup (.cons (.ki 2) (.cons (.tup (.cons (.tup (.cons (.ki 0) (.cons (.ki 1) .nil))) (.cons (.tup (.cons (.ki 1) (.cons (.ki 2) .nil))) (.cons (.tup (.cons (.ki 2) (.cons (.ki 0) .nil))) .nil)))) .nil))) .nil))) (.cons (.ret (.lst (.cons (.tup (.cons (.ki 2) (.cons (.var 0) .nil))) (.cons (.tup (.cons (.ki 2) (.cons (.var 1) .nil))) (.cons (.tup (.cons (.ki 2) (.cons (.var 2) .nil))) (.cons (.tup (.cons (.ki 2) (.cons (.var 3) .nil))) (.cons (.tup (.cons (.ki 2) (.cons (.var 4) .nil))) (.cons (.tup (.cons (.ki 2) (.cons (.var 5) .nil))) (.cons (.tup (.cons (.ki 3) (.cons (.var 6) .nil))) (.cons (.tup (.cons (.ki 3) (.cons (.var 7) .nil))) (.cons (.tup (.cons (.ki 3) (.cons (.var 8) .nil))) .nil))))))))))) .nil)))))))
def d__law_known : Def := ⟨"_law_known", [], ["_law_like_so", "_law_climb_so", "_law_either_so", "_law_other_so", "_law_even_so", "_law_only_so", "_law_unlike_so", "_law_third_so", "_law_step_so"], c__law_known⟩
def c__law_book : CSs := (.cons (.par [2, 3] [false, true] (.cons (.call 5 (.cons (.var 0) (.cons (.lst (.cons (.ki 2) (.cons (.ki 2) (.cons (.ki 2) (.cons (.ki 3) .nil))))) .nil))) (.cons (.lst .nil) .nil))) (.cons (.for_ (.nm 4) (.rg1 (.bin .add (.ki 1) (.call 2 (.cons (.var 0) (.cons (.var 1) .nil))))) (.cons (.asg 5 (.comp (.nm 6) (.dat (.call 9 .nil)) (.cmp .eq (.idx (.var 6) (.ki 0)) (.var 2)) (.idx (.var 6) (.ki 1)) [("_law_own", 6)])) (.cons (.app 3 (.ite (.cmp .eq (.call 2 (.cons (.var 0) (.cons (.ki 2) .nil))) (.ki 0)) (.call 5 (.cons (.var 0) (.cons (.var 5) .nil))) (.call 8 (.cons (.var 0) (.cons (.var 2) .nil))))) .nil))) (.frz 3 (.cons (.ret (.tup (.cons (.var 2) (.cons (.cmp .eq (.call 2 (.cons (.var 0) (.cons (.ki 2) .nil))) (.ki 0)) (.cons (.b1 .tup (.var 3)) .nil))))) .nil))))
def d__law_book : Def := ⟨"_law_book", ["_law_box_here", "_law_most_so"], ["_law_box_here", "_law_most_so", "_law_many_so", "_law_kinds_so", "_law_lap", "_law_pool_so", "_law_own"], c__law_book⟩
def c__law_tie : CSs := (.cons (.asg 3 (.call 2 (.cons (.var 0) (.cons (.b1 .len (.idx (.var 1) (.ki 2))) .nil)))) (.cons (.ret (.tup (.cons (.var 3) (.cons (.b1 .tup (.comp (.nm 4) (.rg1 (.idx (.idx (.idx (.var 1) (.ki 2)) (.var 3)) (.ki 0))) (.kb true) (.call 2 (.cons (.var 0) (.cons (.var 2) .nil))) [("_law_lap", 4)])) .nil)))) .nil))
def d__law_tie : Def := ⟨"_law_tie", ["_law_box_here", "_law_book_so", "_law_places_so"], ["_law_box_here", "_law_book_so", "_law_places_so", "_law_number_so", "_law_lap"], c__law_tie⟩
def c__law_puzzle : CSs := (.cons (.par [4, 5, 6] [false, false, false] (.cons (.bin .add (.ki 1) (.call 2 (.cons (.var 0) (.cons (.var 2) .nil)))) (.cons (.tup .nil) (.cons (.lst .nil) .nil)))) (.cons (.if_ (.cmp .ne (.idx (.var 1) (.ki 2)) (.tup .nil)) (.cons (.asg 6 (.comp (.nm 8) (.rg1 (.call 2 (.cons (.var 0) (.cons (.bin .add (.var 3) (.ki 1)) .nil)))) (.kb true) (.call 11 (.cons (.var 0) (.cons (.var 1) (.cons (.var 4) .nil)))) [("_law_lap", 8)])) .nil) .nil) (.cons (.if_ (.idx (.var 1) (.ki 1)) (.cons (.asg 5 (.b1 .tup (.comp (.nm 9) (.rg1 (.var 4)) (.cmp .eq (.call 2 (.cons (.var 0) (.cons (.ki 4) .nil))) (.ki 0)) (.tup (.cons (.var 9) (.cons (.call 2 (.cons (.var 0) (.cons (.idx (.var 1) (.ki 0)) .nil))) .nil))) [("_law_nth_so", 9)]))) .nil) .nil) (.cons (.asg 7 (.b1 .tup (.comp (.nm 8) (.rg1 (.call 2 (.cons (.var 0) (.cons (.ki 4) .nil)))) (.kb true) (.call 2 (.cons (.var 0) (.cons (.var 4) .nil))) [("_law_lap", 8)]))) (.cons (.ret (.tup (.cons (.var 4) (.cons (.b1 .tup (.b1 .sset (.var 6))) (.cons (.var 5) (.cons (.var 7) .nil)))))) .nil)))))
def d__law_puzzle : Def := ⟨"_law_puzzle", ["_law_box_here", "_law_book_so", "_law_most_so", "_law_ties_so"], ["_law_box_here", "_law_book_so", "_law_most_so", "_law_ties_so", "_law_places_so", "_law_told_so", "_law_rows_so", "_law_shown_so", "_law_lap", "_law_nth_so"], c__law_puzzle⟩
def c__law_keeps : CSs := (.cons (.for_ (.tp (.cons (.nm 3) (.cons (.nm 4) .nil))) (.dat (.idx (.var 1) (.ki 1))) (.cons (.if_ (.cmp .nin (.b1 .tup (.comp (.nm 5) (.dat (.var 4)) (.kb true) (.idx (.var 2) (.var 5)) [("_law_own", 5)])) (.idx (.idx (.idx (.var 0) (.ki 2)) (.var 3)) (.ki 1))) (.cons (.ret (.kb false)) .nil) .nil) .nil)) (.cons (.ret (.cmp .eq (.comp (.nm 5) (.dat (.idx (.var 1) (.ki 2))) (.cmp .ne (.idx (.var 2) (.idx (.var 5) (.ki 0))) (.idx (.var 5) (.ki 1))) (.var 5) [("_law_own", 5)]) (.lst .nil))) .nil))
def d__law_keeps : Def := ⟨"_law_keeps", ["_law_book_so", "_law_puzzle_so", "_law_setting_so"], ["_law_book_so", "_law_puzzle_so", "_law_setting_so", "_law_number_so", "_law_spots_so", "_law_own"], c__law_keeps⟩
def c_is_number : CSs := (.cons (.ret (.band (.cons (.isin (.var 0) ["int"]) (.cons (.not_ (.isin (.var 0) ["bool"])) .nil)))) .nil)
def d_is_number : Def := ⟨"is_number", ["thing"], ["thing"], c_is_number⟩
def c_is_below : CSs := (.cons (.ret (.band (.cons (.call 14 (.cons (.var 0) .nil)) (.cons (.chain .le .lt (.ki 0) (.var 0) (.var 1)) .nil)))) .nil)
def d_is_below : Def := ⟨"is_below", ["thing", "many"], ["thing", "many"], c_is_below⟩
def c_tupled : CSs := (.cons (.ret (.ite (.isin (.var 0) ["list", "tuple"]) (.b1 .tup (.comp (.nm 1) (.dat (.var 0)) (.kb true) (.call 16 (.cons (.var 1) .nil)) [("part", 1)])) (.var 0))) .nil)
def d_tupled : Def := ⟨"tupled", ["thing"], ["thing", "part"], c_tupled⟩
def c_rises : CSs := (.cons (.ret (.b1 .all (.comp (.tp (.cons (.nm 1) (.cons (.nm 2) .nil))) (.zip (.var 0) (.slc (.var 0) (.ki 1) .no)) (.kb true) (.cmp .lt (.var 1) (.var 2)) [("one", 1), ("other", 2)]))) .nil)
def d_rises : Def := ⟨"rises", ["row"], ["row", "one", "other"], c_rises⟩
def c_is_row_below : CSs := (.cons (.ret (.band (.cons (.isin (.var 0) ["tuple"]) (.cons (.b1 .all (.comp (.nm 2) (.dat (.var 0)) (.kb true) (.call 15 (.cons (.var 2) (.cons (.var 1) .nil))) [("own", 2)])) .nil)))) .nil)
def d_is_row_below : Def := ⟨"is_row_below", ["thing", "many"], ["thing", "many", "own"], c_is_row_below⟩
def c_rows_of : CSs := (.cons (.ret (.b1 .lst (.call 16 (.cons (.idx (.idx (.idx (.var 0) (.ki 2)) (.var 1)) (.ki 1)) .nil)))) .nil)
def d_rows_of : Def := ⟨"rows_of", ["book", "number"], ["book", "number"], c_rows_of⟩
def c_row_at : CSs := (.cons (.ret (.b1 .tup (.comp (.nm 2) (.dat (.var 1)) (.kb true) (.idx (.var 0) (.var 2)) [("place", 2)]))) .nil)
def d_row_at : Def := ⟨"row_at", ["setting", "spots"], ["setting", "spots", "place"], c_row_at⟩
def c_broken_ties : CSs := (.cons (.ret (.b1 .tup (.comp (.nm 3) (.dat (.call 16 (.cons (.idx (.var 1) (.ki 1)) .nil))) (.cmp .nin (.call 21 (.cons (.var 2) (.cons (.idx (.var 3) (.ki 1)) .nil))) (.call 20 (.cons (.var 0) (.cons (.idx (.var 3) (.ki 0)) .nil)))) (.var 3) [("tie", 3)]))) .nil)
def d_broken_ties : Def := ⟨"broken_ties", ["book", "puzzle", "setting"], ["book", "puzzle", "setting", "tie"], c_broken_ties⟩
def c_keeps_ties : CSs := (.cons (.ret (.cmp .eq (.b1 .len (.call 30 (.cons (.var 0) (.cons (.var 1) (.cons (.var 2) .nil))))) (.ki 0))) .nil)
def d_keeps_ties : Def := ⟨"keeps_ties", ["book", "puzzle", "setting"], ["book", "puzzle", "setting"], c_keeps_ties⟩
def c_is_tie : CSs := (.cons (.if_ (.bor (.cons (.not_ (.isin (.var 2) ["tuple"])) (.cons (.cmp .ne (.b1 .len (.var 2)) (.kg "PAIR" 2)) (.cons (.not_ (.call 15 (.cons (.idx (.var 2) (.ki 0)) (.cons (.b1 .len (.idx (.var 0) (.ki 2))) .nil)))) .nil)))) (.cons (.ret (.kb false)) .nil) .nil) (.cons (.ret (.band (.cons (.call 18 (.cons (.idx (.var 2) (.ki 1)) (.cons (.var 1) .nil))) (.cons (.cmp .eq (.b1 .len (.idx (.var 2) (.ki 1))) (.idx (.idx (.idx (.var 0) (.ki 2)) (.idx (.var 2) (.ki 0))) (.ki 0))) .nil)))) .nil))
def d_is_tie : Def := ⟨"is_tie", ["book", "places", "thing"], ["book", "places", "thing"], c_is_tie⟩
def c_is_told : CSs := (.cons (.if_ (.bor (.cons (.not_ (.isin (.var 2) ["tuple"])) (.cons (.not_ (.b1 .all (.comp (.nm 3) (.dat (.var 2)) (.kb true) (.band (.cons (.isin (.var 3) ["tuple"]) (.cons (.cmp .eq (.b1 .len (.var 3)) (.kg "PAIR" 2)) .nil))) [("own", 3)]))) .nil))) (.cons (.ret (.kb false)) .nil) .nil) (.cons (.if_ (.not_ (.b1 .all (.comp (.nm 3) (.dat (.var 2)) (.kb true) (.band (.cons (.call 15 (.cons (.idx (.var 3) (.ki 0)) (.cons (.var 1) .nil))) (.cons (.call 15 (.cons (.idx (.var 3) (.ki 1)) (.cons (.idx (.var 0) (.ki 0)) .nil))) .nil))) [("own", 3)]))) (.cons (.ret (.kb false)) .nil) .nil) (.cons (.ret (.call 17 (.cons (.comp (.nm 3) (.dat (.var 2)) (.kb true) (.idx (.var 3) (.ki 0)) [("own", 3)]) .nil))) .nil)))
def d_is_told : Def := ⟨"is_told", ["book", "places", "thing"], ["book", "places", "thing", "own"], c_is_told⟩
def c_is_puzzle : CSs := (.cons (.if_ (.bor (.cons (.not_ (.isin (.var 1) ["tuple"])) (.cons (.cmp .ne (.b1 .len (.var 1)) (.kg "PARTS" 4)) (.cons (.not_ (.call 14 (.cons (.idx (.var 1) (.ki 0)) .nil))) (.cons (.cmp .lt (.idx (.var 1) (.ki 0)) (.ki 0)) .nil))))) (.cons (.ret (.kb false)) .nil) .nil) (.cons (.asgT (.cons (.nm 2) (.cons (.nm 3) (.cons (.nm 4) (.cons (.nm 5) .nil)))) (.var 1)) (.cons (.if_ (.bor (.cons (.not_ (.isin (.var 3) ["tuple"])) (.cons (.not_ (.b1 .all (.comp (.nm 6) (.dat (.var 3)) (.kb true) (.call 36 (.cons (.var 0) (.cons (.var 2) (.cons (.var 6) .nil)))) [("own", 6)]))) (.cons (.not_ (.call 17 (.cons (.var 3) .nil))) .nil)))) (.cons (.ret (.kb false)) .nil) .nil) (.cons (.if_ (.bor (.cons (.not_ (.call 37 (.cons (.var 0) (.cons (.var 2) (.cons (.var 4) .nil))))) (.cons (.not_ (.call 18 (.cons (.var 5) (.cons (.var 2) .nil)))) .nil))) (.cons (.ret (.kb false)) .nil) .nil) (.cons (.ret (.bor (.cons (.idx (.var 0) (.ki 1)) (.cons (.cmp .eq (.b1 .len (.var 4)) (.ki 0)) .nil)))) .nil)))))
def d_is_puzzle : Def := ⟨"is_puzzle", ["book", "thing"], ["book", "thing", "places", "ties", "told", "shown", "own"], c_is_puzzle⟩
def c_is_setting : CSs := (.cons (.if_ (.bor (.cons (.not_ (.call 18 (.cons (.var 2) (.cons (.idx (.var 0) (.ki 0)) .nil)))) (.cons (.cmp .ne (.b1 .len (.var 2)) (.idx (.var 1) (.ki 0))) .nil))) (.cons (.ret (.kb false)) .nil) .nil) (.cons (.ret (.band (.cons (.call 31 (.cons (.var 0) (.cons (.var 1) (.cons (.var 2) .nil)))) (.cons (.b1 .all (.comp (.tp (.cons (.nm 3) (.cons (.nm 4) .nil))) (.dat (.idx (.var 1) (.ki 2))) (.kb true) (.cmp .eq (.idx (.var 2) (.var 3)) (.var 4)) [("place", 3), ("value", 4)])) .nil)))) .nil))
def d_is_setting : Def := ⟨"is_setting", ["book", "puzzle", "thing"], ["book", "puzzle", "thing", "place", "value"], c_is_setting⟩
def c_set_of : CSs := (.cons (.ret (.b1 .tup (.b1 .sset (.var 0)))) .nil)
def d_set_of : Def := ⟨"set_of", ["row"], ["row"], c_set_of⟩
def c_all_rows : CSs := (.cons (.asg 2 (.lst (.cons (.tup .nil) .nil))) (.cons (.for_ (.nm 3) (.rg1 (.var 1)) (.cons (.asg 2 (.comp2 (.nm 4) (.dat (.var 2)) (.kb true) (.nm 5) (.rg1 (.var 0)) (.kb true) (.tup (.star (.var 4) (.cons (.var 5) .nil))) [("row", 4), ("value", 5)] [5])) .nil)) (.cons (.ret (.var 2)) .nil)))
def d_all_rows : Def := ⟨"all_rows", ["many", "width"], ["many", "width", "found", "turn", "row", "value"], c_all_rows⟩
def c_place_of : CSs := (.cons (.asg 2 (.ki 0)) (.cons (.for_ (.nm 3) (.dat (.var 1)) (.cons (.asg 2 (.bin .add (.bin .mul (.var 2) (.idx (.var 0) (.ki 0))) (.var 3))) .nil)) (.cons (.ret (.var 2)) .nil)))
def d_place_of : Def := ⟨"place_of", ["book", "values"], ["book", "values", "found", "value"], c_place_of⟩
def c_lots_of : CSs := (.cons (.asg 2 (.lst (.cons (.tup .nil) .nil))) (.cons (.for_ (.nm 3) (.rg1 (.var 1)) (.cons (.asg 2 (.comp2 (.nm 4) (.dat (.var 2)) (.kb true) (.nm 5) (.dat (.var 0)) (.kb true) (.tup (.star (.var 4) (.cons (.var 5) .nil))) [("lot", 4), ("row", 5)] [5])) .nil)) (.cons (.ret (.var 2)) .nil)))
def d_lots_of : Def := ⟨"lots_of", ["rows", "k"], ["rows", "k", "found", "turn", "lot", "row"], c_lots_of⟩
def c_tuples_of : CSs := (.cons (.ret (.call 23 (.cons (.idx (.var 0) (.ki 0)) (.cons (.var 1) .nil)))) .nil)
def d_tuples_of : Def := ⟨"tuples_of", ["book", "k"], ["book", "k"], c_tuples_of⟩
def c_told_in : CSs := (.cons (.if_ (.not_ (.idx (.var 0) (.ki 1))) (.cons (.ret (.tup .nil)) .nil) .nil) (.cons (.ret (.b1 .tup (.comp (.nm 2) (.rg1 (.idx (.var 0) (.ki 0))) (.kb true) (.tup (.cons (.call 24 (.cons (.var 0) (.cons (.bin .mul (.tup (.cons (.var 2) .nil)) (.var 1)) .nil))) (.cons (.var 2) .nil))) [("value", 2)]))) .nil))
def d_told_in : Def := ⟨"told_in", ["book", "k"], ["book", "k", "value"], c_told_in⟩
def c_ties_of : CSs := (.cons (.asgO 2 (.lst .nil)) (.cons (.for_ (.tp (.cons (.nm 3) (.cons (.tp (.cons (.nm 4) (.cons (.nm 5) .nil))) .nil))) (.enum (.call 16 (.cons (.idx (.var 0) (.ki 2)) .nil))) (.cons (.for_ (.nm 6) (.dat (.call 25 (.cons (.var 5) (.cons (.var 1) .nil)))) (.cons .dead .nil)) .nil)) (.frz 2 (.cons (.ret (.call 19 (.cons (.var 2) .nil))) .nil))))
def d_ties_of : Def := ⟨"ties_of", ["book", "k"], ["book", "k", "found", "number", "width", "rows", "lot", "values"], c_ties_of⟩
def c_free_puzzle : CSs := (.cons (.ret (.tup (.cons (.b1 .len (.call 26 (.cons (.var 0) (.cons (.var 1) .nil)))) (.cons (.call 28 (.cons (.var 0) (.cons (.var 1) .nil))) (.cons (.call 27 (.cons (.var 0) (.cons (.var 1) .nil))) (.cons (.tup .nil) .nil)))))) .nil)
def d_free_puzzle : Def := ⟨"free_puzzle", ["book", "k"], ["book", "k"], c_free_puzzle⟩
end Mp

set_option maxRecDepth 100000
set_option linter.all false
set_option Elab.async false
namespace Mp
open PySem PySem.Spec PyProof.Rows L2
open Enc (enc)

/-! ### the box and what is drawn of it -/
def BoxAt (m : Mem) (k N : Nat) : Prop := ∃ b0 b1 b2 : Int, m[k]? = some [.int b0, .int b1, .int b2] ∧ 0 ≤ b2 ∧ b2 + (N : Int) < 2 ^ 62
theorem BoxAt.mono {m : Mem} {k N N' : Nat} (h : BoxAt m k N) (h' : N' ≤ N) : BoxAt m k N' := by
  obtain ⟨b0, b1, b2, e, h1, h2⟩ := h
  exact ⟨b0, b1, b2, e, h1, by omega⟩
theorem BoxAt.lt {m : Mem} {k N : Nat} (h : BoxAt m k N) : k < m.length := by
  obtain ⟨b0, b1, b2, e, h1, h2⟩ := h
  exact (List.getElem?_eq_some_iff.mp e).1
def drawn (b1 c : Int) : Int := (((((b1 + 48271 * c) * (39373 + c) % 2147483647 + c + b1 / 1000003) * ((b1 + 48271 * c) * (39373 + c) % 2147483647 % 40009 + 7)) % 2147483629 * 48271 + (b1 + 48271 * c) * (39373 + c) % 2147483647) % 2147483587) / 64
@[simp] theorem take_len {α : Type} (l : List α) : l.take l.length = l := List.take_length
theorem take_len' {α : Type} {l l' : List α} (h : l'.length = l.length) : l'.take l.length = l' := by rw [← h]; exact List.take_length
@[simp] theorem atI_nat {α : Type} (xs : List α) (i : Nat) : atI xs (i : Int) = xs[i]? := by
  unfold atI ixN
  by_cases h : i < xs.length
  · simp [h]
  · simp only [Int.natCast_nonneg, if_true]
    rw [if_neg (by omega)]
    simp only [Option.bind_none]
    rw [List.getElem?_eq_none (by omega)]
@[simp] theorem atI_0 {α : Type} (xs : List α) : atI xs 0 = xs[0]? := atI_nat xs 0
@[simp] theorem atI_1 {α : Type} (xs : List α) : atI xs 1 = xs[1]? := atI_nat xs 1
@[simp] theorem atI_2 {α : Type} (xs : List α) : atI xs 2 = xs[2]? := atI_nat xs 2
@[simp] theorem atI_3 {α : Type} (xs : List α) : atI xs 3 = xs[3]? := atI_nat xs 3
theorem take_spec {Fs : List Def} (h : Fs[2]? = some d__law_take) (n : Nat) (m : Mem) (k N B : Nat) (hB : BoxAt m k (N + 1)) (h1 : 1 ≤ B) (h2 : B < 1073741824) :
    ∃ (d : Nat) (m' : Mem), callF Fs (n + 1) 2 [.c k, .d (.int (B : Int))] m = .ok (.d (.int (d : Int))) m' ∧ d < B ∧ m'.length = m.length ∧ BoxAt m' k N := by
  obtain ⟨b0, b1, b2, hm, hb, hb2⟩ := hB
  have hk : k < m.length := (List.getElem?_eq_some_iff.mp hm).1
  have hB0 : 0 < B := h1
  have hN0 : (0 : Int) < B := by omega
  have hN2 : (B : Int) < 1073741824 := by omega
  by_cases h0 : 0 < b0
  · refine ⟨(b0 % B).toNat, m.set k [.int (b0 / B), .int b1, .int b2], ?_, ?_, by simp, ?_⟩
    · have e : ((b0 % (B : Int)).toNat : Int) = b0 % B := Int.toNat_of_nonneg (Int.emod_nonneg _ (by omega))
      rw [callF_at h _ _ _ rfl, e]
      simp [d__law_take, c__law_take, idxM, optD, optB, cmpD, hm, h0, b1D, binD, hN0, hN2, hB0, h2, ixN]
      rw [List.take_of_length_le (by simp)]
    · have := Int.emod_lt_of_pos b0 hN0
      have := Int.emod_nonneg b0 (show (B : Int) ≠ 0 by omega)
      omega
    · exact ⟨b0 / B, b1, b2, by rw [List.getElem?_set_self hk], hb, by omega⟩
  · have hd : drawn b1 (b2 + 1) % B = ((drawn b1 (b2 + 1) % B).toNat : Int) := (Int.toNat_of_nonneg (Int.emod_nonneg _ (by omega))).symm
    refine ⟨(drawn b1 (b2 + 1) % B).toNat, m.set k [.int b0, .int b1, .int (b2 + 1)], ?_, ?_, by simp, ?_⟩
    · have hset : ∀ x : List PyData, (m.set k x)[k]? = some x := fun x => List.getElem?_set_self hk
      have g1 : ∀ x : Int, bigOk 48271 x = true := fun x => by simp [bigOk]
      have g2 : ∀ x : Int, bigOk x (39373 + (b2 + 1)) = true := fun x => by unfold bigOk; simp; right; omega
      have g3 : ∀ x y : Int, bigOk x (y % 40009 + 7) = true := fun x y => by unfold bigOk; simp; right; omega
      have g4 : ∀ x : Int, bigOk x 48271 = true := fun x => by simp [bigOk]
      rw [← hd, callF_at h _ _ _ rfl]
      simp [d__law_take, c__law_take, idxM, optD, optB, cmpD, hm, hset, h0, b1D, binD, hN0, hN2, hB0, h2, ixN, g1, g2, g3, g4]
      rw [List.take_of_length_le (by simp)]
      simp [drawn]
    · have := Int.emod_lt_of_pos (drawn b1 (b2 + 1)) hN0
      omega
    · exact ⟨b0, b1, b2 + 1, by rw [List.getElem?_set_self hk], by omega, by omega⟩
end Mp

set_option maxRecDepth 100000
set_option linter.all false
set_option Elab.async false
namespace Mp
open PySem PySem.Spec PyProof.Rows L2
open Enc (enc)

/-! ### walks with draws -/
inductive R2 {α β : Type} (P : α → β → Prop) : List α → List β → Prop
  | nil : R2 P [] []
  | cons {a : α} {b : β} {l : List α} {l' : List β} : P a b → R2 P l l' → R2 P (a :: l) (b :: l')
theorem R2.len {α β : Type} {P : α → β → Prop} {l : List α} {l' : List β} (h : R2 P l l') : l'.length = l.length := by
  induction h with
  | nil => rfl
  | cons _ _ ih => simp [ih]
theorem R2.mem {α β : Type} {P : α → β → Prop} {l : List α} {l' : List β} (h : R2 P l l') {b : β} (hb : b ∈ l') : ∃ a ∈ l, P a b := by
  induction h with
  | nil => cases hb
  | cons p _ ih =>
    cases hb with
    | head => exact ⟨_, .head _, p⟩
    | tail _ hb =>
      obtain ⟨a, ha, pa⟩ := ih hb
      exact ⟨a, .tail _ ha, pa⟩
/-- a comprehension whose turns draw; each gives an item -/
theorem mapM'_draw {β γ : Type} {f : MV → Mem → Res (Option D)} {k c : Nat} (en : β → MV) (e : γ → D) (P : β → γ → Prop) :
    ∀ (l : List β) (m : Mem) (N : Nat), BoxAt m k (N + c * l.length) →
      (∀ x ∈ l, ∀ m N, BoxAt m k (N + c) → ∃ y m', f (en x) m = .ok (some (e y)) m' ∧ m'.length = m.length ∧ BoxAt m' k N ∧ P x y) →
      ∃ ys m', mapM' f (l.map en) m = .ok (ys.map e) m' ∧ m'.length = m.length ∧ BoxAt m' k N ∧ R2 P l ys
  | [], m, N, hB, _ => ⟨[], m, rfl, rfl, hB.mono (by omega), .nil⟩
  | x :: l, m, N, hB, h => by
    obtain ⟨y, m1, e1, l1, B1, p1⟩ := h x (by simp) m (N + c * l.length) (hB.mono (by simp [Nat.mul_add]; omega))
    obtain ⟨ys, m2, e2, l2, B2, p2⟩ := mapM'_draw en e P l m1 N B1 fun y hy => h y (by simp [hy])
    refine ⟨y :: ys, m2, ?_, by omega, B2, .cons p1 p2⟩
    simp only [List.map_cons, mapM', e1, noEx_ok1, Res.bind_ok, e2]
/-- a comprehension whose turns draw, and leave some out -/
theorem mapM'_drawSub {β γ : Type} {f : MV → Mem → Res (Option D)} {k c : Nat} (en : β → MV) (e : γ → D) (P : β → γ → Prop) :
    ∀ (l : List β) (m : Mem) (N : Nat), BoxAt m k (N + c * l.length) →
      (∀ x ∈ l, ∀ m N, BoxAt m k (N + c) → ∃ m', m'.length = m.length ∧ BoxAt m' k N ∧ (f (en x) m = .ok none m' ∨ ∃ y, f (en x) m = .ok (some (e y)) m' ∧ P x y)) →
      ∃ xs ys m', mapM' f (l.map en) m = .ok (ys.map e) m' ∧ m'.length = m.length ∧ BoxAt m' k N ∧ xs.Sublist l ∧ R2 P xs ys
  | [], m, N, hB, _ => ⟨[], [], m, rfl, rfl, hB.mono (by omega), .slnil, .nil⟩
  | x :: l, m, N, hB, h => by
    obtain ⟨m1, l1, B1, p1⟩ := h x (by simp) m (N + c * l.length) (hB.mono (by simp [Nat.mul_add]; omega))
    obtain ⟨xs, ys, m2, e2, l2, B2, s2, p2⟩ := mapM'_drawSub en e P l m1 N B1 fun y hy => h y (by simp [hy])
    rcases p1 with e1 | ⟨y, e1, p1⟩
    · refine ⟨xs, ys, m2, ?_, by omega, B2, .cons _ s2, p2⟩
      simp only [List.map_cons, mapM', e1, noEx_ok1, Res.bind_ok, e2]
    · refine ⟨x :: xs, y :: ys, m2, ?_, by omega, B2, .cons_cons _ s2, .cons p1 p2⟩
      simp only [List.map_cons, mapM', e1, noEx_ok1, Res.bind_ok, e2]
/-- a loop by its invariant -/
theorem forS_inv {f : MV → Env' → Mem → SRes} (J : Nat → Env' → Mem → Prop) :
    ∀ (xs : List MV) (i : Nat) (r : Env') (m : Mem), J i r m →
      (∀ j x r m, xs[j]? = some x → J (i + j) r m → ∃ r' m', f x r m = .nx r' m' ∧ J (i + j + 1) r' m') →
      ∃ r' m', forS f xs r m = .nx r' m' ∧ J (i + xs.length) r' m'
  | [], i, r, m, h, _ => ⟨r, m, rfl, h⟩
  | x :: xs, i, r, m, h, g => by
    obtain ⟨r1, m1, e1, h1⟩ := g 0 x r m rfl h
    obtain ⟨r2, m2, e2, h2⟩ := forS_inv J xs (i + 1) r1 m1 h1 fun j y r m hj hJ => by
      have := g (j + 1) y r m (by simpa using hj) (by rw [show i + (j + 1) = i + 1 + j by omega]; exact hJ)
      rwa [show i + (j + 1) + 1 = i + 1 + j + 1 by omega] at this
    refine ⟨r2, m2, ?_, by rw [show i + (x :: xs).length = i + 1 + xs.length by simp; omega]; exact h2⟩
    simp only [forS, e1, e2]
/-- a loop that draws -/
theorem forS_draw {f : MV → Env' → Mem → SRes} {k c : Nat} (I : Nat → Env' → Prop) (xs : List MV) (r : Env') (m : Mem) (N : Nat) (h0 : I 0 r) (hB : BoxAt m k (N + c * xs.length))
    (g : ∀ j x r m N, xs[j]? = some x → I j r → BoxAt m k (N + c) → ∃ r' m', f x r m = .nx r' m' ∧ m'.length = m.length ∧ BoxAt m' k N ∧ I (j + 1) r') :
    ∃ r' m', forS f xs r m = .nx r' m' ∧ m'.length = m.length ∧ BoxAt m' k N ∧ I xs.length r' := by
  obtain ⟨r', m', e, h1, h2, h3⟩ := forS_inv (f := f) (fun i r' m' => I i r' ∧ m'.length = m.length ∧ BoxAt m' k (N + c * (xs.length - i))) xs 0 r m ⟨h0, rfl, hB⟩ (by
    intro j x r1 m1 hj ⟨i1, i2, i3⟩
    have hj' : j < xs.length := (List.getElem?_eq_some_iff.mp hj).1
    rw [Nat.zero_add] at *
    obtain ⟨r2, m2, e2, l2, B2, I2⟩ := g j x r1 m1 (N + c * (xs.length - (j + 1))) hj i1 (i3.mono (by
      rw [show xs.length - j = xs.length - (j + 1) + 1 by omega, Nat.mul_add]; omega))
    exact ⟨r2, m2, e2, I2, by omega, B2⟩)
  rw [Nat.zero_add] at *
  exact ⟨r', m', e, h2, h3.mono (by omega), h1⟩
theorem forS_pure {f : MV → Env' → Mem → SRes} (I : Nat → Env' → Prop) (xs : List MV) (r : Env') (m : Mem) (h0 : I 0 r)
    (g : ∀ j x r, xs[j]? = some x → I j r → ∃ r', f x r m = .nx r' m ∧ I (j + 1) r') :
    ∃ r', forS f xs r m = .nx r' m ∧ I xs.length r' := by
  obtain ⟨r', m', e, h1, h2⟩ := forS_inv (f := f) (fun i r' m' => I i r' ∧ m' = m) xs 0 r m ⟨h0, rfl⟩ (by
    intro j x r1 m1 hj ⟨i1, i2⟩
    subst i2
    rw [Nat.zero_add] at *
    obtain ⟨r2, e2, I2⟩ := g j x r1 hj i1
    exact ⟨r2, m1, e2, I2, rfl⟩)
  rw [Nat.zero_add] at h1
  subst h2
  exact ⟨r', e, h1⟩
theorem rangeD_nat (n : Nat) : rangeD 0 (n : Int) = (List.range n).map fun (i : Nat) => PyData.int (i : Int) := by
  simp [rangeD]
theorem rgOk_nat {n : Nat} (h : n ≤ sizeLine) : rgOk 0 (n : Int) = true := by
  have : sizeLine = 2 ^ 24 := rfl
  simp only [rgOk, decide_eq_true_eq]
  refine ⟨by decide, by decide, by omega, by omega, by omega⟩

theorem perm_erase {α : Type} : ∀ {l : List α} {i : Nat} (h : i < l.length), (l[i] :: l.eraseIdx i).Perm l
  | [], _, h => by cases h
  | x :: l, 0, _ => by simp
  | x :: l, i + 1, h => by
    simp only [List.getElem_cons_succ, List.eraseIdx_cons_succ]
    exact (List.Perm.swap _ _ _).trans ((perm_erase (l := l) (by simpa using h)).cons x)

/-! ### _law_of, _law_mixed -/
theorem of_spec {Fs : List Def} (h2 : Fs[2]? = some d__law_take) (h5 : Fs[5]? = some d__law_of) (n : Nat) (m : Mem) (k N : Nat) (xs : List D) (hx : xs ≠ []) (hl : xs.length < 1073741824) (hB : BoxAt m k (N + 1)) :
    ∃ (x : D) (m' : Mem), callF Fs (n + 2) 5 [.c k, .d (.list xs)] m = .ok (.d x) m' ∧ x ∈ xs ∧ m'.length = m.length ∧ BoxAt m' k N := by
  have hp : 1 ≤ xs.length := by cases xs with | nil => exact absurd rfl hx | cons => simp
  obtain ⟨d, m1, e1, dl, l1, B1⟩ := take_spec h2 n m k N xs.length hB hp hl
  refine ⟨xs[d], m1, ?_, List.getElem_mem _, l1, B1⟩
  rw [callF_at h5 _ _ _ rfl]
  simp [d__law_of, c__law_of, b1D, e1, idxM, dl, take_len' l1]
theorem mixed_spec {Fs : List Def} (h2 : Fs[2]? = some d__law_take) (h6 : Fs[6]? = some d__law_mixed) (n : Nat) (m : Mem) (k N : Nat) (xs : List D) (hl : xs.length < 10000) (hB : BoxAt m k (N + xs.length)) :
    ∃ (ys : List D) (m' : Mem), callF Fs (n + 2) 6 [.c k, .d (.list xs)] m = .ok (.d (.list ys)) m' ∧ ys.Perm xs ∧ m'.length = m.length ∧ BoxAt m' k N := by
  rw [callF_at h6 _ _ _ rfl]
  have hs : sizeLine = 2 ^ 24 := rfl
  simp [d__law_mixed, c__law_mixed, b1D, rgOk_nat (show xs.length ≤ sizeLine by omega), rangeD_nat, -List.map_map]
  obtain ⟨r', m', e, l1, B1, rest, found, s4, rfl, hlen, hp⟩ := forS_draw (f := forF (callF Fs (n + 1)) (.nm 4) (.cons (.appPop 3 2 (.call 2 (.cons (.var 0) (.cons (.lenO 2) .nil)))) .nil)) (k := k) (c := 1)
    (fun i r => ∃ rest found s4, r = [.v (.c k), .v (.d (.list xs)), .own rest, .own found, s4] ∧ rest.length = xs.length - i ∧ (rest ++ found).Perm xs)
    (((List.range xs.length).map fun (i : Nat) => PyData.int (i : Int)).map MV.d) [.v (.c k), .v (.d (.list xs)), .own xs, .own [], .un] m N ⟨xs, [], .un, rfl, by simp, by simp⟩ (by simpa using hB) (by
      rintro j x r m N hj ⟨rest, found, s4, rfl, hlen, hp⟩ hB
      have hjl : j < xs.length := by simpa using (List.getElem?_eq_some_iff.mp hj).1
      obtain ⟨d, m1, e1, dl, l1, B1⟩ := take_spec h2 n m k N rest.length hB (by omega) (by omega)
      have hf : found.length ≤ xs.length := by rw [← hp.length_eq]; simp
      refine ⟨[.v (.c k), .v (.d (.list xs)), .own (rest.eraseIdx d), .own (found ++ [rest[d]]), .v x], m1, ?_, l1, B1, _, _, _, rfl, ?_, ?_⟩
      · have c1 : ((d : Int) < 4611686018427387904) := by omega
        have c2 : found.length < sizeLine := by omega
        simp [forF, e1, dl, c1, c2]
      · rw [List.length_eraseIdx_of_lt dl]; omega
      · refine List.Perm.trans ?_ hp
        rw [← List.append_assoc]
        refine (List.perm_append_comm.trans ?_)
        simp only [List.singleton_append]
        rw [← List.cons_append]
        exact List.Perm.append_right _ (perm_erase dl))
  rw [e]
  simp only [List.length_map, List.length_range] at hlen
  have hr : rest = [] := List.length_eq_zero_iff.mp (by omega)
  subst hr
  simp only [List.nil_append] at hp
  refine ⟨found, m', ?_, hp, l1, B1⟩
  simp [take_len' l1]
end Mp

set_option maxRecDepth 100000
set_option linter.all false
set_option Elab.async false
namespace Mp
open PySem PySem.Spec PyProof.Rows L2
open Enc (enc)

/-! ### _law_tuples -/
def tuplesL (n : Nat) : Nat → List (List Nat)
  | 0 => [[]]
  | w + 1 => (tuplesL n w).flatMap fun r => (List.range n).map fun v => r ++ [v]
theorem tuplesL_len (n : Nat) : ∀ w, (tuplesL n w).length = n ^ w
  | 0 => rfl
  | w + 1 => by
    simp only [tuplesL, List.length_flatMap, List.length_map, List.length_range]
    rw [List.map_const', List.sum_replicate_nat, tuplesL_len n w, Nat.pow_succ]
theorem tuplesL_mem {n : Nat} : ∀ {w : Nat} {r : List Nat}, r ∈ tuplesL n w ↔ r.length = w ∧ ∀ v ∈ r, v < n
  | 0, r => by
    simp only [tuplesL, List.mem_singleton, List.length_eq_zero_iff]
    exact ⟨fun h => ⟨h, by subst h; simp⟩, fun h => h.1⟩
  | w + 1, r => by
    simp only [tuplesL, List.mem_flatMap, List.mem_map, List.mem_range]
    constructor
    · rintro ⟨a, ha, v, hv, rfl⟩
      have := tuplesL_mem.mp ha
      refine ⟨by simp [this.1], fun u hu => ?_⟩
      simp only [List.mem_append, List.mem_singleton] at hu
      rcases hu with hu | rfl
      · exact this.2 u hu
      · exact hv
    · rintro ⟨h1, h2⟩
      have hne : r ≠ [] := by intro e; subst e; simp at h1
      refine ⟨r.dropLast, tuplesL_mem.mpr ⟨by simp [h1], fun u hu => h2 u (List.dropLast_subset _ hu)⟩, r.getLast hne, h2 _ (List.getLast_mem hne), List.dropLast_concat_getLast hne⟩
theorem size_ge {n : Nat} (h : n ≤ 10000) : n ≤ sizeLine := by
  have : sizeLine = 2 ^ 24 := rfl
  omega
theorem tuples_spec {Fs : List Def} (h7 : Fs[7]? = some d__law_tuples) (n : Nat) (m : Mem) (many w : Nat) (h1 : 1 ≤ many) (hs : many ^ w ≤ 1000) (hm : many ≤ 1000) (hw : w ≤ 1000) :
    callF Fs (n + 1) 7 [.d (.int (many : Int)), .d (.int (w : Int))] m = .ok (.d (.list ((tuplesL many w).map enc))) m := by
  rw [callF_at h7 _ _ _ rfl]
  have z1 : (1 ≤ sizeLine) = True := eq_true (size_ge (by omega))
  have z0 : (0 ≤ sizeLine) = True := eq_true (size_ge (by omega))
  simp [d__law_tuples, c__law_tuples, z1, z0, rgOk_nat (size_ge (show w ≤ 10000 by omega)), rangeD_nat]
  obtain ⟨r', e, s3, s4, s5, s6, rfl⟩ := forS_pure (f := forF (callF Fs n) (.nm 3) (.cons (.asg 4 (.lst .nil)) (.cons (.for_ (.nm 5) (.dat (.var 2)) (.cons (.asg 4 (.bin .add (.var 4) (.comp (.nm 6) (.rg1 (.var 0)) (.kb true) (.bin .add (.var 5) (.tup (.cons (.var 6) .nil))) [("_law_bit", 6)]))) .nil)) (.cons (.asg 2 (.var 4)) .nil))))
    (fun i r => ∃ s3 s4 s5 s6, r = [.v (.d (.int (many : Int))), .v (.d (.int (w : Int))), .v (.d (.list ((tuplesL many i).map enc))), s3, s4, s5, s6])
    ((List.range w).map (MV.d ∘ fun (i : Nat) => PyData.int (i : Int))) [.v (.d (.int (many : Int))), .v (.d (.int (w : Int))), .v (.d (.list [.tuple []])), .un, .un, .un, .un] m ⟨.un, .un, .un, .un, rfl⟩ (by
      rintro i x r hx ⟨s3, s4, s5, s6, rfl⟩
      have hi : i < w := by simpa using (List.getElem?_eq_some_iff.mp hx).1
      have hpow : many ^ (i + 1) ≤ 1000 := Nat.le_trans (Nat.pow_le_pow_right h1 hi) hs
      simp [forF, z0]
      obtain ⟨r', e, s5', s6', rfl⟩ := forS_pure (f := forF (callF Fs n) (.nm 5) (.cons (.asg 4 (.bin .add (.var 4) (.comp (.nm 6) (.rg1 (.var 0)) (.kb true) (.bin .add (.var 5) (.tup (.cons (.var 6) .nil))) [("_law_bit", 6)]))) .nil))
        (fun j r => ∃ s5 s6, r = [.v (.d (.int (many : Int))), .v (.d (.int (w : Int))), .v (.d (.list ((tuplesL many i).map enc))), .v x, .v (.d (.list (((tuplesL many i).take j).flatMap fun r => (List.range many).map fun v => enc (r ++ [v])))), s5, s6])
        ((tuplesL many i).map (MV.d ∘ enc)) [.v (.d (.int (many : Int))), .v (.d (.int (w : Int))), .v (.d (.list ((tuplesL many i).map enc))), .v x, .v (.d (.list [])), s5, s6] m ⟨s5, s6, rfl⟩ (by
          rintro j y r hy ⟨s5, s6, rfl⟩
          obtain ⟨hj, hy⟩ := List.getElem?_eq_some_iff.mp hy
          simp at hj hy
          have hlen : (((tuplesL many i).take j).flatMap fun r => (List.range many).map fun v => enc (r ++ [v])).length + many ≤ sizeLine := by
            simp only [List.length_flatMap, List.length_map, List.length_range]
            rw [List.map_const', List.sum_replicate_nat, List.length_take]
            refine size_ge ?_
            rw [tuplesL_len] at *
            rw [Nat.min_eq_left (by omega)]
            have : j * many + many ≤ many ^ i * many := by
              rw [← Nat.succ_mul]; exact Nat.mul_le_mul_right _ hj
            rw [Nat.pow_succ] at hpow
            omega
          subst hy
          have hlr : ∀ r ∈ tuplesL many i, r.length ≤ 1000 := fun r hr => by
            have := (tuplesL_mem.mp hr).1; omega
          simp [forF, rgOk_nat (size_ge (show many ≤ 10000 by omega)), rangeD_nat]
          rw [mapM'_all (g := fun v : Nat => enc ((tuplesL many i)[j] ++ [v])) (h := by
            intro v hv
            have hr := hlr _ (List.getElem_mem hj)
            simp [compF, binD, z1, size_ge (show (tuplesL many i)[j].length + 1 ≤ 10000 by omega)])]
          simp only [List.length_flatMap, List.length_map, List.length_range, List.map_take] at hlen
          simp [binD, hlen]
          rw [List.take_succ_eq_append_getElem hj, List.flatMap_append]
          simp only [List.flatMap_cons, List.flatMap_nil, List.append_nil])
      simp only [List.length_map, List.take_length] at e
      simp only [List.map_take, List.map_id, Function.comp_def] at e
      simp only [Function.comp_def, e]
      simp [tuplesL, List.map_flatMap, Function.comp_def])
  rw [e]
  simp
end Mp

set_option maxRecDepth 100000
set_option linter.all false
set_option Elab.async false
namespace Mp
open PySem PySem.Spec PyProof.Rows L2
open Enc (enc)

/-! ### sorting, slices -/
section
variable {α : Type} [Enc α]
def srtL (l : List α) : List α := l.mergeSort fun a b => !Enc.lt b a
theorem sortD_enc (l : List α) : sortD (l.map enc) = (srtL l).map enc := by
  rw [sortD_eq]
  unfold srtL
  rw [List.map_mergeSort (r := fun a b => !Enc.lt b a) (s := PySem.W.dataLe false fun x => x)]
  intro a _ b _
  rw [PySem.W.dataLe_eq]
  simp only [cond_false, Enc.lt_eq]
theorem le_trans' {a b c : α} (h1 : (!Enc.lt b a) = true) (h2 : (!Enc.lt c b) = true) : (!Enc.lt c a) = true := by
  simp only [Bool.not_eq_true'] at *
  cases h : Enc.lt c a with
  | false => rfl
  | true =>
    cases h3 : Enc.lt a b with
    | true => rw [lt_trans' h h3] at h2; cases h2
    | false =>
      have := Enc.total a b h3 h1
      subst this
      rw [h] at h2; cases h2
theorem srtL_perm (l : List α) : (srtL l).Perm l := List.mergeSort_perm _ _
theorem srtL_le (l : List α) : (srtL l).Pairwise fun a b => (!Enc.lt b a) = true :=
  List.pairwise_mergeSort (le := fun a b => !Enc.lt b a) (fun a b c h1 h2 => le_trans' h1 h2) (fun a b => by
    cases h : Enc.lt b a with
    | false => rfl
    | true => simp [lt_asym h]) l
theorem asc_of {l : List α} (h : l.Pairwise fun a b => (!Enc.lt b a) = true) (hn : l.Nodup) : l.Pairwise fun a b => Enc.lt a b = true := by
  refine (h.and hn).imp fun {a b} ⟨h1, h2⟩ => ?_
  cases h3 : Enc.lt a b with
  | true => rfl
  | false =>
    simp only [Bool.not_eq_true'] at h1
    exact absurd (Enc.total a b h3 h1) h2
theorem srtL_asc {l : List α} (hn : l.Nodup) : (srtL l).Pairwise fun a b => Enc.lt a b = true :=
  asc_of (srtL_le l) ((srtL_perm l).nodup_iff.mpr hn)
theorem asc_nodup {l : List α} (h : l.Pairwise fun a b => Enc.lt a b = true) : l.Nodup := h.imp fun h => lt_ne h
theorem allAlike_enc (l : List α) : allAlike (l.map enc) = true := by
  simp only [allAlike, List.all_eq_true, List.mem_map]
  rintro _ ⟨a, _, rfl⟩ _ ⟨b, _, rfl⟩
  exact Enc.alike a b
theorem allPlain_enc (l : List α) (h : Enc.dep α ≤ 64) : (l.map enc).all plain = true := by
  simp only [List.all_eq_true, List.mem_map]
  rintro _ ⟨a, _, rfl⟩
  exact plain_enc a h
theorem sortable_tup {l : List α} (h : ∀ a ∈ l, isTupD (enc a) = true) : sortable (l.map enc) = true := by
  unfold sortable
  rw [Bool.or_eq_true]
  left
  simp only [List.all_eq_true, List.mem_map]
  rintro _ ⟨a, ha, rfl⟩
  have := h a ha
  generalize enc a = d at this
  cases d <;> try cases this
  rename_i xs
  cases xs
  · cases this
  · rfl
theorem b1_srt {l : List α} (h : ∀ a ∈ l, isTupD (enc a) = true) (hd : Enc.dep α ≤ 64) : b1D .srt (.list (l.map enc)) = some (.list ((srtL l).map enc)) := by
  simp only [b1D, allAlike_enc, sortable_tup h, allPlain_enc l hd, and_self, if_true, sortD_enc]
end
theorem isTup_row {α : Type} [Enc α] {l : List α} (h : l ≠ []) : isTupD (enc l) = true := by
  cases l with
  | nil => exact absurd rfl h
  | cons x l => rfl
theorem cutD_to (xs : List D) (k : Nat) : cutD xs none (some (k : Int)) = xs.take k := by
  simp only [cutD, HT.sIx_none, HT.sIx_nat, List.drop_zero, Nat.sub_zero]
  by_cases h : k ≤ xs.length
  · rw [Nat.min_eq_left h]
  · rw [Nat.min_eq_right (by omega), List.take_of_length_le (Nat.le_refl _), List.take_of_length_le (by omega)]
theorem cutD_from (xs : List D) (k : Nat) : cutD xs (some (k : Int)) none = xs.drop k := by
  simp only [cutD, HT.sIx_none, HT.sIx_nat]
  by_cases h : k ≤ xs.length
  · rw [Nat.min_eq_left h, List.take_of_length_le (by simp)]
  · rw [Nat.min_eq_right (by omega), List.drop_of_length_le (Nat.le_refl _), List.drop_of_length_le (by omega)]
    simp
theorem perm_map {α β : Type} (f : α → β) {ys zs : List β} (h : ys.Perm zs) : ∀ l : List α, zs = l.map f → ∃ l' : List α, ys = l'.map f ∧ l'.Perm l := by
  induction h with
  | nil => intro l hl; exact ⟨[], rfl, by rw [List.map_eq_nil_iff.mp hl.symm]⟩
  | cons x _ ih =>
    intro l hl
    cases l with
    | nil => cases hl
    | cons a l =>
      rw [List.map_cons] at hl
      obtain ⟨rfl, e⟩ := List.cons.inj hl
      obtain ⟨l', rfl, p⟩ := ih l e
      exact ⟨a :: l', rfl, p.cons a⟩
  | swap x y t =>
    intro l hl
    match l, hl with
    | [], hl => cases hl
    | [_], hl => simp at hl
    | a :: b :: l, hl =>
      simp only [List.map_cons, List.cons.injEq] at hl
      obtain ⟨rfl, rfl, rfl⟩ := hl
      exact ⟨b :: a :: l, rfl, List.Perm.swap _ _ _⟩
  | trans _ _ ih1 ih2 =>
    intro l hl
    obtain ⟨l1, e1, p1⟩ := ih2 l hl
    obtain ⟨l2, e2, p2⟩ := ih1 l1 e1
    exact ⟨l2, e2, p2.trans p1⟩
theorem tuplesL_asc (n : Nat) : ∀ w, (tuplesL n w).Pairwise fun a b => Enc.lt a b = true
  | 0 => by simp [tuplesL]
  | w + 1 => by
    have key : ∀ a b : List Nat, ltL a b = true → a.length = b.length → ∀ u v : Nat, ltL (a ++ [u]) (b ++ [v]) = true := by
      intro a
      induction a with
      | nil => intro b h1 h2; cases b <;> simp [ltL] at h1 h2
      | cons x a ih =>
        intro b h1 h2 u v
        cases b with
        | nil => simp at h2
        | cons y b =>
          simp only [ltL, List.cons_append, Bool.or_eq_true, Bool.and_eq_true] at h1 ⊢
          rcases h1 with h1 | ⟨h1, h3⟩
          · exact .inl h1
          · exact .inr ⟨h1, ih b h3 (by simpa using h2) u v⟩
    have key2 : ∀ (a : List Nat) (u v : Nat), u < v → ltL (a ++ [u]) (a ++ [v]) = true := by
      intro a u v h
      induction a with
      | nil => simp [ltL, Enc.lt, h]
      | cons x a ih => simp only [List.cons_append, ltL, lt_irr, ih]; rfl
    simp only [tuplesL]
    rw [List.pairwise_flatMap]
    refine ⟨fun a ha => ?_, ?_⟩
    · rw [List.pairwise_map]
      exact List.pairwise_lt_range.imp fun {u v} h => key2 a u v h
    · refine (tuplesL_asc n w).imp_of_mem fun {a b} ha hb hab => ?_
      intro x hx y hy
      obtain ⟨u, _, rfl⟩ := List.mem_map.mp hx
      obtain ⟨v, _, rfl⟩ := List.mem_map.mp hy
      exact key a b hab (by rw [(tuplesL_mem.mp ha).1, (tuplesL_mem.mp hb).1]) u v

/-! ### _law_kind -/
abbrev Kd := Nat × List (List Nat)
structure KdOk (many : Nat) (k : Kd) : Prop where
  w1 : 1 ≤ k.1
  w3 : k.1 ≤ 3
  rows : ∀ r ∈ k.2, r.length = k.1 ∧ ∀ v ∈ r, v < many
  asc : k.2.Pairwise fun a b => Enc.lt a b = true
  len : k.2.length ≤ 6
theorem kind_spec {Fs : List Def} (h2 : Fs[2]? = some d__law_take) (h5 : Fs[5]? = some d__law_of) (h6 : Fs[6]? = some d__law_mixed) (h7 : Fs[7]? = some d__law_tuples) (h8 : Fs[8]? = some d__law_kind)
    (n : Nat) (m : Mem) (k N many : Nat) (hm : many = 2 ∨ many = 3) (hB : BoxAt m k (N + 60)) :
    ∃ (kd : Kd) (m' : Mem), callF Fs (n + 3) 8 [.c k, .d (.int (many : Int))] m = .ok (.d (enc kd)) m' ∧ KdOk many kd ∧ m'.length = m.length ∧ BoxAt m' k N := by
  obtain ⟨x, m1, e1, hx, l1, B1⟩ := of_spec h2 h5 n m k (N + 59) [.int 1, .int 2, .int 2, .int 2, .int (if many = 2 then 3 else 2)] (by simp) (by simp) hB
  have hw : ∃ w : Nat, x = .int (w : Int) ∧ 1 ≤ w ∧ w ≤ 3 ∧ (many = 3 → w ≤ 2) := by
    simp only [List.mem_cons, List.not_mem_nil, or_false] at hx
    rcases hx with h | h | h | h | h
    · exact ⟨1, h, by omega, by omega, by omega⟩
    · exact ⟨2, h, by omega, by omega, by omega⟩
    · exact ⟨2, h, by omega, by omega, by omega⟩
    · exact ⟨2, h, by omega, by omega, by omega⟩
    · by_cases hm2 : many = 2
      · rw [if_pos hm2] at h; exact ⟨3, h, by omega, by omega, by omega⟩
      · rw [if_neg hm2] at h; exact ⟨2, h, by omega, by omega, by omega⟩
  obtain ⟨w, rfl, w1, w3, w2⟩ := hw
  have hpow : many ^ w ≤ 9 := by
    rcases hm with rfl | rfl
    · exact Nat.le_trans (Nat.pow_le_pow_right (by omega) w3) (by decide)
    · exact Nat.le_trans (Nat.pow_le_pow_right (by omega) (w2 rfl)) (by decide)
  have e2 := tuples_spec h7 (n + 1) m1 many w (by omega) (by omega) (by omega) (by omega)
  obtain ⟨d, m2, e3, d3, l3, B3⟩ := take_spec h2 (n + 1) m1 k (N + 58) 2 B1 (by omega) (by omega)
  have hkp : (2 : Int) + (d : Int) = ((2 + d : Nat) : Int) := by omega
  obtain ⟨rows, rows', m3, e4, l4, B4, sub, p4⟩ := mapM'_drawSub (f := compF (callF Fs (n + 2)) (.nm 6) (.cmp .gt (.call 2 (.cons (.var 0) (.cons (.var 4) .nil))) (.ki 0)) (.var 6) [("_law_own", 6)] [.v (.c k), .v (.d (.int (many : Int))), .v (.d (.int (w : Int))), .v (.d (.list ((tuplesL many w).map enc))), .v (.d (.int (2 + (d : Int)))), .un, .un])
    (k := k) (c := 1) (MV.d ∘ enc) (enc : List Nat → D) (fun a b => a = b) (tuplesL many w) m2 (N + 40) (B3.mono (by rw [tuplesL_len]; omega)) (by
      intro r hr m N hB
      obtain ⟨u, m', e, _, l, B⟩ := take_spec h2 (n + 1) m k N (2 + d) hB (by omega) (by omega)
      rw [← hkp] at e
      refine ⟨m', l, B, ?_⟩
      by_cases h0 : 0 < u
      · right
        exact ⟨r, by simp [compF, e, cmpD, h0], rfl⟩
      · left
        simp [compF, e, cmpD, h0])
  have hrr : rows' = rows := by
    clear e4
    induction p4 with
    | nil => rfl
    | cons h _ ih => rw [h, ih (List.Sublist.trans (List.sublist_cons_self _ _) sub)]
  subst hrr
  have hrl : rows'.length ≤ 9 := by have := sub.length_le; rw [tuplesL_len] at this; omega
  obtain ⟨ys, m4, e5, p5, l5, B5⟩ := mixed_spec h2 h6 n m3 k (N + 31) (rows'.map enc) (by simp; omega) (B4.mono (by simp; omega))
  obtain ⟨mx, rfl, pm⟩ := perm_map enc p5 rows' rfl
  obtain ⟨m6, hm6⟩ : ∃ l, l = mx.take 6 := ⟨_, rfl⟩
  have hmem : ∀ r ∈ m6, r.length = w ∧ ∀ v ∈ r, v < many := fun r hr => tuplesL_mem.mp (sub.subset (pm.subset (List.take_subset 6 _ (by rw [← hm6]; exact hr))))
  have hsrt : b1D .srt (.list (m6.map enc)) = some (.list ((srtL m6).map enc)) := b1_srt (fun a ha => isTup_row (by
    have := (hmem a ha).1
    intro e; subst e; simp at this; omega)) (by decide)
  have hnd : m6.Nodup := hm6 ▸ ((pm.nodup_iff.mpr ((asc_nodup (tuplesL_asc many w)).sublist sub)).sublist (List.take_sublist _ _))
  refine ⟨(w, srtL m6), m4, ?_, ⟨w1, w3, fun r hr => hmem r ((srtL_perm _).subset hr), srtL_asc hnd, ?_⟩, by omega, B5.mono (by omega)⟩
  · have z5 : (5 ≤ sizeLine) = True := eq_true (size_ge (by omega))
    have z2 : (2 ≤ sizeLine) = True := eq_true (size_ge (by omega))
    rw [callF_at h8 _ _ _ rfl]
    have e1' : callF Fs (n + 2) 5 [.c k, .d (.list [.int 1, .int 2, .int 2, .int 2, .int (if many = 2 then 3 else 2)])] m = .ok (.d (.int (w : Int))) m1 := e1
    have e3' : callF Fs (n + 2) 2 [.c k, .d (.int 2)] m1 = .ok (.d (.int (d : Int))) m2 := e3
    have hslc : slcD (.list (mx.map enc)) none (some 6) = some (.list (m6.map enc)) := by
      show some (PyData.list (cutD _ none (some ((6 : Nat) : Int)))) = _
      rw [cutD_to, ← List.map_take, hm6]
    have hl : (m4.take m.length) = m4 := take_len' (by omega)
    rcases hm with rfl | rfl
    · simp only [if_true] at e1'
      simp only [Int.cast_ofNat_Int] at e2 e4
      simp [d__law_kind, c__law_kind, z5, z2, e1', e2, e3', -List.map_map]
      simp [e4, e5, hslc, hsrt, z2, hl]
    · simp only [show ¬ (3 = 2) by decide, if_false] at e1'
      simp only [Int.cast_ofNat_Int] at e2 e4
      simp [d__law_kind, c__law_kind, z5, z2, e1', e2, e3', -List.map_map]
      simp [e4, e5, hslc, hsrt, z2, hl]
  · rw [(srtL_perm _).length_eq]
    rw [hm6]; simp
    omega
end Mp

set_option maxRecDepth 100000
set_option linter.all false
set_option Elab.async false
namespace Mp
open PySem PySem.Spec PyProof.Rows L2
open Enc (enc)

@[simp] theorem le_size {n : Nat} (h : n ≤ 10000) : (n ≤ sizeLine) = True := eq_true (size_ge h)
/-! ### _law_known, _law_book -/
def kLike : Kd := (2, [[0, 0], [1, 1]])
def knownL : List (Nat × Kd) := [(2, kLike), (2, 2, [[0, 0], [0, 1], [1, 1]]), (2, 2, [[0, 1], [1, 0], [1, 1]]), (2, 2, [[0, 1], [1, 0]]),
  (2, 3, [[0, 0, 0], [0, 1, 1], [1, 0, 1], [1, 1, 0]]), (2, 3, [[0, 0, 1], [0, 1, 0], [1, 0, 0]]),
  (3, 2, [[0, 1], [0, 2], [1, 0], [1, 2], [2, 0], [2, 1]]), (3, 2, [[0, 0], [1, 2], [2, 1]]), (3, 2, [[0, 1], [1, 2], [2, 0]])]
theorem known_spec {Fs : List Def} (h9 : Fs[9]? = some d__law_known) (n : Nat) (m : Mem) :
    callF Fs (n + 1) 9 [] m = .ok (.d (.list (knownL.map enc))) m := by
  rw [callF_at h9 _ _ _ rfl]
  simp [d__law_known, c__law_known, knownL, kLike]
def poolL (many : Nat) : List Kd := (knownL.filter fun p => decide (p.1 = many)).map (·.2)
structure Bk where
  many : Nat
  tell : Bool
  kinds : List Kd
def eB (b : Bk) : D := .tuple [.int (b.many : Int), .bool b.tell, .tuple (b.kinds.map enc)]
structure BkOk (b : Bk) : Prop where
  many : b.many = 2 ∨ b.many = 3
  kinds : ∀ kd ∈ b.kinds, KdOk b.many kd
instance (many : Nat) (kd : Kd) : Decidable (KdOk many kd) :=
  decidable_of_iff (1 ≤ kd.1 ∧ kd.1 ≤ 3 ∧ (∀ r ∈ kd.2, r.length = kd.1 ∧ ∀ v ∈ r, v < many) ∧ (kd.2.Pairwise fun a b => Enc.lt a b = true) ∧ kd.2.length ≤ 6)
    ⟨fun ⟨a, b, c, d, e⟩ => ⟨a, b, c, d, e⟩, fun ⟨a, b, c, d, e⟩ => ⟨a, b, c, d, e⟩⟩
theorem pool2 : ∀ kd ∈ poolL 2, KdOk 2 kd := by decide
theorem pool3 : ∀ kd ∈ poolL 3, KdOk 3 kd := by decide
theorem take_ok {Fs : List Def} (h : Fs[2]? = some d__law_take) (n : Nat) (m : Mem) (k N : Nat) (B : Int) (hB : BoxAt m k (N + 1)) (h1 : 1 ≤ B) (h2 : B < 1073741824) :
    ∃ (d : Nat) (m' : Mem), callF Fs (n + 1) 2 [.c k, .d (.int B)] m = .ok (.d (.int (d : Int))) m' ∧ (d : Int) < B ∧ m'.length = m.length ∧ BoxAt m' k N := by
  obtain ⟨d, m', e, hd, l, b⟩ := take_spec h n m k N B.toNat hB (by omega) (by omega)
  rw [show ((B.toNat : Nat) : Int) = B by omega] at e
  exact ⟨d, m', e, by omega, l, b⟩
theorem book_spec {Fs : List Def} (h2 : Fs[2]? = some d__law_take) (h5 : Fs[5]? = some d__law_of) (h6 : Fs[6]? = some d__law_mixed) (h7 : Fs[7]? = some d__law_tuples) (h8 : Fs[8]? = some d__law_kind)
    (h9 : Fs[9]? = some d__law_known) (h10 : Fs[10]? = some d__law_book) (n : Nat) (m : Mem) (k N most : Nat) (hm1 : 1 ≤ most) (hm4 : most ≤ 4) (hB : BoxAt m k (N + 300)) :
    ∃ (b : Bk) (m' : Mem), callF Fs (n + 4) 10 [.c k, .d (.int (most : Int))] m = .ok (.d (eB b)) m' ∧ BkOk b ∧ 1 ≤ b.kinds.length ∧ b.kinds.length ≤ most ∧ m'.length = m.length ∧ BoxAt m' k N := by
  obtain ⟨x, m1, e1, hx, l1, B1⟩ := of_spec h2 h5 (n + 1) m k (N + 299) [.int 2, .int 2, .int 2, .int 3] (by simp) (by simp) hB
  have hmany : ∃ many : Nat, x = .int (many : Int) ∧ (many = 2 ∨ many = 3) := by
    simp only [List.mem_cons, List.not_mem_nil, or_false] at hx
    rcases hx with h | h | h | h
    · exact ⟨2, h, .inl rfl⟩
    · exact ⟨2, h, .inl rfl⟩
    · exact ⟨2, h, .inl rfl⟩
    · exact ⟨3, h, .inr rfl⟩
  obtain ⟨many, rfl, hmany⟩ := hmany
  obtain ⟨laps, m2, e2, d2, l2, B2⟩ := take_spec h2 (n + 2) m1 k (N + 298) most B1 (by omega) (by omega)
  have hlap : (1 : Int) + (laps : Int) = ((1 + laps : Nat) : Int) := by omega
  obtain ⟨r', m3, e3, l3, B3, s4, s5, s6, kds, rfl, hkl, hko⟩ := forS_draw (f := forF (callF Fs (n + 3)) (.nm 4) (.cons (.asg 5 (.comp (.nm 6) (.dat (.call 9 .nil)) (.cmp .eq (.idx (.var 6) (.ki 0)) (.var 2)) (.idx (.var 6) (.ki 1)) [("_law_own", 6)])) (.cons (.app 3 (.ite (.cmp .eq (.call 2 (.cons (.var 0) (.cons (.ki 2) .nil))) (.ki 0)) (.call 5 (.cons (.var 0) (.cons (.var 5) .nil))) (.call 8 (.cons (.var 0) (.cons (.var 2) .nil))))) .nil)))
    (k := k) (c := 62) (fun i r => ∃ s4 s5 s6, ∃ kds : List Kd, r = [.v (.c k), .v (.d (.int (most : Int))), .v (.d (.int (many : Int))), .own (kds.map enc), s4, s5, s6] ∧ kds.length = i ∧ ∀ kd ∈ kds, KdOk many kd)
    (((List.range (1 + laps)).map fun (i : Nat) => PyData.int (i : Int)).map MV.d) [.v (.c k), .v (.d (.int (most : Int))), .v (.d (.int (many : Int))), .own [], .un, .un, .un] m2 (N + 40)
    ⟨.un, .un, .un, [], rfl, rfl, by simp⟩ (B2.mono (by simp; omega)) (by
      rintro i y r m N hy ⟨s4, s5, s6, kds, rfl, hkl, hko⟩ hB
      have hil : i < 4 := by
        have := (List.getElem?_eq_some_iff.mp hy).1
        simp at this; omega
      have hpool : mapM' (compF (callF Fs (n + 3)) (.nm 6) (.cmp .eq (.idx (.var 6) (.ki 0)) (.var 2)) (.idx (.var 6) (.ki 1)) [("_law_own", 6)] [.v (.c k), .v (.d (.int (most : Int))), .v (.d (.int (many : Int))), .own (kds.map enc), .v y, s5, s6])
          ((knownL.map enc).map MV.d) m = .ok ((poolL many).map enc) m := by
        rw [List.map_map, mapM'_filter (c := fun p => decide (p.1 = many)) (g := fun p => enc p.2)]
        · simp [poolL, List.map_map, Function.comp_def]
        · rintro ⟨p1, p2⟩ _
          have : ((p1 : Int) = (many : Int)) ↔ p1 = many := Int.ofNat_inj
          simp [compF, idxM, this]
          split <;> rfl
      obtain ⟨u, m1, e1, d1, l1, B1⟩ := take_spec h2 (n + 2) m k (N + 61) 2 hB (by omega) (by omega)
      have e1' : callF Fs (n + 3) 2 [.c k, .d (.int 2)] m = .ok (.d (.int (u : Int))) m1 := e1
      have hpl : (poolL many).length ≤ 6 ∧ poolL many ≠ [] ∧ ∀ kd ∈ poolL many, KdOk many kd := by
        rcases hmany with rfl | rfl
        · exact ⟨by decide, by decide, pool2⟩
        · exact ⟨by decide, by decide, pool3⟩
      have hl : kds.length < sizeLine := Nat.lt_of_lt_of_le (show kds.length < 10000 by omega) (size_ge (Nat.le_refl _))
      by_cases hu : u = 0
      · obtain ⟨x, m2, e2, hx, l2, B2⟩ := of_spec h2 h5 (n + 1) m1 k (N + 60) ((poolL many).map enc) (by simpa using hpl.2.1) (by simp; omega) B1
        obtain ⟨kd, hkd, rfl⟩ := List.mem_map.mp hx
        refine ⟨[.v (.c k), .v (.d (.int (most : Int))), .v (.d (.int (many : Int))), .own ((kds ++ [kd]).map enc), .v y, .v (.d (.list ((poolL many).map enc))), s6], m2, ?_, by omega, B2.mono (by omega), _, _, _, _, rfl, by simp [hkl], ?_⟩
        · simp only [enc_pair] at e2
          simp [forF, known_spec h9, hpool, e1', hu, e2, hl, -List.map_map]
        · intro q hq
          simp only [List.mem_append, List.mem_singleton] at hq
          rcases hq with hq | rfl
          · exact hko q hq
          · exact hpl.2.2 q hkd
      · obtain ⟨kd, m2, e2, hkd, l2, B2⟩ := kind_spec h2 h5 h6 h7 h8 n m1 k (N + 1) many hmany B1
        refine ⟨[.v (.c k), .v (.d (.int (most : Int))), .v (.d (.int (many : Int))), .own ((kds ++ [kd]).map enc), .v y, .v (.d (.list ((poolL many).map enc))), s6], m2, ?_, by omega, B2.mono (by omega), _, _, _, _, rfl, by simp [hkl], ?_⟩
        · simp only [enc_pair] at e2
          simp [forF, known_spec h9, hpool, e1', hu, e2, hl, -List.map_map]
        · intro q hq
          simp only [List.mem_append, List.mem_singleton] at hq
          rcases hq with hq | rfl
          · exact hko q hq
          · exact hkd)
  simp at hkl
  obtain ⟨u, m4, e4, d4, l4, B4⟩ := take_spec h2 (n + 2) m3 k (N + 39) 2 B3 (by omega) (by omega)
  have e4' : callF Fs (n + 3) 2 [.c k, .d (.int 2)] m3 = .ok (.d (.int (u : Int))) m4 := e4
  refine ⟨⟨many, decide (u = 0), kds⟩, m4, ?_, ⟨hmany, hko⟩, by simp; omega, by simp; omega, by omega, B4.mono (by omega)⟩
  rw [callF_at h10 _ _ _ rfl]
  have hr : rgOk 0 (1 + (laps : Int)) = true := by rw [hlap]; exact rgOk_nat (size_ge (by omega))
  have hrd : rangeD 0 (1 + (laps : Int)) = (List.range (1 + laps)).map fun (i : Nat) => PyData.int (i : Int) := by rw [hlap, rangeD_nat]
  have hl : (m4.take m.length) = m4 := take_len' (by omega)
  have hu0 : ((u : Int) = 0) ↔ u = 0 := by omega
  simp [d__law_book, c__law_book, e1, e2, hr, hrd, e3, e4', hl, eB, hu0, -List.map_map]
end Mp

set_option maxRecDepth 100000
set_option linter.all false
set_option Elab.async false
namespace Mp
open PySem PySem.Spec PyProof.Rows L2
open Enc (enc)

/-! ### sorted(set(..)) -/
class Flat (α : Type) [Enc α] : Prop where
  flat : ∀ a : α, flatD (enc a) = true
  nd : ∀ a : α, (nkey (enc a)).depth ≤ Enc.dep α
instance : Flat Nat := ⟨fun a => by simp [flatD], fun a => by simp [nkey, NestedKey.depth]⟩
instance : Flat Int := ⟨fun a => by simp [flatD], fun a => by simp [nkey, NestedKey.depth]⟩
section
variable {α β : Type} [Enc α] [Flat α] [Enc β] [Flat β]
theorem flats_enc : ∀ l : List α, flatDs (l.map enc) = true
  | [] => by simp [flatDs]
  | x :: l => by simp [flatDs, Flat.flat, flats_enc l]
theorem nds_enc : ∀ l : List α, NestedKey.depthAll (nkeys (l.map enc)) ≤ Enc.dep α
  | [] => by simp [nkeys, NestedKey.depthAll]
  | x :: l => by
    have h1 := Flat.nd x
    have h2 := nds_enc l
    simp only [List.map_cons, nkeys, NestedKey.depthAll]
    omega
instance : Flat (List α) := ⟨fun l => by simp only [enc_list, flatD]; exact flats_enc l, fun l => by
  simp only [enc_list, nkey, NestedKey.depth]
  have := nds_enc l
  show _ ≤ Enc.dep α + 1
  omega⟩
instance : Flat (α × β) := ⟨fun p => by simp [flatD, flatDs, Flat.flat], fun p => by
  have h1 := Flat.nd p.1
  have h2 := Flat.nd p.2
  simp only [enc_pair, nkey, nkeys, NestedKey.depth, NestedKey.depthAll]
  show _ ≤ max (Enc.dep α) (Enc.dep β) + 1
  omega⟩
end
section
variable {α : Type} [Enc α]
def insL (x : α) : List α → List α
  | [] => [x]
  | y :: r => if Enc.lt x y = true then x :: y :: r else if Enc.lt y x = true then y :: insL x r else y :: r
def uniqL (l : List α) : List α := l.foldr insL []
abbrev Asc (l : List α) : Prop := l.Pairwise fun a b => Enc.lt a b = true
theorem mem_insL {x a : α} : ∀ {l : List α}, a ∈ insL x l ↔ a = x ∨ a ∈ l
  | [] => by simp [insL]
  | y :: r => by
    simp only [insL]
    split
    · simp
    · rename_i h1
      split
      · simp only [List.mem_cons, mem_insL (l := r)]
        constructor
        · rintro (h | h | h)
          · exact .inr (.inl h)
          · exact .inl h
          · exact .inr (.inr h)
        · rintro (h | h | h)
          · exact .inr (.inl h)
          · exact .inl h
          · exact .inr (.inr h)
      · rename_i h2
        have e := Enc.total x y (by simpa using h1) (by simpa using h2)
        subst e
        simp
theorem asc_insL {x : α} : ∀ {l : List α}, Asc l → Asc (insL x l)
  | [], _ => by simp [insL, Asc]
  | y :: r, h => by
    have h' := List.pairwise_cons.mp h
    simp only [insL]
    split
    · rename_i h1
      refine List.pairwise_cons.mpr ⟨fun z hz => ?_, h⟩
      cases hz with
      | head => exact h1
      | tail _ hz => exact lt_trans' h1 (h'.1 z hz)
    · split
      · rename_i h2
        refine List.pairwise_cons.mpr ⟨fun z hz => ?_, asc_insL h'.2⟩
        rcases mem_insL.mp hz with rfl | hz
        · exact h2
        · exact h'.1 z hz
      · exact h
theorem mem_uniqL {a : α} : ∀ {l : List α}, a ∈ uniqL l ↔ a ∈ l
  | [] => by simp [uniqL]
  | x :: l => by
    have := mem_uniqL (a := a) (l := l)
    simp only [uniqL, List.foldr_cons, mem_insL, List.mem_cons] at *
    rw [this]
theorem asc_uniqL : ∀ l : List α, Asc (uniqL l)
  | [] => by simp [uniqL, Asc]
  | x :: l => by
    have := asc_uniqL l
    simp only [uniqL, List.foldr_cons] at *
    exact asc_insL this
theorem asc_ext : ∀ {l l' : List α}, Asc l → Asc l' → (∀ a, a ∈ l ↔ a ∈ l') → l = l'
  | [], [], _, _, _ => rfl
  | [], y :: r, _, _, h => by have := (h y).mpr (by simp); cases this
  | x :: l, [], _, _, h => by have := (h x).mp (by simp); cases this
  | x :: l, y :: r, h1, h2, h => by
    have h1' := List.pairwise_cons.mp h1
    have h2' := List.pairwise_cons.mp h2
    have e : x = y := by
      have a1 := (h x).mp (by simp)
      have a2 := (h y).mpr (by simp)
      cases a1 with
      | head => rfl
      | tail _ a1 =>
        cases a2 with
        | head => rfl
        | tail _ a2 =>
          have := lt_trans' (h2'.1 x a1) (h1'.1 y a2)
          rw [lt_irr] at this
          cases this
    subst e
    rw [asc_ext h1'.2 h2'.2 fun a => ?_]
    constructor
    · intro ha
      have := (h a).mp (.tail _ ha)
      cases this with
      | head => have := h1'.1 _ ha; rw [lt_irr] at this; cases this
      | tail _ q => exact q
    · intro ha
      have := (h a).mpr (.tail _ ha)
      cases this with
      | head => have := h2'.1 _ ha; rw [lt_irr] at this; cases this
      | tail _ q => exact q
theorem uniqL_asc {l : List α} (h : Asc l) : uniqL l = l := asc_ext (asc_uniqL l) h fun a => mem_uniqL
theorem uniqL_eq_iff {l : List α} : l = uniqL l ↔ Asc l := ⟨fun h => h ▸ asc_uniqL l, fun h => (uniqL_asc h).symm⟩
theorem uniqL_len : ∀ l : List α, (uniqL l).length ≤ l.length
  | [] => by simp [uniqL]
  | x :: l => by
    have h := uniqL_len l
    have key : ∀ r : List α, (insL x r).length ≤ r.length + 1 := by
      intro r
      induction r with
      | nil => simp [insL]
      | cons y r ih =>
        simp only [insL]
        split
        · simp
        · split
          · simp; omega
          · simp
    simp only [uniqL, List.foldr_cons, List.length_cons] at *
    have := key (List.foldr insL [] l)
    omega
theorem insD_enc (x : α) : ∀ l : List α, insD (enc x) (l.map enc) = (insL x l).map enc
  | [] => rfl
  | y :: r => by
    simp only [List.map_cons, insD, insL, Enc.lt_eq, insD_enc x r]
    split
    · rfl
    · split <;> rfl
theorem uniqD_enc : ∀ l : List α, uniqD (l.map enc) = (uniqL l).map enc
  | [] => rfl
  | x :: l => by
    have h := uniqD_enc l
    simp only [uniqD, uniqL, List.map_cons, List.foldr_cons] at *
    rw [h, insD_enc]
theorem strictB_enc : ∀ {l : List α}, Asc l → strictB (l.map enc) = true
  | [], _ => rfl
  | x :: l, h => by
    have h' := List.pairwise_cons.mp h
    simp only [List.map_cons, strictB, Enc.lt_eq, lt_irr, Bool.not_false, Bool.true_and, strictB_enc h'.2, Bool.and_true, List.all_eq_true, List.mem_map]
    rintro _ ⟨y, hy, rfl⟩
    rw [Enc.lt_eq, Enc.lt_eq, h'.1 y hy, lt_asym (h'.1 y hy)]
    rfl
theorem ssetD_enc [Flat α] (l : List α) (ht : ∀ a ∈ l, isTupD (enc a) = true) (hd : Enc.dep α ≤ 8) (hl : l.length < 64) : ssetD (l.map enc) = some (.list ((uniqL l).map enc)) := by
  have hk : ∀ a ∈ l, keyB (enc a) = true := fun a ha => by
    simp only [keyB, ht a ha, Flat.flat, plain_enc a (by omega), Bool.and_true, Bool.true_and]
    exact decide_eq_true (Nat.le_trans (Flat.nd a) hd)
  unfold ssetD ssetOk
  rw [uniqD_enc, if_pos]
  simp only [Bool.and_eq_true, List.all_eq_true, List.mem_map, decide_eq_true_eq, List.length_map]
  refine ⟨⟨⟨⟨⟨⟨?_, ?_⟩, hl⟩, strictB_enc (asc_uniqL l)⟩, allAlike_enc _⟩, ?_⟩, ?_⟩
  · rintro _ ⟨a, ha, rfl⟩; exact hk a ha
  · rintro _ ⟨a, ha, rfl⟩; exact hk a (mem_uniqL.mp ha)
  · rintro _ ⟨a, ha, rfl⟩
    rw [List.contains_iff_mem]
    exact List.mem_map_of_mem (List.mem_map_of_mem (mem_uniqL.mpr ha))
  · rintro _ ⟨a, ha, rfl⟩
    rw [List.contains_iff_mem]
    exact List.mem_map_of_mem (List.mem_map_of_mem (mem_uniqL.mp ha))
theorem ssetOf_tup [Flat α] (l : List α) (ht : ∀ a ∈ l, isTupD (enc a) = true) (hd : Enc.dep α ≤ 8) (hl : l.length < 64) : ssetOf (l.map enc) = some (.list ((uniqL l).map enc)) := by
  cases l with
  | nil => simp [ssetOf, intsOf, ssetI, uniqI, uniqL]
  | cons x l =>
    have : intsOf ((x :: l).map enc) = none := by
      have := ht x (by simp)
      rw [List.map_cons]
      generalize enc x = d at this
      cases d <;> try cases this
      rfl
    unfold ssetOf
    rw [this]
    exact ssetD_enc _ ht hd hl
end
theorem intsOf_int : ∀ l : List Int, intsOf (l.map PyData.int) = some l
  | [] => rfl
  | x :: l => by simp [intsOf, intsOf_int l]
theorem insI_L (x : Int) : ∀ l : List Int, insI x l = insL x l
  | [] => rfl
  | y :: r => by simp only [insI, insL, Enc.lt, decide_eq_true_eq, insI_L x r]
theorem uniqI_L : ∀ l : List Int, uniqI l = uniqL l
  | [] => rfl
  | x :: l => by
    have h := uniqI_L l
    simp only [uniqI, uniqL, List.foldr_cons] at *
    rw [h, insI_L]
theorem ssetOf_int (l : List Int) (hl : l.length < 64) : ssetOf (l.map PyData.int) = some (.list ((uniqL l).map PyData.int)) := by
  unfold ssetOf
  rw [intsOf_int]
  simp only [ssetI]
  rw [if_pos, uniqI_L]
  rw [uniqI_L]
  exact ⟨hl, (asc_uniqL l).imp fun h => by simpa [Enc.lt] using h, fun k hk => mem_uniqL.mpr hk, fun k hk => mem_uniqL.mp hk⟩
theorem insL_nat (x : Nat) : ∀ l : List Nat, insL (x : Int) (l.map fun (n : Nat) => (n : Int)) = (insL x l).map fun (n : Nat) => (n : Int)
  | [] => rfl
  | y :: r => by
    simp only [List.map_cons, insL, Enc.lt, decide_eq_true_eq, insL_nat x r, Int.ofNat_lt]
    split
    · rfl
    · split <;> rfl
theorem uniqL_nat : ∀ l : List Nat, uniqL (l.map fun (n : Nat) => (n : Int)) = (uniqL l).map fun (n : Nat) => (n : Int)
  | [] => rfl
  | x :: l => by
    have h := uniqL_nat l
    simp only [uniqL, List.map_cons, List.foldr_cons] at *
    rw [h, insL_nat]
theorem ssetOf_nat (l : List Nat) (hl : l.length < 64) : ssetOf (l.map enc) = some (.list ((uniqL l).map enc)) := by
  have e : ∀ l : List Nat, l.map enc = (l.map fun (n : Nat) => (n : Int)).map PyData.int := fun l => by rw [List.map_map]; rfl
  rw [e, ssetOf_int _ (by simpa using hl), uniqL_nat, ← e]
@[simp] theorem b1_ssetl (l : List D) : b1D .sset (.list l) = ssetOf l := (rfl)
@[simp] theorem b1_ssett (l : List D) : b1D .sset (.tuple l) = ssetOf l := (rfl)

/-! ### _law_tie, _law_puzzle -/
abbrev Tie := Nat × List Nat
structure Pz where
  places : Nat
  ties : List Tie
  told : List (Nat × Nat)
  shown : List Nat
def eP (p : Pz) : D := .tuple [.int (p.places : Int), .tuple (p.ties.map enc), .tuple (p.told.map enc), .tuple (p.shown.map enc)]
structure TieOk (b : Bk) (places : Nat) (t : Tie) : Prop where
  num : t.1 < b.kinds.length
  wide : ∀ kd, b.kinds[t.1]? = some kd → t.2.length = kd.1
  at_ : ∀ s ∈ t.2, s < places
structure PzOk (b : Bk) (p : Pz) : Prop where
  ties : ∀ t ∈ p.ties, TieOk b p.places t
  asc : Asc p.ties
  told : ∀ t ∈ p.told, t.1 < p.places ∧ t.2 < b.many
  tasc : p.told.Pairwise fun a b => a.1 < b.1
  tell : b.tell = false → p.told = []
  shown : ∀ s ∈ p.shown, s < p.places
theorem tie_spec {Fs : List Def} (h2 : Fs[2]? = some d__law_take) (h11 : Fs[11]? = some d__law_tie) (n : Nat) (m : Mem) (k N : Nat) (b : Bk) (hb : BkOk b) (places : Nat) (hp1 : 1 ≤ places) (hp2 : places < 10000)
    (hk1 : 1 ≤ b.kinds.length) (hk2 : b.kinds.length < 10000) (hB : BoxAt m k (N + 4)) :
    ∃ (t : Tie) (m' : Mem), callF Fs (n + 2) 11 [.c k, .d (eB b), .d (.int (places : Int))] m = .ok (.d (enc t)) m' ∧ TieOk b places t ∧ m'.length = m.length ∧ BoxAt m' k N := by
  obtain ⟨num, m1, e1, d1, l1, B1⟩ := take_spec h2 n m k (N + 3) b.kinds.length hB hk1 (by omega)
  have hkd := hb.kinds _ (List.getElem_mem d1)
  have hg : b.kinds[num]? = some b.kinds[num] := List.getElem?_eq_getElem d1
  have hw3 := hkd.w3
  obtain ⟨spots, m2, e2, l2, B2, p2⟩ := mapM'_draw (f := compF (callF Fs (n + 1)) (.nm 4) (.kb true) (.call 2 (.cons (.var 0) (.cons (.var 2) .nil))) [("_law_lap", 4)] [.v (.c k), .v (.d (eB b)), .v (.d (.int (places : Int))), .v (.d (.int (num : Int))), .un])
    (k := k) (c := 1) (MV.d ∘ fun (i : Nat) => PyData.int (i : Int)) (enc : Nat → D) (fun _ y => y < places) (List.range b.kinds[num].1) m1 N (B1.mono (by simp; omega)) (by
      intro x _ m N hB
      obtain ⟨u, m', e, hu, l, B⟩ := take_spec h2 n m k N places hB hp1 (by omega)
      exact ⟨u, m', by simp [compF, e], l, B, hu⟩)
  refine ⟨(num, spots), m2, ?_, ⟨d1, fun kd h => ?_, fun s hs => ?_⟩, by omega, B2⟩
  · rw [callF_at h11 _ _ _ rfl]
    have hr := rgOk_nat (size_ge (show b.kinds[num].1 ≤ 10000 by omega))
    have hl : (m2.take m.length) = m2 := take_len' (by omega)
    simp [d__law_tie, c__law_tie, eB, idxM, e1, hg, hr, rangeD_nat, -List.map_map]
    simp [eB] at e2
    simp [e2, hl]
  · rw [hg] at h
    cases h
    rw [p2.len]; simp
  · obtain ⟨_, _, h⟩ := p2.mem hs
    exact h
end Mp

set_option maxRecDepth 100000
set_option linter.all false
set_option Elab.async false
namespace Mp
open PySem PySem.Spec PyProof.Rows L2
open Enc (enc)
theorem puzzle_spec {Fs : List Def} (h2 : Fs[2]? = some d__law_take) (h11 : Fs[11]? = some d__law_tie) (h12 : Fs[12]? = some d__law_puzzle) (n : Nat) (m : Mem) (k N : Nat) (b : Bk) (hb : BkOk b)
    (hk2 : b.kinds.length < 10000) (most ties : Nat) (hm1 : 1 ≤ most) (hm2 : most ≤ 9) (ht : ties ≤ 20) (hB : BoxAt m k (N + 300)) :
    ∃ (p : Pz) (m' : Mem), callF Fs (n + 3) 12 [.c k, .d (eB b), .d (.int (most : Int)), .d (.int (ties : Int))] m = .ok (.d (eP p)) m' ∧ PzOk b p ∧ 1 ≤ p.places ∧ p.places ≤ most ∧ p.ties.length ≤ ties ∧ p.shown.length ≤ 3 ∧ (b.kinds = [] → p.ties = []) ∧ m'.length = m.length ∧ BoxAt m' k N := by
  obtain ⟨pl, m1, e1, d1, l1, B1⟩ := take_spec h2 (n + 1) m k (N + 299) most hB hm1 (by omega)
  obtain ⟨places, hpl⟩ : ∃ places, places = 1 + pl := ⟨_, rfl⟩
  have hple : (1 : Int) + (pl : Int) = (places : Int) := by omega
  -- the ties
  have tiesX : ∃ (rows : List Tie) (m2 : Mem), (∀ t ∈ rows, TieOk b places t) ∧ rows.length ≤ ties ∧ m2.length = m.length ∧ BoxAt m2 k (N + 100) ∧
      (b.kinds = [] → rows = []) ∧ evS (callF Fs (n + 2)) (.if_ (.cmp .ne (.idx (.var 1) (.ki 2)) (.tup .nil)) (.cons (.asg 6 (.comp (.nm 8) (.rg1 (.call 2 (.cons (.var 0) (.cons (.bin .add (.var 3) (.ki 1)) .nil)))) (.kb true) (.call 11 (.cons (.var 0) (.cons (.var 1) (.cons (.var 4) .nil)))) [("_law_lap", 8)])) .nil) .nil)
        [.v (.c k), .v (.d (eB b)), .v (.d (.int (most : Int))), .v (.d (.int (ties : Int))), .v (.d (.int (places : Int))), .v (.d (.tuple [])), .v (.d (.list [])), .un, .un, .un] m1 =
      .nx [.v (.c k), .v (.d (eB b)), .v (.d (.int (most : Int))), .v (.d (.int (ties : Int))), .v (.d (.int (places : Int))), .v (.d (.tuple [])), .v (.d (.list (rows.map enc))), .un, .un, .un] m2 := by
    have hc : cmpD .ne (.tuple (b.kinds.map enc)) (.tuple []) = some (!decide (b.kinds = [])) := cmp_ne b.kinds [] (by decide)
    by_cases hk : b.kinds = []
    · refine ⟨[], m1, by simp, by simp, l1, B1.mono (by omega), fun _ => rfl, ?_⟩
      simp [eB, idxM, hk] at hc ⊢
      simp [hc]
    · have hk1 : 1 ≤ b.kinds.length := by cases h : b.kinds with | nil => exact absurd h hk | cons => simp
      obtain ⟨u, m2, e2, d2, l2, B2⟩ := take_spec h2 (n + 1) m1 k (N + 298) (ties + 1) B1 (by omega) (by omega)
      obtain ⟨rows, m3, e3, l3, B3, p3⟩ := mapM'_draw (f := compF (callF Fs (n + 2)) (.nm 8) (.kb true) (.call 11 (.cons (.var 0) (.cons (.var 1) (.cons (.var 4) .nil)))) [("_law_lap", 8)] [.v (.c k), .v (.d (eB b)), .v (.d (.int (most : Int))), .v (.d (.int (ties : Int))), .v (.d (.int (places : Int))), .v (.d (.tuple [])), .v (.d (.list [])), .un, .un, .un])
        (k := k) (c := 4) (MV.d ∘ fun (i : Nat) => PyData.int (i : Int)) (enc : Tie → D) (fun _ y => TieOk b places y) (List.range u) m2 (N + 100) (B2.mono (by simp; omega)) (by
          intro x _ m N hB
          obtain ⟨t, m', e, ht, l, B⟩ := tie_spec h2 h11 n m k N b hb places (by omega) (by omega) hk1 hk2 hB
          refine ⟨t, m', ?_, l, B, ht⟩
          simp [compF, e])
      refine ⟨rows, m3, fun t ht => ?_, by rw [p3.len]; simp; omega, by omega, B3, fun h => absurd h hk, ?_⟩
      · obtain ⟨_, _, h⟩ := p3.mem ht
        exact h
      · have hr := rgOk_nat (size_ge (show u ≤ 10000 by omega))
        have e2' : callF Fs (n + 2) 2 [.c k, .d (.int ((ties : Int) + 1))] m1 = .ok (.d (.int (u : Int))) m2 := e2
        simp only [eB] at e3
        simp [eB, idxM, hc, hk, e2', hr, rangeD_nat, -List.map_map]
        simp [e3]
  obtain ⟨rows, m2, ht1, ht2, l2, B2, hk0, e2⟩ := tiesX
  -- what is told
  have toldX : ∃ (told : List (Nat × Nat)) (m3 : Mem) (s9 : Slot), (∀ t ∈ told, t.1 < places ∧ t.2 < b.many) ∧ (told.Pairwise fun a b => a.1 < b.1) ∧ (b.tell = false → told = []) ∧ m3.length = m.length ∧ BoxAt m3 k (N + 70) ∧
      evS (callF Fs (n + 2)) (.if_ (.idx (.var 1) (.ki 1)) (.cons (.asg 5 (.b1 .tup (.comp (.nm 9) (.rg1 (.var 4)) (.cmp .eq (.call 2 (.cons (.var 0) (.cons (.ki 4) .nil))) (.ki 0)) (.tup (.cons (.var 9) (.cons (.call 2 (.cons (.var 0) (.cons (.idx (.var 1) (.ki 0)) .nil))) .nil))) [("_law_nth_so", 9)]))) .nil) .nil)
        [.v (.c k), .v (.d (eB b)), .v (.d (.int (most : Int))), .v (.d (.int (ties : Int))), .v (.d (.int (places : Int))), .v (.d (.tuple [])), .v (.d (.list (rows.map enc))), .un, .un, .un] m2 =
      .nx [.v (.c k), .v (.d (eB b)), .v (.d (.int (most : Int))), .v (.d (.int (ties : Int))), .v (.d (.int (places : Int))), .v (.d (.tuple (told.map enc))), .v (.d (.list (rows.map enc))), .un, .un, s9] m3 := by
    cases htell : b.tell with
    | false =>
      refine ⟨[], m2, .un, by simp, by simp, fun _ => rfl, l2, B2.mono (by omega), ?_⟩
      simp [eB, idxM, htell]
    | true =>
      obtain ⟨xs, told, m3, e3, l3, B3, sub, p3⟩ := mapM'_drawSub (f := compF (callF Fs (n + 2)) (.nm 9) (.cmp .eq (.call 2 (.cons (.var 0) (.cons (.ki 4) .nil))) (.ki 0)) (.tup (.cons (.var 9) (.cons (.call 2 (.cons (.var 0) (.cons (.idx (.var 1) (.ki 0)) .nil))) .nil))) [("_law_nth_so", 9)] [.v (.c k), .v (.d (eB b)), .v (.d (.int (most : Int))), .v (.d (.int (ties : Int))), .v (.d (.int (places : Int))), .v (.d (.tuple [])), .v (.d (.list (rows.map enc))), .un, .un, .un])
        (k := k) (c := 2) (MV.d ∘ fun (i : Nat) => PyData.int (i : Int)) (enc : Nat × Nat → D) (fun x y => x = y.1 ∧ y.2 < b.many) (List.range places) m2 (N + 70) (B2.mono (by simp; omega)) (by
          intro x _ m N hB
          obtain ⟨u, m', e, hu, l, B⟩ := take_spec h2 (n + 1) m k (N + 1) 4 hB (by omega) (by omega)
          have e' : callF Fs (n + 2) 2 [.c k, .d (.int 4)] m = .ok (.d (.int (u : Int))) m' := e
          by_cases hu0 : u = 0
          · obtain ⟨v, m'', e2, hv, l2, B2⟩ := take_spec h2 (n + 1) m' k N b.many B (by rcases hb.many with h | h <;> omega) (by rcases hb.many with h | h <;> omega)
            refine ⟨m'', by omega, B2, .inr ⟨(x, v), ?_, rfl, hv⟩⟩
            have e2' : callF Fs (n + 2) 2 [.c k, .d (.int (b.many : Int))] m' = .ok (.d (.int (v : Int))) m'' := e2
            simp [compF, e', hu0, eB, idxM, e2']
          · refine ⟨m', l, B.mono (by omega), .inl ?_⟩
            have : ¬ ((u : Int) = 0) := by omega
            simp [compF, e', this, hu0])
      have hfst : told.map (·.1) = xs := by
        clear e3
        induction p3 with
        | nil => rfl
        | cons h _ ih => simp [h.1, ih ((List.sublist_cons_self _ _).trans sub)]
      refine ⟨told, m3, .un, fun t ht => ?_, ?_, fun h => by simp [htell] at h, by omega, B3, ?_⟩
      · obtain ⟨x, hx, rfl, hv⟩ := p3.mem ht
        exact ⟨by simpa using sub.subset hx, hv⟩
      · rw [← List.pairwise_map (f := fun t : Nat × Nat => t.1) (R := fun a b => a < b), hfst]
        exact List.pairwise_lt_range.sublist sub
      · have hr := rgOk_nat (size_ge (show places ≤ 10000 by omega))
        have hi : atI [PyData.int (b.many : Int), .bool b.tell, .tuple (b.kinds.map enc)] 1 = some (.bool true) := by simp [htell]
        simp only [eB, htell] at e3
        simp [eB, idxM, htell, hr, rangeD_nat, -List.map_map]
        simp [e3]
  obtain ⟨told, m3, s9, ht3, ht4, ht5, l3, B3, e3⟩ := toldX
  -- what is shown
  obtain ⟨u, m4, e4, d4, l4, B4⟩ := take_spec h2 (n + 1) m3 k (N + 69) 4 B3 (by omega) (by omega)
  have e4' : callF Fs (n + 2) 2 [.c k, .d (.int 4)] m3 = .ok (.d (.int (u : Int))) m4 := e4
  obtain ⟨shown, m5, e5, l5, B5, p5⟩ := mapM'_draw (f := compF (callF Fs (n + 2)) (.nm 8) (.kb true) (.call 2 (.cons (.var 0) (.cons (.var 4) .nil))) [("_law_lap", 8)] [.v (.c k), .v (.d (eB b)), .v (.d (.int (most : Int))), .v (.d (.int (ties : Int))), .v (.d (.int (places : Int))), .v (.d (.tuple (told.map enc))), .v (.d (.list (rows.map enc))), .un, .un, s9])
    (k := k) (c := 1) (MV.d ∘ fun (i : Nat) => PyData.int (i : Int)) (enc : Nat → D) (fun _ y => y < places) (List.range u) m4 N (B4.mono (by simp; omega)) (by
      intro x _ m N hB
      obtain ⟨u, m', e, hu, l, B⟩ := take_spec h2 (n + 1) m k N places hB (by omega) (by omega)
      exact ⟨u, m', by simp [compF, e], l, B, hu⟩)
  refine ⟨⟨places, uniqL rows, told, shown⟩, m5, ?_, ⟨fun t ht => ht1 t (mem_uniqL.mp ht), asc_uniqL _, ht3, ht4, ht5, fun s hs => ?_⟩, by simp; omega, by simp; omega, Nat.le_trans (uniqL_len _) ht2, by simp [p5.len]; omega, fun h => by simp [hk0 h, uniqL], by omega, B5⟩
  · rw [callF_at h12 _ _ _ rfl]
    have hset : ssetOf (rows.map enc) = some (.list ((uniqL rows).map enc)) := ssetOf_tup rows (fun a _ => rfl) (by decide) (by omega)
    have hr := rgOk_nat (size_ge (show u ≤ 10000 by omega))
    have hl : (m5.take m.length) = m5 := take_len' (by omega)
    simp only [d__law_puzzle, c__law_puzzle, evSs_cons]
    have e0 : evS (callF Fs (n + 2)) (.par [4, 5, 6] [false, false, false] (.cons (.bin .add (.ki 1) (.call 2 (.cons (.var 0) (.cons (.var 2) .nil)))) (.cons (.tup .nil) (.cons (.lst .nil) .nil))))
        [.v (.c k), .v (.d (eB b)), .v (.d (.int (most : Int))), .v (.d (.int (ties : Int))), .un, .un, .un, .un, .un, .un] m =
        .nx [.v (.c k), .v (.d (eB b)), .v (.d (.int (most : Int))), .v (.d (.int (ties : Int))), .v (.d (.int (places : Int))), .v (.d (.tuple [])), .v (.d (.list [])), .un, .un, .un] m1 := by
      simp [e1, hple]
    have e0' := e0
    simp only [List.map_cons, List.map_nil, List.length_cons, List.length_nil, Nat.reduceAdd, Nat.reduceSub, List.replicate_succ, List.replicate_zero, List.cons_append, List.nil_append] at e0' ⊢
    rw [e0', thenS_nx, evSs_cons, e2, thenS_nx, evSs_cons, e3, thenS_nx]
    simp [e4', hr, rangeD_nat, -List.map_map]
    simp [e5, hset, hl, eP]
  · obtain ⟨_, _, h⟩ := p5.mem hs
    exact h
end Mp

set_option maxRecDepth 100000
set_option linter.all false
set_option Elab.async false
namespace Mp
open PySem PySem.Spec PyProof.Rows L2
open Enc (enc)
/-! ### all([..]), _law_same, tupled, _law_lists -/
theorem boolsOf_map {β : Type} (g : β → Bool) : ∀ l : List β, boolsOf (l.map fun x => PyData.bool (g x)) = some (l.map g)
  | [] => rfl
  | x :: l => by simp [boolsOf, boolsOf_map g l]
theorem b1_all {β : Type} (g : β → Bool) (l : List β) : b1D .all (.list (l.map fun x => PyData.bool (g x))) = some (.bool (l.all g)) := by
  simp [b1D, boolsOf_map]
theorem b1_any {β : Type} (g : β → Bool) (l : List β) : b1D .any (.list (l.map fun x => PyData.bool (g x))) = some (.bool (l.any g)) := by
  simp [b1D, boolsOf_map]
theorem zipD_self : ∀ xs : List D, zipD xs xs = xs.map fun x => .tuple [x, x]
  | [] => rfl
  | x :: xs => by simp [zipD, zipD_self xs]
theorem eqv_refl {d : D} (h : d.canLay0 = true) : PyData.eqv d d = true := by
  refine PySem.W.eqv_refl_alike d ?_
  exact alike_self d h
where
  alike_self : ∀ d : D, d.canLay0 = true → PySem.W.alike d d = true
  | .none, _ => by simp [PySem.W.alike]
  | .bool _, _ => by simp [PySem.W.alike]
  | .int _, _ => by simp [PySem.W.alike]
  | .str _, _ => by simp [PySem.W.alike]
  | .list xs, h => by simp only [PySem.W.alike]; exact alikeAll_self xs (by simpa [PyData.canLay0] using h)
  | .tuple xs, h => by simp only [PySem.W.alike]; exact alikeAll_self xs (by simpa [PyData.canLay0] using h)
  | .dict _, h => by simp [PyData.canLay0] at h
  alikeAll_self : ∀ ds : List D, PyData.canLayAll0 ds = true → PySem.W.alikeAll ds ds = true
  | [], _ => by simp [PySem.W.alikeAll]
  | x :: xs, h => by
    simp only [PyData.canLayAll0, Bool.and_eq_true] at h
    simp only [PySem.W.alikeAll, alike_self x h.1, alikeAll_self xs h.2, Bool.and_self]
theorem layAll_mem {x : D} : ∀ {xs : List D}, PyData.canLayAll0 xs = true → x ∈ xs → x.canLay0 = true
  | y :: xs, h, hm => by
    simp only [PyData.canLayAll0, Bool.and_eq_true] at h
    rcases List.mem_cons.mp hm with rfl | hx
    · exact h.1
    · exact layAll_mem h.2 hx
theorem depthAll_mem {x : D} : ∀ {xs : List D}, x ∈ xs → x.depth ≤ PyData.depthAll xs
  | y :: xs, h => by
    rcases List.mem_cons.mp h with rfl | hx
    · simp only [PyData.depthAll]; omega
    · have := depthAll_mem hx; simp only [PyData.depthAll]; omega
theorem same_refl {Fs : List Def} (h3 : Fs[3]? = some d__law_same) : ∀ (d : Nat) (x : D), x.depth ≤ d → d ≤ 64 → x.canLay0 = true → ∀ (n : Nat) (m : Mem), callF Fs (n + d + 1) 3 [.d x, .d x] m = .ok (.d (.bool true)) m := by
  intro d
  induction d with
  | zero =>
    intro x hd h64 hl n m
    rw [callF_at h3 _ _ _ rfl]
    have hp : plain x = true := by simp only [plain, SeqAt.shaped, hl, Bool.true_and]; exact decide_eq_true (by omega)
    have he := eqv_refl hl
    have hc : cmpD .eq x x = some true := by simp [cmpD, hp, he]
    cases x with
    | none => simp [d__law_same, c__law_same, isD, hc]
    | bool b => simp [d__law_same, c__law_same, isD, hc]
    | int i => simp [d__law_same, c__law_same, isD, hc]
    | str s => simp [d__law_same, c__law_same, isD, hc]
    | list xs => simp [PyData.depth] at hd
    | tuple xs => simp [PyData.depth] at hd
    | dict xs => simp [PyData.canLay0] at hl
  | succ d ih =>
    intro x hd h64 hl n m
    by_cases h0 : x.depth = 0
    · rw [callF_at h3 _ _ _ rfl]
      have hp : plain x = true := by simp only [plain, SeqAt.shaped, hl, Bool.true_and]; exact decide_eq_true (by omega)
      have he := eqv_refl hl
      have hc : cmpD .eq x x = some true := by simp [cmpD, hp, he]
      cases x with
      | none => simp [d__law_same, c__law_same, isD, hc]
      | bool b => simp [d__law_same, c__law_same, isD, hc]
      | int i => simp [d__law_same, c__law_same, isD, hc]
      | str s => simp [d__law_same, c__law_same, isD, hc]
      | list xs => simp [PyData.depth] at h0
      | tuple xs => simp [PyData.depth] at h0
      | dict xs => simp [PyData.canLay0] at hl
    · rw [callF_at h3 _ _ _ rfl]
      have key : ∀ xs : List D, PyData.canLayAll0 xs = true → PyData.depthAll xs ≤ d → ∀ r : Env', r.length = 4 →
          mapM' (compF (callF Fs (n + (d + 1))) (.tp (.cons (.nm 2) (.cons (.nm 3) .nil))) (.kb true) (.call 3 (.cons (.var 2) (.cons (.var 3) .nil))) [("_law_mine", 2), ("_law_its", 3)] r) ((xs.map fun x => PyData.tuple [x, x]).map MV.d) m = .ok (xs.map fun _ => PyData.bool true) m := by
        intro xs h1 h2 r hr
        rw [List.map_map, mapM'_all (g := fun _ => PyData.bool true)]
        intro y hy
        have := ih y (Nat.le_trans (depthAll_mem hy) h2) (by omega) (layAll_mem h1 hy) n m
        match r, hr with
        | [a, b, c, e], _ => simp [compF, ← Nat.add_assoc, this]
      have hb : ∀ xs : List D, b1D .all (.list (xs.map fun _ => PyData.bool true)) = some (.bool true) := fun xs => by rw [b1_all (fun _ => true)]; simp
      cases x with
      | list xs =>
        simp only [PyData.depth] at hd
        have hk := key xs (by simpa [PyData.canLay0] using hl) (by omega) [.v (.d (.list xs)), .v (.d (.list xs)), .un, .un] rfl
        simp [d__law_same, c__law_same, isD, zipD_self, -List.map_map, hk, hb]
      | tuple xs =>
        simp only [PyData.depth] at hd
        have hk := key xs (by simpa [PyData.canLay0] using hl) (by omega) [.v (.d (.tuple xs)), .v (.d (.tuple xs)), .un, .un] rfl
        simp [d__law_same, c__law_same, isD, zipD_self, -List.map_map, hk, hb]
      | none => simp [PyData.depth] at h0
      | bool b => simp [PyData.depth] at h0
      | int i => simp [PyData.depth] at h0
      | str s => simp [PyData.depth] at h0
      | dict xs => simp [PyData.canLay0] at hl
theorem same_ok {Fs : List Def} (h3 : Fs[3]? = some d__law_same) (n : Nat) (m : Mem) (x y : D) (e : x = y) (hd : x.depth ≤ 12) (hl : x.canLay0 = true) : callF Fs (n + 13) 3 [.d x, .d y] m = .ok (.d (.bool true)) m := by
  subst e
  exact same_refl h3 12 x hd (by omega) hl n m
mutual
def tupD : D → D
  | .list xs => .tuple (tupDs xs)
  | .tuple xs => .tuple (tupDs xs)
  | x => x
def tupDs : List D → List D
  | [] => []
  | x :: xs => tupD x :: tupDs xs
end
mutual
def lstD : D → D
  | .list xs => .list (lstDs xs)
  | .tuple xs => .list (lstDs xs)
  | x => x
def lstDs : List D → List D
  | [] => []
  | x :: xs => lstD x :: lstDs xs
end
theorem tupDs_map : ∀ xs, tupDs xs = xs.map tupD
  | [] => rfl
  | x :: xs => by simp [tupDs, tupDs_map xs]
theorem lstDs_map : ∀ xs, lstDs xs = xs.map lstD
  | [] => rfl
  | x :: xs => by simp [lstDs, lstDs_map xs]
theorem tupled_spec {Fs : List Def} (h16 : Fs[16]? = some d_tupled) : ∀ (d : Nat) (x : D), x.depth ≤ d → x.canLay0 = true → ∀ (n : Nat) (m : Mem), callF Fs (n + d + 1) 16 [.d x] m = .ok (.d (tupD x)) m := by
  intro d
  induction d with
  | zero =>
    intro x hd hl n m
    rw [callF_at h16 _ _ _ rfl]
    cases x with
    | list xs => simp [PyData.depth] at hd
    | tuple xs => simp [PyData.depth] at hd
    | _ => simp [d_tupled, c_tupled, isD, tupD]
  | succ d ih =>
    intro x hd hl n m
    rw [callF_at h16 _ _ _ rfl]
    have key : ∀ xs : List D, PyData.canLayAll0 xs = true → PyData.depthAll xs ≤ d → ∀ r : Env', r.length = 2 →
        mapM' (compF (callF Fs (n + (d + 1))) (.nm 1) (.kb true) (.call 16 (.cons (.var 1) .nil)) [("part", 1)] r) (xs.map MV.d) m = .ok (tupDs xs) m := by
      intro xs h1 h2 r hr
      rw [mapM'_all (g := tupD), tupDs_map]
      intro y hy
      have := ih y (Nat.le_trans (depthAll_mem hy) h2) (layAll_mem h1 hy) n m
      match r, hr with
      | [a, b], _ => simp [compF, ← Nat.add_assoc, this]
    cases x with
    | list xs =>
      simp only [PyData.depth] at hd
      have hk := key xs (by simpa [PyData.canLay0] using hl) (by omega) [.v (.d (.list xs)), .un] rfl
      simp [d_tupled, c_tupled, isD, hk, tupD]
    | tuple xs =>
      simp only [PyData.depth] at hd
      have hk := key xs (by simpa [PyData.canLay0] using hl) (by omega) [.v (.d (.tuple xs)), .un] rfl
      simp [d_tupled, c_tupled, isD, hk, tupD]
    | _ => simp [d_tupled, c_tupled, isD, tupD]
theorem lists_spec {Fs : List Def} (h4 : Fs[4]? = some d__law_lists) : ∀ (d : Nat) (x : D), x.depth ≤ d → x.canLay0 = true → ∀ (n : Nat) (m : Mem), callF Fs (n + d + 1) 4 [.d x] m = .ok (.d (lstD x)) m := by
  intro d
  induction d with
  | zero =>
    intro x hd hl n m
    rw [callF_at h4 _ _ _ rfl]
    cases x with
    | list xs => simp [PyData.depth] at hd
    | tuple xs => simp [PyData.depth] at hd
    | _ => simp [d__law_lists, c__law_lists, isD, lstD]
  | succ d ih =>
    intro x hd hl n m
    rw [callF_at h4 _ _ _ rfl]
    have key : ∀ xs : List D, PyData.canLayAll0 xs = true → PyData.depthAll xs ≤ d → ∀ r : Env', r.length = 2 →
        mapM' (compF (callF Fs (n + (d + 1))) (.nm 1) (.kb true) (.call 4 (.cons (.var 1) .nil)) [("_law_bit", 1)] r) (xs.map MV.d) m = .ok (lstDs xs) m := by
      intro xs h1 h2 r hr
      rw [mapM'_all (g := lstD), lstDs_map]
      intro y hy
      have := ih y (Nat.le_trans (depthAll_mem hy) h2) (layAll_mem h1 hy) n m
      match r, hr with
      | [a, b], _ => simp [compF, ← Nat.add_assoc, this]
    cases x with
    | list xs =>
      simp only [PyData.depth] at hd
      have hk := key xs (by simpa [PyData.canLay0] using hl) (by omega) [.v (.d (.list xs)), .un] rfl
      simp [d__law_lists, c__law_lists, isD, hk, lstD]
    | tuple xs =>
      simp only [PyData.depth] at hd
      have hk := key xs (by simpa [PyData.canLay0] using hl) (by omega) [.v (.d (.tuple xs)), .un] rfl
      simp [d__law_lists, c__law_lists, isD, hk, lstD]
    | _ => simp [d__law_lists, c__law_lists, isD, lstD]
mutual
/-- nothing of it is a list -/
def noL : D → Bool
  | .list _ => false
  | .tuple xs => noLs xs
  | _ => true
def noLs : List D → Bool
  | [] => true
  | x :: xs => noL x && noLs xs
end
mutual
theorem tupD_noL : ∀ d : D, noL d = true → tupD d = d
  | .list _, h => by simp [noL] at h
  | .tuple xs, h => by simp only [tupD, tupDs_noL xs (by simpa [noL] using h)]
  | .none, _ => by simp [tupD]
  | .bool _, _ => by simp [tupD]
  | .int _, _ => by simp [tupD]
  | .str _, _ => by simp [tupD]
  | .dict _, _ => by simp [tupD]
theorem tupDs_noL : ∀ ds : List D, noLs ds = true → tupDs ds = ds
  | [], _ => rfl
  | x :: xs, h => by
    simp only [noLs, Bool.and_eq_true] at h
    simp only [tupDs, tupD_noL x h.1, tupDs_noL xs h.2]
end
mutual
theorem tupD_lstD : ∀ d : D, tupD (lstD d) = tupD d
  | .list xs => by simp only [lstD, tupD, tupDs_lstD xs]
  | .tuple xs => by simp only [lstD, tupD, tupDs_lstD xs]
  | .none => by simp [lstD]
  | .bool _ => by simp [lstD]
  | .int _ => by simp [lstD]
  | .str _ => by simp [lstD]
  | .dict _ => by simp [lstD]
theorem tupDs_lstD : ∀ ds : List D, tupDs (lstDs ds) = tupDs ds
  | [] => rfl
  | x :: xs => by simp only [lstDs, tupDs, tupD_lstD x, tupDs_lstD xs]
end
/-- the type's data have no lists -/
class NoL (α : Type) [Enc α] : Prop where
  noL : ∀ a : α, Mp.noL (enc a) = true
instance : NoL Nat := ⟨fun a => by simp [Mp.noL]⟩
instance : NoL Int := ⟨fun a => by simp [Mp.noL]⟩
instance : NoL Bool := ⟨fun a => by simp [Mp.noL]⟩
theorem noLs_enc {α : Type} [Enc α] [NoL α] : ∀ l : List α, noLs (l.map enc) = true
  | [] => rfl
  | x :: l => by simp only [List.map_cons, noLs, NoL.noL, noLs_enc l, Bool.and_self]
instance {α : Type} [Enc α] [NoL α] : NoL (List α) := ⟨fun l => by simp only [enc_list, Mp.noL]; exact noLs_enc l⟩
instance {α β : Type} [Enc α] [NoL α] [Enc β] [NoL β] : NoL (α × β) := ⟨fun p => by simp only [enc_pair, Mp.noL, noLs, NoL.noL, Bool.and_self]⟩
@[simp] theorem tupD_enc {α : Type} [Enc α] [NoL α] (a : α) : tupD (enc a) = enc a := tupD_noL _ (NoL.noL a)
theorem tupled_enc {Fs : List Def} (h16 : Fs[16]? = some d_tupled) {α : Type} [Enc α] [NoL α] (a : α) (hd : Enc.dep α ≤ 8) (n : Nat) (m : Mem) : callF Fs (n + 9) 16 [.d (enc a)] m = .ok (.d (enc a)) m := by
  have := tupled_spec h16 8 (enc a) (Nat.le_trans (Enc.depth_le a) hd) (Enc.lay a) n m
  rw [tupD_enc] at this
  exact this

/-! ### _law_box, _law_cells, the law's end -/
def c__law_box (c : Int) : CSs := (.cons (.asg 2 (.ite (.cmp .lt (.var 1) (.b1 .len (.var 0))) (.idx (.var 0) (.var 1)) (.ki 0))) (.cons (.ret (.newc (.cons (.bin .mul (.b1 .abs (.var 2)) (.b1 .int (.cmp .ge (.b1 .abs (.var 2)) (.bin .pow (.ki 10) (.ki 18))))) (.cons (.bin .add (.bin .add (.bin .mod (.b1 .int (.var 2)) (.ki 2305843009213693951)) (.bin .mul (.ki 39373) (.var 1))) (.ki c)) (.cons (.ki 0) .nil))))) .nil))
def d__law_box (c : Int) : Def := ⟨"_law_box", ["_law_script", "_law_nth_so"], ["_law_script", "_law_nth_so", "_law_cell"], c__law_box c⟩
theorem box_spec {Fs : List Def} {c : Int} (h1 : Fs[1]? = some (d__law_box c)) (n : Nat) (m : Mem) (cs : List Int) (i : Nat) (hi : i < cs.length) :
    ∃ b0 b1 : Int, callF Fs (n + 1) 1 [.d (.list (cs.map PyData.int)), .d (.int (i : Int))] m = .ok (.c m.length) (m ++ [[.int b0, .int b1, .int 0]]) := by
  rw [callF_at h1 _ _ _ rfl]
  have hb : ∀ (x : Int) (p : Prop) [Decidable p], bigOk x (if p then 1 else 0) = true := fun x p _ => by
    unfold bigOk
    simp only [decide_eq_true_eq]
    right
    split <;> omega
  have hb2 : ∀ x : Int, bigOk 39373 x = true := fun x => by simp [bigOk]
  have habs : ∀ x : Int, b1D .abs (.int x) = some (.int (if x < 0 then -x else x)) := fun _ => rfl
  simp [d__law_box, c__law_box, hi, idxM, binD, hb, hb2, habs, back]
theorem boxAt_new (m : Mem) (b0 b1 : Int) : BoxAt (m ++ [[.int b0, .int b1, .int 0]]) m.length (2 ^ 61) := ⟨b0, b1, 0, by simp, by omega, by decide⟩
theorem mapM'_any {f : MV → Mem → Res (Option D)} (y : D) : ∀ (xs : List MV) (m : Mem), (∀ x ∈ xs, ∀ m, ∃ m', f x m = .ok (some y) m') → ∃ m', mapM' f xs m = .ok (xs.map fun _ => y) m'
  | [], m, _ => ⟨m, rfl⟩
  | x :: xs, m, h => by
    obtain ⟨m1, e1⟩ := h x (by simp) m
    obtain ⟨m2, e2⟩ := mapM'_any y xs m1 fun x hx => h x (by simp [hx])
    exact ⟨m2, by simp only [mapM', e1, noEx_ok1, Res.bind_ok, e2, List.map_cons]⟩
end Mp

set_option maxRecDepth 100000
set_option linter.all false
set_option Elab.async false
namespace Mp
open PySem PySem.Spec PyProof.Rows L2
open Enc (enc)
/-- the law's answer is True -/
def isOkR : Res MV → Bool
  | .ok (.d (.bool true)) _ => true
  | _ => false
theorem isOkR_inv {z : Res MV} (h : isOkR z = true) : ∃ m, z = .ok (.d (.bool true)) m := by
  unfold isOkR at h
  split at h
  · exact ⟨_, rfl⟩
  · cases h
theorem back_nil {r : SRes} {x : MV} {m : Mem} (h : back ([] : Mem).length r = .ok x m) : m = [] ∨ ∃ k, x = .c k := by
  cases r with
  | nx r m1 => simp only [back, List.length_nil, List.take_zero, Res.ok.injEq] at h; exact .inl h.2.symm
  | rt y m1 =>
    cases y with
    | c k => simp only [back, Res.ok.injEq] at h; exact .inr ⟨k, h.1.symm⟩
    | _ => simp only [back, List.length_nil, List.take_zero, Res.ok.injEq] at h; exact .inl h.2.symm
  | ex c y r m1 => simp [back] at h
  | _ => simp [back] at h
theorem enumD_get : ∀ (xs : List D) (i j : Nat) (x : D), (enumD i xs)[j]? = some x → ∃ y, xs[j]? = some y ∧ x = .tuple [.int ((i + j : Nat) : Int), y]
  | [], _, _, _, h => by simp [enumD] at h
  | y :: ys, i, 0, x, h => by
    simp [enumD] at h
    exact ⟨y, rfl, by rw [← h]; rfl⟩
  | y :: ys, i, j + 1, x, h => by
    simp only [enumD, List.getElem?_cons_succ] at h
    obtain ⟨z, h1, h2⟩ := enumD_get ys (i + 1) j x h
    exact ⟨z, by simpa using h1, by rw [h2]; congr 3; omega⟩
theorem enumD_len : ∀ (xs : List D) (i : Nat), (enumD i xs).length = xs.length
  | [], _ => rfl
  | _ :: xs, i => by simp [enumD, enumD_len xs]
theorem cutD_mid (xs : List D) (a b : Nat) : cutD xs (some (a : Int)) (some (b : Int)) = (xs.drop a).take (b - a) := by
  simp only [cutD, HT.sIx_nat]
  by_cases ha : a ≤ xs.length
  · rw [Nat.min_eq_left ha]
    by_cases hb : b ≤ xs.length
    · rw [Nat.min_eq_left hb]
    · rw [Nat.min_eq_right (by omega), List.take_of_length_le (by simp), List.take_of_length_le (by simp; omega)]
  · rw [Nat.min_eq_right (a := a) (by omega), List.drop_of_length_le (Nat.le_refl _), List.drop_of_length_le (by omega)]
    simp
theorem cells_spec {Fs : List Def} (h0 : Fs[0]? = some d__law_cells) (n : Nat) (m : Mem) (ns : List Int) (hn : ns.length ≤ 63) (top : Nat) (ht : 1 ≤ top) (ht2 : top ≤ 63) :
    ∃ cs : List Int, callF Fs (n + 1) 0 [.s ns, .d (.int (top : Int))] m = .ok (.d (.list (cs.map PyData.int))) m ∧ 1 ≤ cs.length ∧ cs.length ≤ top := by
  rw [callF_at h0 _ _ _ rfl]
  have hs1 : slcD (.list (ns.map PyData.int)) none (some (top : Int)) = some (.list ((ns.take top).map PyData.int)) := by
    show some (PyData.list (cutD _ none (some (top : Int)))) = _
    rw [cutD_to, List.map_take]
  have hs2 : slcD (.list (ns.map PyData.int)) (some (top : Int)) (some 63) = some (.list (((ns.drop top).take (63 - top)).map PyData.int)) := by
    show some (PyData.list (cutD _ (some (top : Int)) (some ((63 : Nat) : Int)))) = _
    rw [cutD_mid, List.map_take, List.map_drop]
  generalize hrest : (ns.drop top).take (63 - top) = rest at hs2
  obtain ⟨c0, hc0, hl0, hlt⟩ : ∃ c0 : List Int, orTM (.d (.list ((ns.take top).map PyData.int))) (.ok (.d (.list [.int 0])) m) m = .ok (.d (.list (c0.map PyData.int))) m ∧ (1 ≤ c0.length ∧ c0.length ≤ top) ∧ (rest ≠ [] → c0.length = top) := by
    cases h : ns.take top with
    | nil =>
      refine ⟨[0], rfl, ⟨by simp, by simpa using ht⟩, fun hr => ?_⟩
      have : ns = [] := by
        cases ns with
        | nil => rfl
        | cons x xs => cases top with
          | zero => omega
          | succ t => simp at h
      subst this
      simp at hrest
      exact absurd (by first | exact hrest | exact hrest.symm) hr
    | cons x xs =>
      refine ⟨x :: xs, rfl, ?_, fun hr => ?_⟩
      · rw [← h]; simp
        have := congrArg List.length h
        simp at this; omega
      · rw [← h, List.length_take]
        have : ¬ ns.length ≤ top := fun hle => by
          rw [List.drop_of_length_le hle] at hrest
          simp at hrest; exact hr (by first | exact hrest | exact hrest.symm)
        omega
  have hpos : (0 : Int) < top := by omega
  have hpos' : 0 < top := ht
  obtain ⟨r', e, s3, s4, s5, cs, rfl, hcl⟩ := forS_pure (f := forF (callF Fs n) (.tp (.cons (.nm 3) (.cons (.nm 4) .nil))) (.cons (.asg 5 (.bin .mod (.b1 .int (.var 3)) (.var 1))) (.cons (.setO 2 (.var 5) (.bin .add (.idxO 2 (.var 5)) (.bin .mul (.var 4) (.bin .add (.var 3) (.ki 2))))) .nil)))
    (fun i r => ∃ s3 s4 s5, ∃ cs : List Int, r = [.v (.s ns), .v (.d (.int (top : Int))), .own (cs.map PyData.int), s3, s4, s5] ∧ cs.length = c0.length)
    ((enumD 0 (rest.map PyData.int)).map MV.d) [.v (.s ns), .v (.d (.int (top : Int))), .own (c0.map PyData.int), .un, .un, .un] m ⟨.un, .un, .un, c0, rfl, rfl⟩ (by
      rintro j x r hj ⟨s3, s4, s5, cs, rfl, hcl⟩
      rw [List.getElem?_map] at hj
      cases hx : (enumD 0 (rest.map PyData.int))[j]? with
      | none => rw [hx] at hj; cases hj
      | some z =>
        rw [hx] at hj
        cases hj
        obtain ⟨y, hy, rfl⟩ := enumD_get _ _ _ _ hx
        rw [List.getElem?_map] at hy
        cases hv : rest[j]? with
        | none => rw [hv] at hy; cases hy
        | some v =>
          rw [hv] at hy
          cases hy
          have hjr : j < rest.length := (List.getElem?_eq_some_iff.mp hv).1
          have hne : rest ≠ [] := by intro h; subst h; simp at hjr
          have hjl : j < 63 := by
            have : rest.length ≤ 63 := by rw [← hrest]; simp; omega
            omega
          have hlen : cs.length = top := hcl.trans (hlt hne)
          have hat : j % top < cs.length := by rw [hlen]; exact Nat.mod_lt _ hpos'
          have hm : ((j : Int) % (top : Int)) = ((j % top : Nat) : Int) := by simp
          have hix : ixN cs.length ((j % top : Nat) : Int) = some (j % top) := by
            have : ((j % top : Nat) : Int) < (cs.length : Int) := by omega
            simp only [ixN, Int.natCast_nonneg, if_true, this, Int.toNat_natCast]
          have hbig : bigOk v ((j : Int) + 2) = true := by
            unfold bigOk
            simp only [decide_eq_true_eq]
            right; omega
          have hge : (cs.map PyData.int)[j % top]? = some (.int cs[j % top]) := by simp [hat]
          refine ⟨[.v (.s ns), .v (.d (.int (top : Int))), .own ((cs.set (j % top) (cs[j % top] + v * ((j : Int) + 2))).map PyData.int), .v (.d (.int (j : Int))), .v (.d (.int v)), .v (.d (.int ((j % top : Nat) : Int)))], ?_, _, _, _, _, rfl, by simp [hcl]⟩
          have hbm : binD .mod (.int (j : Int)) (.int (top : Int)) = some (.int ((j % top : Nat) : Int)) := by simp [binD, hpos']
          have hbx : binD .mul (.int v) (.int ((j : Int) + 2)) = some (.int (v * ((j : Int) + 2))) := by simp [binD, hbig]
          simp only [Nat.zero_add, forF, tgt_tp, tgts_cons, tgts_nil, tgt_nm, List.length_cons, List.length_nil, Nat.reduceAdd, Nat.reduceLT, if_true, List.set_cons_succ, List.set_cons_zero, Option.bind_some, evSs_cons, evS_asg, evE_bin, evE_b1, evE_var, List.getElem?_cons_succ, List.getElem?_cons_zero, Res.bind_ok, b1M_d, b1_inti, optD_some, binM_d, hbm, SRes.of_ok, thenS_nx, evS_setO, evE_idxO, atI_nat, hge, evE_ki, bin_addi, hbx, List.length_map, hix, evSs_nil]
          simp [List.map_set])
  refine ⟨cs, ?_, by omega, by omega⟩
  simp [d__law_cells, c__law_cells, hs1, -List.map_take]
  simp [hc0, hs2, e, -List.map_take]
end Mp

set_option maxRecDepth 100000
set_option linter.all false
set_option Elab.async false
namespace Mp
open PySem PySem.Spec PyProof.Rows L2
open Enc (enc)
/-! ### numbers, rows -/
def numB : D → Bool
  | .int _ => true
  | _ => false
def belowB (x : D) (n : Int) : Bool := match x with
  | .int i => decide (0 ≤ i) && decide (i < n)
  | _ => false
def rowB (x : D) (n : Int) : Bool := match x with
  | .tuple xs => xs.all fun y => belowB y n
  | _ => false
theorem number_spec {Fs : List Def} (h14 : Fs[14]? = some d_is_number) (n : Nat) (m : Mem) (x : D) : callF Fs (n + 1) 14 [.d x] m = .ok (.d (.bool (numB x))) m := by
  rw [callF_at h14 _ _ _ rfl]
  cases x <;> simp [d_is_number, c_is_number, isD, numB]
theorem below_spec {Fs : List Def} (h14 : Fs[14]? = some d_is_number) (h15 : Fs[15]? = some d_is_below) (n : Nat) (m : Mem) (x : D) (N : Int) : callF Fs (n + 2) 15 [.d x, .d (.int N)] m = .ok (.d (.bool (belowB x N))) m := by
  rw [callF_at h15 _ _ _ rfl]
  cases x with
  | int i =>
    by_cases h : 0 ≤ i
    · simp [d_is_below, c_is_below, number_spec h14, numB, belowB, h]
    · simp [d_is_below, c_is_below, number_spec h14, numB, belowB, h]
  | _ => simp [d_is_below, c_is_below, number_spec h14, numB, belowB]
theorem rowB_spec {Fs : List Def} (h14 : Fs[14]? = some d_is_number) (h15 : Fs[15]? = some d_is_below) (h18 : Fs[18]? = some d_is_row_below) (n : Nat) (m : Mem) (x : D) (N : Int) :
    callF Fs (n + 3) 18 [.d x, .d (.int N)] m = .ok (.d (.bool (rowB x N))) m := by
  rw [callF_at h18 _ _ _ rfl]
  cases x with
  | tuple xs =>
    have e := mapM'_all (f := compF (callF Fs (n + 2)) (.nm 2) (.kb true) (.call 15 (.cons (.var 2) (.cons (.var 1) .nil))) [("own", 2)] [.v (.d (.tuple xs)), .v (.d (.int N)), .un]) (m := m) MV.d (fun y => PyData.bool (belowB y N)) xs (by
      intro y _
      simp [compF, below_spec h14 h15])
    simp [d_is_row_below, c_is_row_below, isD, e, b1_all, rowB]
  | _ => simp [d_is_row_below, c_is_row_below, isD, rowB]
/-- adjacent things rise -/
def risesL {α : Type} [Enc α] : List α → Bool
  | [] => true
  | [_] => true
  | x :: y :: r => Enc.lt x y && risesL (y :: r)
theorem risesL_iff {α : Type} [Enc α] : ∀ l : List α, risesL l = true ↔ Asc l
  | [] => by simp [risesL, Asc]
  | [x] => by simp [risesL, Asc]
  | x :: y :: r => by
    have ih := risesL_iff (y :: r)
    simp only [risesL, Bool.and_eq_true, ih]
    constructor
    · rintro ⟨h1, h2⟩
      refine List.pairwise_cons.mpr ⟨fun z hz => ?_, h2⟩
      rcases List.mem_cons.mp hz with rfl | hz
      · exact h1
      · exact lt_trans' h1 ((List.pairwise_cons.mp h2).1 z hz)
    · intro h
      have h' := List.pairwise_cons.mp h
      exact ⟨h'.1 y (by simp), h'.2⟩
theorem zip_rises {α : Type} [Enc α] : ∀ l : List α, (l.zip l.tail).all (fun p => Enc.lt p.1 p.2) = risesL l
  | [] => rfl
  | [x] => rfl
  | x :: y :: r => by
    have ih := zip_rises (y :: r)
    simp only [List.tail_cons, List.zip_cons_cons, List.all_cons, risesL] at *
    rw [ih]
theorem zipD_enc {α β : Type} [Enc α] [Enc β] : ∀ (l : List α) (l' : List β), zipD (l.map enc) (l'.map enc) = (l.zip l').map enc
  | [], _ => by simp [zipD]
  | _ :: _, [] => by simp [zipD]
  | x :: l, y :: l' => by simp [zipD, zipD_enc l l']
/-- the type's data can be compared by < -/
class Lts (α : Type) [Enc α] : Prop where
  lt : ∀ a b : α, cmpD .lt (enc a) (enc b) = some (Enc.lt a b)
instance : Lts Nat := ⟨fun a b => by simp [Enc.lt]⟩
instance : Lts Int := ⟨fun a b => by simp [Enc.lt]⟩
theorem lts_tup {α : Type} [Enc α] (hd : Enc.dep α ≤ 64) (h : ∀ a : α, ∃ xs, enc a = .tuple xs) : Lts α := ⟨fun a b => by
  have h1 := plain_enc a hd
  have h2 := plain_enc b hd
  have h3 := Enc.alike a b
  have h4 := Enc.lt_eq a b
  obtain ⟨xs, e1⟩ := h a
  obtain ⟨ys, e2⟩ := h b
  rw [e1] at h1 h3 h4 ⊢
  rw [e2] at h2 h3 h4 ⊢
  simp only [cmpD, ordD, h1, h2, h3, h4, and_self, if_true]⟩
instance : Lts (List Nat) := lts_tup (by decide) fun a => ⟨_, rfl⟩
instance : Lts (Nat × List Nat) := lts_tup (by decide) fun a => ⟨_, rfl⟩
instance : Lts (Nat × Nat) := lts_tup (by decide) fun a => ⟨_, rfl⟩
theorem rises_t {Fs : List Def} (h17 : Fs[17]? = some d_rises) (n : Nat) (m : Mem) {α : Type} [Enc α] [Lts α] (l : List α) : callF Fs (n + 1) 17 [.d (.tuple (l.map enc))] m = .ok (.d (.bool (risesL l))) m := by
  rw [callF_at h17 _ _ _ rfl]
  have hs : slcD (.tuple (l.map enc)) (some 1) none = some (.tuple (l.tail.map enc)) := by
    show some (PyData.tuple (cutD _ (some ((1 : Nat) : Int)) none)) = _
    rw [cutD_from, List.drop_one, List.map_tail]
  have e := mapM'_all (f := compF (callF Fs n) (.tp (.cons (.nm 1) (.cons (.nm 2) .nil))) (.kb true) (.cmp .lt (.var 1) (.var 2)) [("one", 1), ("other", 2)] [.v (.d (.tuple (l.map enc))), .un, .un]) (m := m) (MV.d ∘ enc) (fun p : α × α => PyData.bool (Enc.lt p.1 p.2)) (l.zip l.tail) (by
    intro p _
    simp [compF, Lts.lt])
  simp [d_rises, c_rises, hs, -List.map_tail, zipD_enc, e, b1_all, zip_rises]
theorem rises_l {Fs : List Def} (h17 : Fs[17]? = some d_rises) (n : Nat) (m : Mem) {α : Type} [Enc α] [Lts α] (l : List α) : callF Fs (n + 1) 17 [.d (.list (l.map enc))] m = .ok (.d (.bool (risesL l))) m := by
  rw [callF_at h17 _ _ _ rfl]
  have hs : slcD (.list (l.map enc)) (some 1) none = some (.list (l.tail.map enc)) := by
    show some (PyData.list (cutD _ (some ((1 : Nat) : Int)) none)) = _
    rw [cutD_from, List.drop_one, List.map_tail]
  have e := mapM'_all (f := compF (callF Fs n) (.tp (.cons (.nm 1) (.cons (.nm 2) .nil))) (.kb true) (.cmp .lt (.var 1) (.var 2)) [("one", 1), ("other", 2)] [.v (.d (.list (l.map enc))), .un, .un]) (m := m) (MV.d ∘ enc) (fun p : α × α => PyData.bool (Enc.lt p.1 p.2)) (l.zip l.tail) (by
    intro p _
    simp [compF, Lts.lt])
  simp [d_rises, c_rises, hs, -List.map_tail, zipD_enc, e, b1_all, zip_rises]

/-! ### rows of a book, ties kept -/
def Bk.kd (b : Bk) (i : Nat) : Kd := b.kinds.getD i (0, [])
def rowAt (s spots : List Nat) : List Nat := spots.map fun i => s.getD i 0
theorem Bk.kd_get {b : Bk} {i : Nat} (h : i < b.kinds.length) : b.kinds[i]? = some (b.kd i) := by simp [Bk.kd, h]
@[simp] theorem Bk.kd_at {b : Bk} {i : Nat} (h : i < b.kinds.length) : b.kinds[i]'h = b.kd i := by simp [Bk.kd, h]
theorem rows_spec {Fs : List Def} (h16 : Fs[16]? = some d_tupled) (h20 : Fs[20]? = some d_rows_of) (n : Nat) (m : Mem) (b : Bk) (i : Nat) (hi : i < b.kinds.length) :
    callF Fs (n + 10) 20 [.d (eB b), .d (.int (i : Int))] m = .ok (.d (.list ((b.kd i).2.map enc))) m := by
  rw [callF_at h20 _ _ _ rfl]
  have e := tupled_enc h16 (b.kd i).2 (by decide) n m
  simp only [enc_list] at e
  simp [d_rows_of, c_rows_of, eB, idxM, Bk.kd_get hi, e]
theorem row_spec {Fs : List Def} (h21 : Fs[21]? = some d_row_at) (n : Nat) (m : Mem) (s spots : List Nat) (h : ∀ i ∈ spots, i < s.length) :
    callF Fs (n + 1) 21 [.d (.tuple (s.map enc)), .d (.tuple (spots.map enc))] m = .ok (.d (.tuple ((rowAt s spots).map enc))) m := by
  rw [callF_at h21 _ _ _ rfl]
  have e := mapM'_all (f := compF (callF Fs n) (.nm 2) (.kb true) (.idx (.var 0) (.var 2)) [("place", 2)] [.v (.d (.tuple (s.map enc))), .v (.d (.tuple (spots.map enc))), .un]) (m := m) (MV.d ∘ enc) (fun i : Nat => enc (s.getD i 0)) spots (by
    intro i hi
    have := h i hi
    simp [compF, idxM, this])
  simp [d_row_at, c_row_at, -List.map_map]
  simp only [List.map_map, e]
  simp [rowAt, Function.comp_def]
def keepsB (b : Bk) (s : List Nat) (t : Tie) : Bool := decide (rowAt s t.2 ∈ (b.kd t.1).2)
def brokenL (b : Bk) (p : Pz) (s : List Nat) : List Tie := p.ties.filter fun t => !keepsB b s t
theorem eP_1 (p : Pz) : atI [PyData.int (p.places : Int), .tuple (p.ties.map enc), .tuple (p.told.map enc), .tuple (p.shown.map enc)] 1 = some (.tuple (p.ties.map enc)) := by simp
theorem broken_spec {Fs : List Def} (h16 : Fs[16]? = some d_tupled) (h20 : Fs[20]? = some d_rows_of) (h21 : Fs[21]? = some d_row_at) (h30 : Fs[30]? = some d_broken_ties) (n : Nat) (m : Mem) (b : Bk) (p : Pz) (hp : PzOk b p) (s : List Nat) (hs : s.length = p.places) :
    callF Fs (n + 12) 30 [.d (eB b), .d (eP p), .d (.tuple (s.map enc))] m = .ok (.d (.tuple ((brokenL b p s).map enc))) m := by
  rw [callF_at h30 _ _ _ rfl]
  have e := tupled_enc h16 p.ties (by decide) (n + 2) m
  simp only [enc_list] at e
  have e2 := mapM'_filter (f := compF (callF Fs (n + 11)) (.nm 3) (.cmp .nin (.call 21 (.cons (.var 2) (.cons (.idx (.var 3) (.ki 1)) .nil))) (.call 20 (.cons (.var 0) (.cons (.idx (.var 3) (.ki 0)) .nil)))) (.var 3) [("tie", 3)] [.v (.d (eB b)), .v (.d (eP p)), .v (.d (.tuple (s.map enc))), .un]) (m := m) (MV.d ∘ enc) (fun t : Tie => !keepsB b s t) enc p.ties (by
    intro t ht
    have hto := hp.ties t ht
    have h1 := row_spec h21 (n + 10) m s t.2 (fun i hi => by rw [hs]; exact hto.at_ i hi)
    have h2 := rows_spec h16 h20 (n + 1) m b t.1 hto.num
    have h3 : cmpD .nin (.tuple ((rowAt s t.2).map enc)) (.list ((b.kd t.1).2.map enc)) = some (!keepsB b s t) := by
      have h4 := cmp_ninl (rowAt s t.2) (b.kd t.1).2 (by decide)
      simp only [enc_list] at h4
      rw [h4]
      unfold keepsB
      congr
    simp [compF, idxM, h1, h2, h3]
    split <;> rfl)
  simp [d_broken_ties, c_broken_ties, idxM, e, eP_1, eP]
  simp only [eP] at e2
  simp [e2, brokenL]
theorem keeps_spec {Fs : List Def} (h16 : Fs[16]? = some d_tupled) (h20 : Fs[20]? = some d_rows_of) (h21 : Fs[21]? = some d_row_at) (h30 : Fs[30]? = some d_broken_ties) (h31 : Fs[31]? = some d_keeps_ties) (n : Nat) (m : Mem) (b : Bk) (p : Pz) (hp : PzOk b p) (s : List Nat) (hs : s.length = p.places) :
    callF Fs (n + 13) 31 [.d (eB b), .d (eP p), .d (.tuple (s.map enc))] m = .ok (.d (.bool (decide (brokenL b p s = [])))) m := by
  rw [callF_at h31 _ _ _ rfl]
  have e := broken_spec h16 h20 h21 h30 n m b p hp s hs
  have : ((brokenL b p s).length : Int) = 0 ↔ brokenL b p s = [] := by rw [← List.length_eq_zero_iff]; omega
  simp [d_keeps_ties, c_keeps_ties, e, this]
end Mp

set_option maxRecDepth 100000
set_option linter.all false
set_option Elab.async false
namespace Mp
open PySem PySem.Spec PyProof.Rows L2
open Enc (enc)
/-! ### is_tie, is_told, is_puzzle, is_setting -/
def tieB (b : Bk) (places : Int) : D → Bool
  | .tuple [.int i, .tuple xs] => decide (0 ≤ i) && decide (i < (b.kinds.length : Int)) && rowB (.tuple xs) places && decide (xs.length = (b.kd i.toNat).1)
  | _ => false
def pairB (places many : Int) : D → Bool
  | .tuple [x, y] => belowB x places && belowB y many
  | _ => false
def risesD : List D → Bool
  | x :: y :: r => PySem.W.dataLt x y && risesD (y :: r)
  | _ => true
def fstD : D → D
  | .tuple (x :: _) => x
  | x => x
def pzB (b : Bk) : D → Bool
  | .tuple [.int pl, .tuple ts, .tuple td, sh] => decide (0 ≤ pl) && (ts.all (tieB b pl) && risesD ts) && (td.all (pairB pl b.many) && risesD (td.map fstD)) && rowB sh pl && (b.tell || decide (td = []))
  | _ => false
theorem risesD_enc {α : Type} [Enc α] : ∀ l : List α, risesD (l.map enc) = risesL l
  | [] => rfl
  | [_] => rfl
  | x :: y :: r => by
    have := risesD_enc (y :: r)
    simp only [List.map_cons, risesD, risesL, Enc.lt_eq] at *
    rw [this]
theorem rowB_enc {y : List D} {N : Int} (h : rowB (.tuple y) N = true) : ∃ l : List Nat, y = l.map enc ∧ ∀ v ∈ l, (v : Int) < N := by
  induction y with
  | nil => exact ⟨[], rfl, by simp⟩
  | cons x y ih =>
    simp only [rowB, List.all_cons, Bool.and_eq_true] at h
    obtain ⟨l, rfl, hl⟩ := ih h.2
    have h1 := h.1
    cases x <;> try (simp [belowB] at h1)
    rename_i i
    refine ⟨i.toNat :: l, ?_, fun v hv => ?_⟩
    · simp; omega
    · rcases List.mem_cons.mp hv with rfl | hv
      · omega
      · exact hl v hv
theorem tieB_enc {b : Bk} {pl : Nat} {x : D} (h : tieB b pl x = true) : ∃ t : Tie, x = enc t ∧ TieOk b pl t := by
  unfold tieB at h
  split at h
  · rename_i i xs
    simp only [Bool.and_eq_true, decide_eq_true_eq] at h
    obtain ⟨⟨⟨h1, h2⟩, h3⟩, h4⟩ := h
    obtain ⟨l, rfl, hl⟩ := rowB_enc h3
    refine ⟨(i.toNat, l), ?_, ⟨by show i.toNat < _; omega, fun kd hk => ?_, fun s hs => by have := hl s hs; omega⟩⟩
    · have : ((i.toNat : Nat) : Int) = i := by omega
      simp [this]
    · simp only at hk
      simp only [Bk.kd, List.getD_eq_getElem?_getD, hk, Option.getD_some, List.length_map] at h4
      exact h4
  · cases h
theorem tiesB_enc {b : Bk} {pl : Nat} : ∀ {xs : List D}, xs.all (tieB b pl) = true → ∃ l : List Tie, xs = l.map enc ∧ ∀ t ∈ l, TieOk b pl t
  | [], _ => ⟨[], rfl, by simp⟩
  | x :: xs, h => by
    simp only [List.all_cons, Bool.and_eq_true] at h
    obtain ⟨t, rfl, ht⟩ := tieB_enc h.1
    obtain ⟨l, rfl, hl⟩ := tiesB_enc h.2
    exact ⟨t :: l, rfl, fun u hu => by rcases List.mem_cons.mp hu with rfl | hu; exact ht; exact hl u hu⟩
theorem pairB_enc {pl many : Nat} {x : D} (h : pairB pl many x = true) : ∃ t : Nat × Nat, x = enc t ∧ t.1 < pl ∧ t.2 < many := by
  unfold pairB at h
  split at h
  · rename_i x y
    simp only [Bool.and_eq_true] at h
    obtain ⟨h1, h2⟩ := h
    cases x <;> try (simp [belowB] at h1)
    cases y <;> try (simp [belowB] at h2)
    rename_i i j
    refine ⟨(i.toNat, j.toNat), ?_, by show i.toNat < _; omega, by show j.toNat < _; omega⟩
    have e1 : ((i.toNat : Nat) : Int) = i := by omega
    have e2 : ((j.toNat : Nat) : Int) = j := by omega
    simp [e1, e2]
  · cases h
theorem pairsB_enc {pl many : Nat} : ∀ {xs : List D}, xs.all (pairB pl many) = true → ∃ l : List (Nat × Nat), xs = l.map enc ∧ ∀ t ∈ l, t.1 < pl ∧ t.2 < many
  | [], _ => ⟨[], rfl, by simp⟩
  | x :: xs, h => by
    simp only [List.all_cons, Bool.and_eq_true] at h
    obtain ⟨t, rfl, ht⟩ := pairB_enc h.1
    obtain ⟨l, rfl, hl⟩ := pairsB_enc h.2
    exact ⟨t :: l, rfl, fun u hu => by rcases List.mem_cons.mp hu with rfl | hu; exact ht; exact hl u hu⟩
section
variable {Fs : List Def} (h14 : Fs[14]? = some d_is_number) (h15 : Fs[15]? = some d_is_below) (h17 : Fs[17]? = some d_rises) (h18 : Fs[18]? = some d_is_row_below)
include h14 h15 h18
theorem isTie_spec (h36 : Fs[36]? = some d_is_tie) (n : Nat) (m : Mem) (b : Bk) (pl : Int) (x : D) :
    callF Fs (n + 4) 36 [.d (eB b), .d (.int pl), .d x] m = .ok (.d (.bool (tieB b pl x))) m := by
  rw [callF_at h36 _ _ _ rfl]
  cases x with
  | tuple l =>
    match l with
    | [] => simp [d_is_tie, c_is_tie, isD, tieB]
    | [a] => simp [d_is_tie, c_is_tie, isD, tieB]
    | a :: c :: e :: l =>
      have : ¬ ((l.length : Int) + 1 + 1 + 1 = 2) := by omega
      simp [d_is_tie, c_is_tie, isD, tieB, this]
    | [a, y] =>
      have hb := fun m => below_spec h14 h15 (n + 1) m a b.kinds.length
      have hr := fun m => rowB_spec h14 h15 h18 n m y pl
      have hbk : binD .add (.int 1) (.int 1) = some (.int 2) := rfl
      cases h1 : belowB a b.kinds.length with
      | false =>
        have : tieB b pl (.tuple [a, y]) = false := by
          cases a <;> try rfl
          cases y <;> try rfl
          simp only [belowB] at h1
          simp only [tieB, h1, Bool.false_and]
        simp [d_is_tie, c_is_tie, isD, idxM, eB, hb, h1, this]
      | true =>
        cases a <;> try (simp [belowB] at h1)
        rename_i i
        obtain ⟨k, rfl⟩ : ∃ k : Nat, i = (k : Int) := ⟨i.toNat, by omega⟩
        have hk : k < b.kinds.length := by omega
        have hg := Bk.kd_get hk
        cases h2 : rowB y pl with
        | false =>
          have : tieB b pl (.tuple [.int (k : Int), y]) = false := by
            cases y <;> try rfl
            simp only [tieB, h2, Bool.and_false, Bool.false_and]
          simp [d_is_tie, c_is_tie, isD, idxM, eB, hb, hr, h1, h2, this, belowB, hk]
        | true =>
          cases y <;> try (simp [rowB] at h2)
          rename_i xs
          have h3 : tieB b pl (.tuple [.int (k : Int), .tuple xs]) = decide (xs.length = (b.kd k).1) := by
            simp [tieB, hk, rowB]
            intro _
            exact h2
          have h2' : rowB (.tuple xs) pl = true := by simp only [rowB, List.all_eq_true]; exact h2
          have h4 : ((xs.length : Int) = ((b.kd k).1 : Int)) ↔ xs.length = (b.kd k).1 := by omega
          simp [d_is_tie, c_is_tie, isD, idxM, eB, hb, hr, h2', h3, belowB, hk, hg, h4]
  | _ => simp [d_is_tie, c_is_tie, isD, tieB]
include h17
theorem isTold_spec (h37 : Fs[37]? = some d_is_told) (n : Nat) (m : Mem) (b : Bk) (pl : Nat) (x : D) :
    callF Fs (n + 4) 37 [.d (eB b), .d (.int (pl : Int)), .d x] m = .ok (.d (.bool (match x with | .tuple td => td.all (pairB pl b.many) && risesD (td.map fstD) | _ => false))) m := by
  rw [callF_at h37 _ _ _ rfl]
  cases x with
  | tuple td =>
    have e1 := mapM'_all (f := compF (callF Fs (n + 3)) (.nm 3) (.kb true) (.band (.cons (.isin (.var 3) ["tuple"]) (.cons (.cmp .eq (.b1 .len (.var 3)) (.kg "PAIR" 2)) .nil))) [("own", 3)] [.v (.d (eB b)), .v (.d (.int (pl : Int))), .v (.d (.tuple td)), .un]) (m := m) MV.d (fun y => PyData.bool (match y with | .tuple l => decide (l.length = 2) | _ => false)) td (by
      intro y _
      cases y with
      | tuple l =>
        have : ((l.length : Int) = 2) ↔ l.length = 2 := by omega
        simp [compF, isD, this]
      | _ => simp [compF, isD])
    by_cases h1 : (td.all fun y => match y with | .tuple l => decide (l.length = 2) | _ => false) = true
    · have e2 := mapM'_all (f := compF (callF Fs (n + 3)) (.nm 3) (.kb true) (.band (.cons (.call 15 (.cons (.idx (.var 3) (.ki 0)) (.cons (.var 1) .nil))) (.cons (.call 15 (.cons (.idx (.var 3) (.ki 1)) (.cons (.idx (.var 0) (.ki 0)) .nil))) .nil))) [("own", 3)] [.v (.d (eB b)), .v (.d (.int (pl : Int))), .v (.d (.tuple td)), .un]) (m := m) MV.d (fun y => PyData.bool (pairB pl b.many y)) td (by
        intro y hy
        have := List.all_eq_true.mp h1 y hy
        cases y <;> try (cases this)
        rename_i l
        have hl : l.length = 2 := of_decide_eq_true this
        match l, hl with
        | [u, v], _ =>
          have hu := below_spec h14 h15 (n + 1) m u pl
          have hv := below_spec h14 h15 (n + 1) m v b.many
          cases h3 : belowB u pl with
          | false => simp [compF, idxM, hu, h3, pairB]
          | true => simp [compF, idxM, hu, hv, h3, pairB, eB])
      cases h2 : td.all (pairB pl b.many) with
      | false => simp [d_is_told, c_is_told, isD, e1, e2, b1_all, h1, h2]
      | true =>
        obtain ⟨l, rfl, hl⟩ := pairsB_enc h2
        have e3 := mapM'_all (f := compF (callF Fs (n + 3)) (.nm 3) (.kb true) (.idx (.var 3) (.ki 0)) [("own", 3)] [.v (.d (eB b)), .v (.d (.int (pl : Int))), .v (.d (.tuple (l.map enc))), .un]) (m := m) (MV.d ∘ enc) (fun y : Nat × Nat => enc y.1) l (by
          intro y _
          simp [compF, idxM])
        have e4 := rises_l h17 (n + 2) m (l.map fun t => t.1)
        simp only [List.map_map, Function.comp_def, enc_nat] at e4
        have e5 : (l.map enc).map fstD = (l.map fun t => t.1).map enc := by simp [fstD]
        rw [← List.map_map] at e3
        simp only [e5, risesD_enc]
        simp [d_is_told, c_is_told, isD, e1, e2, b1_all, h1, h2, e3, e4, -List.map_map]
    · simp only [Bool.not_eq_true] at h1
      have h2 : td.all (pairB pl b.many) = false := by
        rw [List.all_eq_false] at h1 ⊢
        obtain ⟨y, hy, h⟩ := h1
        refine ⟨y, hy, fun h3 => h ?_⟩
        obtain ⟨t, rfl, _⟩ := pairB_enc h3
        rfl
      simp [d_is_told, c_is_told, isD, e1, b1_all, h1, h2]
  | _ => simp [d_is_told, c_is_told, isD]
theorem isPuzzle_spec (h36 : Fs[36]? = some d_is_tie) (h37 : Fs[37]? = some d_is_told) (h38 : Fs[38]? = some d_is_puzzle) (n : Nat) (m : Mem) (b : Bk) (x : D) :
    callF Fs (n + 5) 38 [.d (eB b), .d x] m = .ok (.d (.bool (pzB b x))) m := by
  rw [callF_at h38 _ _ _ rfl]
  cases x with
  | tuple l =>
    match l with
    | [] => simp [d_is_puzzle, c_is_puzzle, isD, pzB]
    | [_] => simp [d_is_puzzle, c_is_puzzle, isD, pzB]
    | [_, _] => simp [d_is_puzzle, c_is_puzzle, isD, pzB]
    | [_, _, _] => simp [d_is_puzzle, c_is_puzzle, isD, pzB]
    | a :: c :: e :: f :: g :: l =>
      have : ¬ ((l.length : Int) + 1 + 1 + 1 + 1 + 1 = 4) := by omega
      simp [d_is_puzzle, c_is_puzzle, isD, pzB, this]
    | [a, ts, td, sh] =>
      have hn := fun m => number_spec h14 (n + 3) m a
      cases a with
      | int i =>
        by_cases h0 : i < 0
        · have : pzB b (.tuple [.int i, ts, td, sh]) = false := by
            have h0' : ¬ 0 ≤ i := by omega
            cases ts <;> try rfl
            cases td <;> try rfl
            simp [pzB, h0']
          simp [d_is_puzzle, c_is_puzzle, isD, idxM, hn, numB, h0, this]
        · obtain ⟨pl, rfl⟩ : ∃ k : Nat, i = (k : Int) := ⟨i.toNat, by omega⟩
          have e0 : evSs (callF Fs (n + 4)) (.cons (.if_ (.bor (.cons (.not_ (.isin (.var 1) ["tuple"])) (.cons (.cmp .ne (.b1 .len (.var 1)) (.kg "PARTS" 4)) (.cons (.not_ (.call 14 (.cons (.idx (.var 1) (.ki 0)) .nil))) (.cons (.cmp .lt (.idx (.var 1) (.ki 0)) (.ki 0)) .nil))))) (.cons (.ret (.kb false)) .nil) .nil) (.cons (.asgT (.cons (.nm 2) (.cons (.nm 3) (.cons (.nm 4) (.cons (.nm 5) .nil)))) (.var 1)) .nil))
              [.v (.d (eB b)), .v (.d (.tuple [.int (pl : Int), ts, td, sh])), .un, .un, .un, .un, .un] m = .nx [.v (.d (eB b)), .v (.d (.tuple [.int (pl : Int), ts, td, sh])), .v (.d (.int (pl : Int))), .v (.d ts), .v (.d td), .v (.d sh), .un] m := by
            simp [isD, idxM, hn, numB]
          cases ts with
          | tuple ts =>
            have e1 := mapM'_all (f := compF (callF Fs (n + 4)) (.nm 6) (.kb true) (.call 36 (.cons (.var 0) (.cons (.var 2) (.cons (.var 6) .nil)))) [("own", 6)] [.v (.d (eB b)), .v (.d (.tuple [.int (pl : Int), .tuple ts, td, sh])), .v (.d (.int (pl : Int))), .v (.d (.tuple ts)), .v (.d td), .v (.d sh), .un]) (m := m) MV.d (fun y => PyData.bool (tieB b pl y)) ts (by
              intro y _
              have := isTie_spec h14 h15 h18 h36 n m b pl y
              simp [compF, this])
            cases h1 : ts.all (tieB b pl) with
            | false =>
              have : pzB b (.tuple [.int (pl : Int), .tuple ts, td, sh]) = false := by
                cases td <;> try rfl
                simp only [pzB, h1, Bool.false_and, Bool.and_false]
              simp [-List.map_map, -List.all_map, d_is_puzzle, c_is_puzzle, isD, idxM, hn, numB, h0, e1, b1_all, h1, this]
            | true =>
              obtain ⟨l, rfl, hl⟩ := tiesB_enc h1
              have e2 := fun m => rises_t h17 (n + 3) m l
              cases h2 : risesL l with
              | false =>
                have : pzB b (.tuple [.int (pl : Int), .tuple (l.map enc), td, sh]) = false := by
                  cases td <;> try rfl
                  simp only [pzB, risesD_enc, h2, Bool.false_and, Bool.and_false]
                simp [-List.map_map, -List.all_map, d_is_puzzle, c_is_puzzle, isD, idxM, hn, numB, h0, e1, b1_all, h1, e2, h2, this]
              | true =>
                have e3 := fun m => isTold_spec h14 h15 h17 h18 h37 n m b pl td
                have e4 := fun m => rowB_spec h14 h15 h18 (n + 1) m sh pl
                cases td with
                | tuple td =>
                  have : pzB b (.tuple [.int (pl : Int), .tuple (l.map enc), .tuple td, sh]) = ((td.all (pairB pl b.many) && risesD (td.map fstD)) && (rowB sh pl && (b.tell || decide (td = [])))) := by
                    simp only [pzB, h1, risesD_enc, h2, Bool.and_true, Bool.true_and, Bool.and_assoc]
                    simp
                  rw [this]
                  have ht0 : ((td.length : Int) = 0) ↔ td = [] := by rw [← List.length_eq_zero_iff]; omega
                  replace e3 : ∀ m, callF Fs (n + 4) 37 [.d (eB b), .d (.int (pl : Int)), .d (.tuple td)] m = .ok (.d (.bool (td.all (pairB pl b.many) && risesD (td.map fstD)))) m := e3
                  generalize (td.all (pairB pl b.many) && risesD (td.map fstD)) = q3 at e3 ⊢
                  generalize hq4 : rowB sh pl = q4 at e4 ⊢
                  cases q3 with
                  | false => simp [-List.map_map, -List.all_map, d_is_puzzle, c_is_puzzle, isD, idxM, hn, numB, h0, e1, b1_all, h1, e2, h2, e3]
                  | true =>
                    cases q4 with
                    | false => simp [-List.map_map, -List.all_map, d_is_puzzle, c_is_puzzle, isD, idxM, hn, numB, h0, e1, b1_all, h1, e2, h2, e3, e4]
                    | true =>
                      have ht : atI [PyData.int (b.many : Int), .bool b.tell, .tuple (b.kinds.map enc)] 1 = some (.bool b.tell) := by simp
                      cases htl : b.tell with
                      | true =>
                        simp [-List.map_map, -List.all_map, d_is_puzzle, c_is_puzzle, isD, idxM, hn, numB, h0, e1, b1_all, h1, e2, h2, e3, e4]
                        simp [eB, htl]
                      | false =>
                        simp [-List.map_map, -List.all_map, d_is_puzzle, c_is_puzzle, isD, idxM, hn, numB, h0, e1, b1_all, h1, e2, h2, e3, e4]
                        simp [eB, htl, ht0]
                | _ => 
                  have : ∀ y, (∀ td, y ≠ .tuple td) → pzB b (.tuple [.int (pl : Int), .tuple (l.map enc), y, sh]) = false := by
                    intro y hy
                    cases y <;> first | rfl | exact absurd rfl (hy _)
                  simp only at e3
                  simp [-List.map_map, -List.all_map, d_is_puzzle, c_is_puzzle, isD, idxM, hn, numB, h0, e1, b1_all, h1, e2, h2, e3, this]
          | _ => simp [d_is_puzzle, c_is_puzzle, isD, idxM, hn, numB, pzB]
      | _ => simp [d_is_puzzle, c_is_puzzle, isD, idxM, hn, numB, pzB]
  | _ => simp [d_is_puzzle, c_is_puzzle, isD, pzB]
end
end Mp

set_option maxRecDepth 100000
set_option linter.all false
set_option Elab.async false
namespace Mp
open PySem PySem.Spec PyProof.Rows L2
open Enc (enc)
def toldB (p : Pz) (s : List Nat) : Bool := p.told.all fun t => decide (s.getD t.1 0 = t.2)
theorem rowB_nat {s : List Nat} {N : Nat} (h : ∀ v ∈ s, v < N) : rowB (.tuple (s.map enc)) N = true := by
  simp only [rowB, List.all_eq_true, List.mem_map]
  rintro _ ⟨v, hv, rfl⟩
  have := h v hv
  simp [belowB]; exact this
section
variable {Fs : List Def} (h14 : Fs[14]? = some d_is_number) (h15 : Fs[15]? = some d_is_below) (h16 : Fs[16]? = some d_tupled) (h18 : Fs[18]? = some d_is_row_below) (h20 : Fs[20]? = some d_rows_of) (h21 : Fs[21]? = some d_row_at)
  (h30 : Fs[30]? = some d_broken_ties) (h31 : Fs[31]? = some d_keeps_ties) (h39 : Fs[39]? = some d_is_setting)
include h14 h15 h18 h39
theorem isSetting_l (n : Nat) (m : Mem) (b : Bk) (p : Pz) (xs : List D) : callF Fs (n + 4) 39 [.d (eB b), .d (eP p), .d (.list xs)] m = .ok (.d (.bool false)) m := by
  rw [callF_at h39 _ _ _ rfl]
  have e := rowB_spec h14 h15 h18 n m (.list xs) b.many
  simp [d_is_setting, c_is_setting, eB, idxM, e, rowB]
include h16 h20 h21 h30 h31
theorem isSetting_t (n : Nat) (m : Mem) (b : Bk) (p : Pz) (hp : PzOk b p) (s : List Nat) (hs : s.length = p.places) (hv : ∀ v ∈ s, v < b.many) :
    callF Fs (n + 14) 39 [.d (eB b), .d (eP p), .d (.tuple (s.map enc))] m = .ok (.d (.bool (decide (brokenL b p s = []) && toldB p s))) m := by
  rw [callF_at h39 _ _ _ rfl]
  have e := rowB_spec h14 h15 h18 (n + 10) m (.tuple (s.map enc)) b.many
  rw [rowB_nat hv] at e
  have e2 := keeps_spec h16 h20 h21 h30 h31 n m b p hp s hs
  have e3 := mapM'_all (f := compF (callF Fs (n + 13)) (.tp (.cons (.nm 3) (.cons (.nm 4) .nil))) (.kb true) (.cmp .eq (.idx (.var 2) (.var 3)) (.var 4)) [("place", 3), ("value", 4)] [.v (.d (eB b)), .v (.d (eP p)), .v (.d (.tuple (s.map enc))), .un, .un]) (m := m) (MV.d ∘ enc) (fun t : Nat × Nat => PyData.bool (decide (s.getD t.1 0 = t.2))) p.told (by
    intro t ht
    have h1 := (hp.told t ht).1
    rw [← hs] at h1
    have h2 : (((s[t.1] : Nat) : Int) = ((t.2 : Nat) : Int)) ↔ s[t.1] = t.2 := by omega
    simp [compF, idxM, h1, h2])
  simp only [eB] at e e2 e3 ⊢
  simp only [eP] at e e2 e3 ⊢
  simp [d_is_setting, c_is_setting, idxM, e, hs, e2]
  cases h : decide (brokenL b p s = []) with
  | false =>
    have : ¬ brokenL b p s = [] := of_decide_eq_false h
    simp [this]
  | true =>
    have : brokenL b p s = [] := of_decide_eq_true h
    simp [this, e3, b1_all, toldB]
end
/-- a walk that ends at the first thing that is not as wished -/
theorem forS_all {β : Type} {f : MV → Env' → Mem → SRes} {m : Mem} (c : β → Bool) (en : β → MV) (v : MV) (I : Env' → Prop) : ∀ (l : List β) (r : Env'), I r →
    (∀ x ∈ l, ∀ r, I r → (c x = true → ∃ r', f (en x) r m = .nx r' m ∧ I r') ∧ (c x = false → f (en x) r m = .rt v m)) →
    (l.all c = true → ∃ r', forS f (l.map en) r m = .nx r' m ∧ I r') ∧ (l.all c = false → forS f (l.map en) r m = .rt v m)
  | [], r, hr, _ => ⟨fun _ => ⟨r, rfl, hr⟩, fun h => by simp at h⟩
  | x :: l, r, hr, h => by
    have h1 := h x (by simp) r hr
    have ih := fun r hr => forS_all c en v I l r hr fun y hy => h y (by simp [hy])
    cases hc : c x with
    | false =>
      have := h1.2 hc
      exact ⟨fun h => by simp [hc] at h, fun _ => by simp only [List.map_cons, forS, this]⟩
    | true =>
      obtain ⟨r', e, hr'⟩ := h1.1 hc
      have := ih r' hr'
      refine ⟨fun h => ?_, fun h => ?_⟩
      · obtain ⟨r2, e2, h2⟩ := this.1 (by simpa [hc] using h)
        exact ⟨r2, by simp only [List.map_cons, forS, e, e2], h2⟩
      · simp only [List.map_cons, forS, e, this.2 (by simpa [hc] using h)]
theorem brokenL_nil {b : Bk} {p : Pz} {s : List Nat} : brokenL b p s = [] ↔ p.ties.all (keepsB b s) = true := by
  simp [brokenL, List.filter_eq_nil_iff]
def untoldL (p : Pz) (s : List Nat) : List (Nat × Nat) := p.told.filter fun t => !decide (s.getD t.1 0 = t.2)
theorem untoldL_nil (p : Pz) (s : List Nat) : decide (untoldL p s = []) = toldB p s := by
  rw [Bool.eq_iff_iff, decide_eq_true_iff, untoldL, List.filter_eq_nil_iff, toldB, List.all_eq_true]
  simp
theorem keeps_nin (b : Bk) (s : List Nat) (t : Tie) : cmpD .nin (.tuple ((rowAt s t.2).map enc)) (.tuple ((b.kd t.1).2.map enc)) = some (!keepsB b s t) := by
  have h5 := cmp_nin (rowAt s t.2) (b.kd t.1).2 (by decide)
  simp only [enc_list] at h5
  rw [h5]
  unfold keepsB
  congr
theorem cmp_eq_nil {α : Type} [Enc α] (l : List α) (h : Enc.dep α < 64) : cmpD .eq (.list (l.map enc)) (.list []) = some (decide (l.length = 0)) := by
  have p1 := plain_lst l h
  have p2 := plain_lst ([] : List α) h
  simp only [List.map_nil] at p2
  simp only [cmpD, p1, p2, and_self, if_true, PyData.eqv]
  cases l <;> simp [PyData.eqvAll]
/-- _law_keeps -/
theorem lawKeeps_spec {Fs : List Def} (h13 : Fs[13]? = some d__law_keeps) (n : Nat) (m : Mem) (b : Bk) (p : Pz) (hp : PzOk b p) (s : List Nat) (hs : s.length = p.places) :
    callF Fs (n + 1) 13 [.d (eB b), .d (eP p), .d (.tuple (s.map enc))] m = .ok (.d (.bool (decide (brokenL b p s = []) && toldB p s))) m := by
  rw [callF_at h13 _ _ _ rfl]
  obtain ⟨h1, h2⟩ := forS_all (f := forF (callF Fs n) (.tp (.cons (.nm 3) (.cons (.nm 4) .nil))) (.cons (.if_ (.cmp .nin (.b1 .tup (.comp (.nm 5) (.dat (.var 4)) (.kb true) (.idx (.var 2) (.var 5)) [("_law_own", 5)])) (.idx (.idx (.idx (.var 0) (.ki 2)) (.var 3)) (.ki 1))) (.cons (.ret (.kb false)) .nil) .nil) .nil)) (m := m)
    (keepsB b s) (MV.d ∘ enc) (.d (.bool false)) (fun r => ∃ s3 s4 s5, r = [.v (.d (eB b)), .v (.d (eP p)), .v (.d (.tuple (s.map enc))), s3, s4, s5]) p.ties [.v (.d (eB b)), .v (.d (eP p)), .v (.d (.tuple (s.map enc))), .un, .un, .un] ⟨_, _, _, rfl⟩ (by
      rintro t ht r ⟨s3, s4, s5, rfl⟩
      have hto := hp.ties t ht
      have hn := hto.num
      have e3 : mapM' (compF (callF Fs n) (.nm 5) (.kb true) (.idx (.var 2) (.var 5)) [("_law_own", 5)] [.v (.d (eB b)), .v (.d (eP p)), .v (.d (.tuple (s.map enc))), .v (.d (.int (t.1 : Int))), .v (.d (.tuple (t.2.map enc))), s5]) ((t.2.map enc).map MV.d) m = .ok ((rowAt s t.2).map enc) m := by
        rw [List.map_map, mapM'_all (g := fun i : Nat => enc (s.getD i 0))]
        · simp [rowAt, Function.comp_def]
        · intro i hi
          have := hto.at_ i hi
          rw [← hs] at this
          simp [compF, idxM, this]
      have h4 := keeps_nin b s t
      simp only [eB] at e3 ⊢
      constructor
      · intro hk
        rw [hk] at h4
        refine ⟨_, ?_, .v (.d (.int (t.1 : Int))), .v (.d (.tuple (t.2.map enc))), s5, rfl⟩
        simp [forF, idxM, -List.map_map, e3, hn, h4]
      · intro hk
        rw [hk] at h4
        simp [forF, idxM, -List.map_map, e3, hn, h4])
  simp only [eP] at h1 h2 ⊢
  rw [← List.map_map] at h1 h2
  cases hk : p.ties.all (keepsB b s) with
  | false =>
    have hb : ¬ brokenL b p s = [] := fun h => by rw [brokenL_nil.mp h] at hk; cases hk
    simp [d__law_keeps, c__law_keeps, idxM, -List.map_map, h2 hk, hb]
  | true =>
    have hb := brokenL_nil.mpr hk
    obtain ⟨r', e, s3, s4, s5, rfl⟩ := h1 hk
    have e2 : mapM' (compF (callF Fs n) (.nm 5) (.cmp .ne (.idx (.var 2) (.idx (.var 5) (.ki 0))) (.idx (.var 5) (.ki 1))) (.var 5) [("_law_own", 5)] [.v (.d (eB b)), .v (.d (.tuple [.int (p.places : Int), .tuple (p.ties.map enc), .tuple (p.told.map enc), .tuple (p.shown.map enc)])), .v (.d (.tuple (s.map enc))), s3, s4, s5]) ((p.told.map enc).map MV.d) m = .ok ((untoldL p s).map enc) m := by
      rw [List.map_map, mapM'_filter (c := fun t : Nat × Nat => !decide (s.getD t.1 0 = t.2)) (g := enc)]
      · rfl
      · intro t ht
        have h1 := (hp.told t ht).1
        rw [← hs] at h1
        have h2 : (((s[t.1] : Nat) : Int) = ((t.2 : Nat) : Int)) ↔ s[t.1] = t.2 := by omega
        simp [compF, idxM, h1, h2]
        split <;> rfl
    have hcc := cmp_eq_nil (untoldL p s) (by decide)
    have ht := untoldL_nil p s
    simp only [← List.length_eq_zero_iff] at ht
    rw [ht] at hcc
    simp [d__law_keeps, c__law_keeps, idxM, -List.map_map, e, e2, hcc, hb]
end Mp

set_option maxRecDepth 100000
set_option linter.all false
set_option Elab.async false
namespace Mp
open PySem PySem.Spec PyProof.Rows L2
open Enc (enc)
/-! ### as a list or as a tuple, at every depth -/
def lay (s : Bool) (d : D) : D := match s with
  | true => lstD d
  | false => d
/-- a sequence, as a list or as a tuple -/
def sq (s : Bool) (xs : List D) : D := match s with
  | true => .list xs
  | false => .tuple xs
section
variable (s t : Bool) (xs ys : List D) (m : Mem)
theorem sq_t : sq false xs = .tuple xs := rfl
theorem sq_l : sq true xs = .list xs := rfl
@[simp] theorem lay_f (d : D) : lay false d = d := (rfl)
@[simp] theorem idx_sq (i : Int) : idxM (.d (sq s xs)) (.int i) m = optD (atI xs i) m := by cases s <;> rfl
@[simp] theorem idx_tp (i : Int) : idxM (.d (.tuple xs)) (.int i) m = optD (atI xs i) m := (rfl)
@[simp] theorem idx_ls (i : Int) : idxM (.d (.list xs)) (.int i) m = optD (atI xs i) m := (rfl)
@[simp] theorem idx_dt (kvs : List (Int × D)) (i : Int) : idxM (.t kvs) (.int i) m = optD (getT kvs i) m := (rfl)
@[simp] theorem len_sq : b1D .len (sq s xs) = some (.int xs.length) := by cases s <;> rfl
@[simp] theorem lst_sq : b1D .lst (sq s xs) = some (.list xs) := by cases s <;> rfl
@[simp] theorem tup_sq : b1D .tup (sq s xs) = some (.tuple xs) := by cases s <;> rfl
@[simp] theorem dat_sq : datM (.d (sq s xs)) m = .ok (xs.map .d) m := by cases s <;> rfl
@[simp] theorem enum_sq : enumM (.d (sq s xs)) m = .ok ((enumD 0 xs).map .d) m := by cases s <;> rfl
@[simp] theorem zip_sq : zipM (.d (sq s xs)) (.d (sq t ys)) m = .ok ((zipD xs ys).map .d) m := by cases s <;> cases t <;> rfl
@[simp] theorem zip_sqt : zipM (.d (.tuple xs)) (.d (sq t ys)) m = .ok ((zipD xs ys).map .d) m := by cases t <;> rfl
@[simp] theorem asgTM_sq (c : CTs) (r : Env') : asgTM c r (.d (sq s xs)) m = nxO (tgts c xs r) m := by cases s <;> rfl
@[simp] theorem tgt_sq (c : CTs) (r : Env') : tgt (.tp c) (.d (sq s xs)) r = tgts c xs r := by cases s <;> simp [sq]
@[simp] theorem isSeq_sq : isSeq (sq s xs) = true := by cases s <;> rfl
@[simp] theorem isSeq_t : isSeq (.tuple xs) = true := (rfl)
@[simp] theorem isSeq_l : isSeq (.list xs) = true := (rfl)
theorem tupD_sq : tupD (sq s xs) = .tuple (xs.map tupD) := by cases s <;> simp [sq, tupD, tupDs_map]
theorem canLay_sq : (sq s xs).canLay0 = PyData.canLayAll0 xs := by cases s <;> rfl
theorem depth_sq : (sq s xs).depth = PyData.depthAll xs + 1 := by cases s <;> simp [sq, PyData.depth]
end
theorem lay_tuple (s : Bool) (xs : List D) : lay s (.tuple xs) = sq s (xs.map (lay s)) := by
  cases s
  · show PyData.tuple xs = .tuple (xs.map fun x => x)
    simp
  · simp only [sq, lay, lstD, lstDs_map]
    rfl
@[simp] theorem lay_int (s : Bool) (i : Int) : lay s (.int i) = .int i := by cases s <;> rfl
@[simp] theorem lay_bool (s : Bool) (i : Bool) : lay s (.bool i) = .bool i := by cases s <;> rfl
theorem lay_list {α : Type} [Enc α] (s : Bool) (l : List α) : lay s (enc l) = sq s (l.map fun x => lay s (enc x)) := by
  rw [enc_list, lay_tuple, List.map_map]; rfl
theorem lay_rowN (s : Bool) (l : List Nat) : lay s (enc l) = sq s (l.map enc) := by
  rw [lay_list]
  congr 1
  exact List.map_congr_left fun x _ => by simp
theorem lay_pair {α β : Type} [Enc α] [Enc β] (s : Bool) (p : α × β) : lay s (enc p) = sq s [lay s (enc p.1), lay s (enc p.2)] := by
  rw [enc_pair, lay_tuple]; rfl
theorem tupD_lay (s : Bool) (d : D) : tupD (lay s d) = tupD d := by
  cases s
  · rfl
  · exact tupD_lstD d
mutual
theorem lstCan : ∀ d : D, (lstD d).canLay0 = d.canLay0
  | .list xs => by simp only [lstD, PyData.canLay0]; exact lstCans xs
  | .tuple xs => by simp only [lstD, PyData.canLay0]; exact lstCans xs
  | .none => by simp [lstD]
  | .bool _ => by simp [lstD]
  | .int _ => by simp [lstD]
  | .str _ => by simp [lstD]
  | .dict _ => by simp [lstD]
theorem lstCans : ∀ ds : List D, PyData.canLayAll0 (lstDs ds) = PyData.canLayAll0 ds
  | [] => by simp [lstDs]
  | d :: ds => by simp only [lstDs, PyData.canLayAll0, lstCan d, lstCans ds]
end
mutual
theorem lstDep : ∀ d : D, (lstD d).depth = d.depth
  | .list xs => by simp only [lstD, PyData.depth, lstDeps xs]
  | .tuple xs => by simp only [lstD, PyData.depth, lstDeps xs]
  | .none => by simp [lstD]
  | .bool _ => by simp [lstD]
  | .int _ => by simp [lstD]
  | .str _ => by simp [lstD]
  | .dict _ => by simp [lstD]
theorem lstDeps : ∀ ds : List D, PyData.depthAll (lstDs ds) = PyData.depthAll ds
  | [] => by simp [lstDs]
  | d :: ds => by simp only [lstDs, PyData.depthAll, lstDep d, lstDeps ds]
end
theorem lay_can (s : Bool) (d : D) : (lay s d).canLay0 = d.canLay0 := by
  cases s
  · rfl
  · exact lstCan d
theorem lay_dep (s : Bool) (d : D) : (lay s d).depth = d.depth := by
  cases s
  · rfl
  · exact lstDep d
/-- tupled of any layout -/
theorem tupled_lay {Fs : List Def} (h16 : Fs[16]? = some d_tupled) {α : Type} [Enc α] [NoL α] (s : Bool) (a : α) (hd : Enc.dep α ≤ 8) (n : Nat) (m : Mem) : callF Fs (n + 9) 16 [.d (lay s (enc a))] m = .ok (.d (enc a)) m := by
  have h1 := tupled_spec h16 8 (lay s (enc a)) (by rw [lay_dep]; exact Nat.le_trans (Enc.depth_le a) hd) (by rw [lay_can]; exact Enc.lay a) n m
  rw [tupD_lay, tupD_noL _ (NoL.noL a)] at h1
  exact h1

/-! ### walks whose turns leave the memory as it is -/
def mapG {β : Type} (f : β → Mem → Res (Option D)) : List β → Mem → Res (List D)
  | [], m => .ok [] m
  | x :: xs, m => (noEx (f x m)).bind fun o m1 => (mapG f xs m1).bind fun r m2 => .ok (match o with | some d => d :: r | none => r) m2
theorem mapM'_map {β : Type} (f : MV → Mem → Res (Option D)) (h : β → MV) : ∀ (L : List β) (m : Mem), mapM' f (L.map h) m = mapG (fun b m => f (h b) m) L m
  | [], _ => rfl
  | x :: L, m => by
    simp only [List.map_cons, mapM', mapG]
    congr 1; funext o m1
    rw [mapM'_map f h L m1]
    try rfl
theorem mapG_congr {β : Type} {f g : β → Mem → Res (Option D)} : ∀ {L : List β} {m : Mem}, (∀ x ∈ L, ∀ m, f x m = g x m) → mapG f L m = mapG g L m
  | [], _, _ => rfl
  | x :: L, m, h => by
    simp only [mapG, h x (by simp)]
    congr 1; funext o m1
    rw [mapG_congr fun y hy => h y (by simp [hy])]
@[simp] theorem mapG_pure {β : Type} (g : β → D) : ∀ (L : List β) (m : Mem), mapG (fun b m => .ok (some (g b)) m) L m = .ok (L.map g) m
  | [], _ => rfl
  | x :: L, m => by simp [mapG, mapG_pure g L m]
@[simp] theorem mapG_ite {β : Type} (p : β → Prop) [inst : ∀ b, Decidable (p b)] (g : β → D) : ∀ (L : List β) (m : Mem), mapG (fun b m => if p b then .ok (some (g b)) m else .ok none m) L m = .ok ((L.filter fun b => decide (p b)).map g) m
  | [], _ => rfl
  | x :: L, m => by
    simp only [mapG, List.filter_cons]
    by_cases h : p x <;> simp [h, mapG_ite p g L m]
theorem enumD_map {β : Type} (g : β → D) : ∀ (L : List β) (i : Nat), enumD i (L.map g) = (L.zipIdx i).map fun q => .tuple [.int (q.2 : Int), g q.1]
  | [], _ => rfl
  | x :: L, i => by simp [enumD, enumD_map g L (i + 1)]
theorem zipD_map {β γ : Type} (g : β → D) (k : γ → D) : ∀ (L : List β) (L' : List γ), zipD (L.map g) (L'.map k) = (L.zip L').map fun q => .tuple [g q.1, k q.2]
  | [], _ => by simp [zipD]
  | _ :: _, [] => by simp [zipD]
  | x :: L, y :: L' => by simp [zipD, zipD_map g k L L']
end Mp

set_option maxRecDepth 100000
set_option linter.all false
set_option Elab.async false
namespace Mp
open PySem PySem.Spec PyProof.Rows L2
open Enc (enc)
/-! ### defs that differ in names alone; raising and catching -/
structure SimD (a b : Def) : Prop where
  body : a.body = b.body
  ps : a.ps.length = b.ps.length
  ns : a.ns.length = b.ns.length
theorem callF_sim {Fs Gs : List Def} (h : ∀ i : Nat, Fs[i]? = Gs[i]? ∨ ∃ a b, Fs[i]? = some a ∧ Gs[i]? = some b ∧ SimD a b) : ∀ n, callF Fs n = callF Gs n
  | 0 => rfl
  | n + 1 => by
    have ih := callF_sim h n
    funext f xs m
    simp only [callF, ih]
    rcases h f with e | ⟨a, b, e1, e2, s⟩
    · rw [e]
    · rw [e1, e2]
      simp only [s.body, s.ps, s.ns]
theorem callF_set {Fs : List Def} {i : Nat} {a b : Def} (h : Fs[i]? = some a) (s : SimD a b) (n : Nat) : callF Fs n = callF (Fs.set i b) n := by
  refine callF_sim (fun j => ?_) n
  by_cases e : i = j
  · subst e
    exact .inr ⟨a, b, h, by rw [List.getElem?_set_self (List.getElem?_eq_some_iff.mp h).1], s⟩
  · exact .inl (by rw [List.getElem?_set_ne e])
section
variable {cl : Calls} {r : Env'} {m : Mem}
@[simp] theorem evS_raise0' (c : Str) : evS cl (.raise c .no) r m = .ex c none r m := by simp only [evS]; try rfl
@[simp] theorem evS_raiseF (c : Str) (es : CL) : evS cl (.raise c (.tup es)) r m = .of (evE cl (.tup es) r m) r fun x m1 => (match x with
      | .d x => .ex c (some x) r m1
      | _ => .bad) := by simp only [evS]; try rfl
@[simp] theorem evS_tryN (b : CSs) (qs : List Clz) (xs : List Str) : evS cl (.tryN b qs xs) r m = exN xs qs (evSs cl b r m) := by simp only [evS]; try rfl
@[simp] theorem thenS_ex' (c : Str) (x : Option PyData) (k : Env' → Mem → SRes) : thenS (.ex c x r m) k = .ex c x r m := (rfl)
@[simp] theorem back_ex' (n : Nat) (c : Str) (x : Option PyData) : back n (.ex c x r m) = .ex c x (m.take n) := (rfl)
@[simp] theorem of_ex' {α : Type} (c : Str) (x : Option PyData) (k : α → Mem → SRes) : SRes.of (.ex c x m) r k = .ex c x r m := (rfl)
@[simp] theorem exN_nx (xs : List Str) (qs : List Clz) : exN xs qs (.nx r m) = .nx r m := (rfl)
@[simp] theorem exN_rt (xs : List Str) (qs : List Clz) (v : MV) : exN xs qs (.rt v m) = .rt v m := (rfl)
@[simp] theorem bind_ex' {α β : Type} (c : Str) (x : Option PyData) (k : α → Mem → Res β) : (Res.ex c x m).bind k = .ex c x m := (rfl)
end
theorem lenSq' (s : Bool) (xs : List D) : b1M .len (.d (sq s xs)) m = .ok (.d (.int xs.length)) m := by cases s <;> rfl
/-- what can be laid and compared -/
def fineD (d : Nat) (x : D) : Prop := x.canLay0 = true ∧ x.depth ≤ d
theorem fineD.plain {d : Nat} {x : D} (h : fineD d x) (hd : d ≤ 64) : plain x = true := by
  simp only [Mp.plain, SeqAt.shaped, h.1, Bool.true_and]
  have := h.2
  exact decide_eq_true (by omega)
theorem fineD_mem {d : Nat} : ∀ {xs : List D}, (∀ x ∈ xs, fineD d x) → PyData.canLayAll0 xs = true ∧ PyData.depthAll xs ≤ d
  | [], _ => ⟨by simp [PyData.canLayAll0], by simp [PyData.depthAll]⟩
  | x :: xs, h => by
    obtain ⟨h1, h2⟩ := fineD_mem (xs := xs) fun y hy => h y (by simp [hy])
    have h3 := h x (by simp)
    refine ⟨by simp [PyData.canLayAll0, h3.1, h1], ?_⟩
    have := h3.2
    simp only [PyData.depthAll]
    omega
theorem fineD.lst {d : Nat} {xs : List D} (h : ∀ x ∈ xs, fineD d x) : fineD (d + 1) (.list xs) := by
  obtain ⟨h1, h2⟩ := fineD_mem h
  exact ⟨by simpa [PyData.canLay0] using h1, by simp only [PyData.depth]; omega⟩
theorem fineD.tup {d : Nat} {xs : List D} (h : ∀ x ∈ xs, fineD d x) : fineD (d + 1) (.tuple xs) := by
  obtain ⟨h1, h2⟩ := fineD_mem h
  exact ⟨by simpa [PyData.canLay0] using h1, by simp only [PyData.depth]; omega⟩
theorem fineD.mono {d e : Nat} {x : D} (h : fineD d x) (hd : d ≤ e) : fineD e x := ⟨h.1, Nat.le_trans h.2 hd⟩
theorem fineD_int (i : Int) : fineD 0 (.int i) := ⟨by simp [PyData.canLay0], by simp [PyData.depth]⟩
theorem fineD_bool (b : Bool) : fineD 0 (.bool b) := ⟨by simp [PyData.canLay0], by simp [PyData.depth]⟩
theorem fineD_none : fineD 0 .none := ⟨by simp [PyData.canLay0], by simp [PyData.depth]⟩
theorem fineD_enc {α : Type} [Enc α] (a : α) : fineD (Enc.dep α) (enc a) := ⟨Enc.lay a, Enc.depth_le a⟩
theorem fineD.lay {d : Nat} {x : D} (s : Bool) (h : fineD d x) : fineD d (lay s x) := ⟨by rw [lay_can]; exact h.1, by rw [lay_dep]; exact h.2⟩
theorem fineD.of_tup {d : Nat} {xs : List D} (h : fineD d (.tuple xs)) {x : D} (hx : x ∈ xs) : fineD d x := by
  refine ⟨layAll_mem (by simpa [fineD, PyData.canLay0] using h.1) hx, ?_⟩
  have := depthAll_mem hx
  have h2 := h.2
  simp only [PyData.depth] at h2
  omega
@[simp] theorem ne_NoKind_NoValue : (Str.ofString "NoKind" = Str.ofString "NoValue") = False := eq_false (by decide)
@[simp] theorem ne_NoKind_NoPlace : (Str.ofString "NoKind" = Str.ofString "NoPlace") = False := eq_false (by decide)
@[simp] theorem ne_NoKind_Unfit : (Str.ofString "NoKind" = Str.ofString "Unfit") = False := eq_false (by decide)
@[simp] theorem ne_NoKind_CanNot : (Str.ofString "NoKind" = Str.ofString "CanNot") = False := eq_false (by decide)
@[simp] theorem ne_NoValue_NoKind : (Str.ofString "NoValue" = Str.ofString "NoKind") = False := eq_false (by decide)
@[simp] theorem ne_NoValue_NoPlace : (Str.ofString "NoValue" = Str.ofString "NoPlace") = False := eq_false (by decide)
@[simp] theorem ne_NoValue_Unfit : (Str.ofString "NoValue" = Str.ofString "Unfit") = False := eq_false (by decide)
@[simp] theorem ne_NoValue_CanNot : (Str.ofString "NoValue" = Str.ofString "CanNot") = False := eq_false (by decide)
@[simp] theorem ne_NoPlace_NoKind : (Str.ofString "NoPlace" = Str.ofString "NoKind") = False := eq_false (by decide)
@[simp] theorem ne_NoPlace_NoValue : (Str.ofString "NoPlace" = Str.ofString "NoValue") = False := eq_false (by decide)
@[simp] theorem ne_NoPlace_Unfit : (Str.ofString "NoPlace" = Str.ofString "Unfit") = False := eq_false (by decide)
@[simp] theorem ne_NoPlace_CanNot : (Str.ofString "NoPlace" = Str.ofString "CanNot") = False := eq_false (by decide)
@[simp] theorem ne_Unfit_NoKind : (Str.ofString "Unfit" = Str.ofString "NoKind") = False := eq_false (by decide)
@[simp] theorem ne_Unfit_NoValue : (Str.ofString "Unfit" = Str.ofString "NoValue") = False := eq_false (by decide)
@[simp] theorem ne_Unfit_NoPlace : (Str.ofString "Unfit" = Str.ofString "NoPlace") = False := eq_false (by decide)
@[simp] theorem ne_Unfit_CanNot : (Str.ofString "Unfit" = Str.ofString "CanNot") = False := eq_false (by decide)
@[simp] theorem ne_CanNot_NoKind : (Str.ofString "CanNot" = Str.ofString "NoKind") = False := eq_false (by decide)
@[simp] theorem ne_CanNot_NoValue : (Str.ofString "CanNot" = Str.ofString "NoValue") = False := eq_false (by decide)
@[simp] theorem ne_CanNot_NoPlace : (Str.ofString "CanNot" = Str.ofString "NoPlace") = False := eq_false (by decide)
@[simp] theorem ne_CanNot_Unfit : (Str.ofString "CanNot" = Str.ofString "Unfit") = False := eq_false (by decide)
end Mp

set_option maxRecDepth 100000
set_option linter.all false
set_option Elab.async false
namespace Mp
open PySem PySem.Spec PyProof.Rows L2
open Enc (enc)
/-! ### books of any layout -/
def lyK (s : Bool) (k : Kd) : D := lay s (enc k)
theorem ly_eB (s : Bool) (b : Bk) : lay s (eB b) = sq s [.int (b.many : Int), .bool b.tell, sq s (b.kinds.map (lyK s))] := by
  cases s
  · rfl
  · simp only [lay, sq, eB, lstD, lstDs, lstDs_map, List.map_map, Function.comp_def]
    rfl
theorem ly_kd (s : Bool) (k : Kd) : lyK s k = sq s [.int (k.1 : Int), sq s (k.2.map fun r => sq s (r.map enc))] := by
  unfold lyK
  rw [lay_pair, lay_list]
  congr 1
  simp only [enc_nat, lay_int, lay_rowN]
theorem bk0 (m : Mem) (s : Bool) (b : Bk) : idxM (.d (lay s (eB b))) (.int 0) m = .ok (.d (.int (b.many : Int))) m := by
  rw [ly_eB]; cases s <;> simp [sq, idxM]
theorem bk1 (m : Mem) (s : Bool) (b : Bk) : idxM (.d (lay s (eB b))) (.int 1) m = .ok (.d (.bool b.tell)) m := by
  rw [ly_eB]; cases s <;> simp [sq, idxM]
theorem bk2 (m : Mem) (s : Bool) (b : Bk) : idxM (.d (lay s (eB b))) (.int 2) m = .ok (.d (sq s (b.kinds.map (lyK s)))) m := by
  rw [ly_eB]; cases s <;> simp [sq, idxM]
theorem bh2 (m : Mem) (b : Bk) : idxM (.d (eB b)) (.int 2) m = .ok (.d (.tuple (b.kinds.map enc))) m := by simp [eB, idxM]
theorem bh0 (m : Mem) (b : Bk) : idxM (.d (eB b)) (.int 0) m = .ok (.d (.int (b.many : Int))) m := by simp [eB, idxM]
theorem bh1 (m : Mem) (b : Bk) : idxM (.d (eB b)) (.int 1) m = .ok (.d (.bool b.tell)) m := by simp [eB, idxM]
theorem noL_eB' (b : Bk) : noL (eB b) = true := by
  have := noLs_enc b.kinds
  simp [eB, noL, noLs, this]
theorem fine_eB' (b : Bk) : fineD 5 (eB b) := fineD.tup (d := 4) fun x hx => by
  simp only [List.mem_cons, List.not_mem_nil, or_false] at hx
  rcases hx with rfl | rfl | rfl
  · exact (fineD_int _).mono (by omega)
  · exact (fineD_bool _).mono (by omega)
  · exact (fineD_enc b.kinds).mono (by decide)
theorem tup_eB {Fs : List Def} (h16 : Fs[16]? = some d_tupled) (n : Nat) (m : Mem) (s : Bool) (b : Bk) : callF Fs (n + 9) 16 [.d (lay s (eB b))] m = .ok (.d (eB b)) m := by
  have h := (fine_eB' b).lay s
  have e := tupled_spec h16 8 (lay s (eB b)) (Nat.le_trans h.2 (by omega)) h.1 n m
  rw [tupD_lay, tupD_noL _ (noL_eB' b)] at e
  exact e
/-- a walk that ends with an error at the first thing that is not as wished -/
theorem forS_find {β : Type} {f : MV → Env' → Mem → SRes} {m : Mem} (c : β → Bool) (en : β → MV) (z : β → Str × Option PyData) (I : Env' → Prop) : ∀ (l : List β) (r : Env'), I r →
    (∀ x ∈ l, ∀ r, I r → (c x = true → ∃ r', f (en x) r m = .nx r' m ∧ I r') ∧ (c x = false → ∃ r', f (en x) r m = .ex (z x).1 (z x).2 r' m)) →
    (l.find? (fun x => !c x) = none → ∃ r', forS f (l.map en) r m = .nx r' m ∧ I r') ∧ ∀ x, l.find? (fun x => !c x) = some x → ∃ r', forS f (l.map en) r m = .ex (z x).1 (z x).2 r' m
  | [], r, hr, _ => ⟨fun _ => ⟨r, rfl, hr⟩, fun x h => by simp at h⟩
  | x :: l, r, hr, h => by
    have h1 := h x (by simp) r hr
    cases hc : c x with
    | false =>
      obtain ⟨r', e⟩ := h1.2 hc
      refine ⟨fun h => by simp [hc] at h, fun y hy => ?_⟩
      simp only [List.find?_cons, hc, Bool.not_false] at hy
      cases hy
      exact ⟨r', by simp only [List.map_cons, forS, e]⟩
    | true =>
      obtain ⟨r', e, hr'⟩ := h1.1 hc
      have ih := forS_find c en z I l r' hr' fun y hy => h y (by simp [hy])
      refine ⟨fun h => ?_, fun y hy => ?_⟩
      · obtain ⟨r2, e2, h2⟩ := ih.1 (by simpa [hc] using h)
        exact ⟨r2, by simp only [List.map_cons, forS, e, e2], h2⟩
      · obtain ⟨r2, e2⟩ := ih.2 y (by simpa [hc] using hy)
        exact ⟨r2, by simp only [List.map_cons, forS, e, e2]⟩
theorem intB {N : Nat} (i : Int) : belowB (.int i) (N : Int) = decide (0 ≤ i ∧ i < (N : Int)) := by simp [belowB]
end Mp

set_option maxRecDepth 100000
set_option linter.all false
set_option Elab.async false
namespace Mp
open PySem PySem.Spec PyProof.Rows L2
open Enc (enc)
theorem foldA_bd' {β : Type} {f : MV → List D → Mem → Res (List D)} {m : Mem} (en : β → MV) (g : β → List D) (B : Nat) : ∀ (l : List β) (acc : List D), acc.length + (l.flatMap g).length ≤ B →
    (∀ x ∈ l, ∀ acc, acc.length + (g x).length ≤ B → f (en x) acc m = .ok (acc ++ g x) m) → foldA f (l.map en) acc m = .ok (acc ++ l.flatMap g) m
  | [], acc, _, _ => by simp [foldA]
  | x :: l, acc, hb, h => by
    simp only [List.flatMap_cons, List.length_append] at hb
    have e1 := h x (by simp) acc (by omega)
    have e2 := foldA_bd' en g B l (acc ++ g x) (by simp only [List.length_append]; omega) fun y hy => h y (by simp [hy])
    simp only [List.map_cons, foldA, e1, noEx_ok1, Res.bind_ok, e2, List.flatMap_cons, List.append_assoc]
theorem allRows' {Fs : List Def} (h23 : Fs[23]? = some d_all_rows) (n : Nat) (m : Mem) (many w : Nat) (h1 : 1 ≤ many) (hs : many ^ w ≤ 1000) (hm : many ≤ 1000) (hw : w ≤ 1000) :
    callF Fs (n + 1) 23 [.d (.int (many : Int)), .d (.int (w : Int))] m = .ok (.d (.list ((tuplesL many w).map enc))) m := by
  rw [callF_at h23 _ _ _ rfl]
  have z1 : (1 ≤ sizeLine) = True := eq_true (size_ge (by omega))
  have z0 : (0 ≤ sizeLine) = True := eq_true (size_ge (by omega))
  simp [d_all_rows, c_all_rows, z1, z0, rgOk_nat (size_ge (show w ≤ 10000 by omega)), rangeD_nat]
  obtain ⟨r', e, s3, s4, s5, rfl⟩ := forS_pure (f := forF (callF Fs n) (.nm 3) (.cons (.asg 2 (.comp2 (.nm 4) (.dat (.var 2)) (.kb true) (.nm 5) (.rg1 (.var 0)) (.kb true) (.tup (.star (.var 4) (.cons (.var 5) .nil))) [("row", 4), ("value", 5)] [5])) .nil))
    (fun i r => ∃ s3 s4 s5, r = [.v (.d (.int (many : Int))), .v (.d (.int (w : Int))), .v (.d (.list ((tuplesL many i).map enc))), s3, s4, s5])
    ((List.range w).map (MV.d ∘ fun (i : Nat) => PyData.int (i : Int))) [.v (.d (.int (many : Int))), .v (.d (.int (w : Int))), .v (.d (.list [.tuple []])), .un, .un, .un] m ⟨.un, .un, .un, rfl⟩ (by
      rintro i x r hx ⟨s3, s4, s5, rfl⟩
      have hi : i < w := by simpa using (List.getElem?_eq_some_iff.mp hx).1
      have hpow : many ^ (i + 1) ≤ 1000 := Nat.le_trans (Nat.pow_le_pow_right h1 hi) hs
      have hr := rgOk_nat (size_ge (show many ≤ 10000 by omega))
      have hlr : ∀ r ∈ tuplesL many i, r.length ≤ 1000 := fun r hr => by
        have := (tuplesL_mem.mp hr).1; omega
      have e := foldA_bd' (f := compH (callF Fs n) (.nm 4) (.kb true) (.nm 5) (.rg1 (.var 0)) (.kb true) (.tup (.star (.var 4) (.cons (.var 5) .nil))) [("row", 4), ("value", 5)] [5] [.v (.d (.int (many : Int))), .v (.d (.int (w : Int))), .v (.d (.list ((tuplesL many i).map enc))), .v x, s4, s5])
        (m := m) (MV.d ∘ enc) (fun r : List Nat => (List.range many).map fun v => enc (r ++ [v])) 1000 (tuplesL many i) [] (by
          simp only [List.length_flatMap, List.length_map, List.length_range, List.length_nil]
          rw [List.map_const', List.sum_replicate_nat, tuplesL_len]
          rw [Nat.pow_succ] at hpow
          omega) (by
          intro row hrow acc hacc
          have hl := hlr row hrow
          have e := foldA_bd' (f := compG (callF Fs n) (.nm 5) (.kb true) (.tup (.star (.var 4) (.cons (.var 5) .nil))) [5] [.v (.d (.int (many : Int))), .v (.d (.int (w : Int))), .v (.d (.list ((tuplesL many i).map enc))), .v x, .v (.d (enc row)), .un])
            (m := m) (MV.d ∘ fun (v : Nat) => PyData.int (v : Int)) (fun v : Nat => [enc (row ++ [v])]) 1000 (List.range many) acc (by rw [← List.map_eq_flatMap]; simpa using hacc) (by
              intro v hv acc hacc
              have hz : acc.length < sizeLine := Nat.lt_of_lt_of_le (Nat.lt_succ_of_le (show acc.length ≤ 1000 by omega)) (size_ge (by omega))
              simp [compG, hz, size_ge (show row.length + 1 ≤ 10000 by omega)])
          rw [← List.map_eq_flatMap] at e
          simp only [Function.comp_def] at e
          simp [compH, hr, rangeD_nat, Function.comp_def]
          simp at e
          exact e)
      simp only [List.nil_append, Function.comp_def] at e
      simp [forF, Function.comp_def]
      simp at e
      simp [e, tuplesL, List.map_flatMap, Function.comp_def])
  rw [e]
  simp
/-- what a filtered comprehension over small numbers gives -/
theorem map_d {α : Type} [Enc α] (l : List α) : (l.map (enc : α → D)).map MV.d = l.map fun x => MV.d (enc x) := by rw [List.map_map]; rfl
theorem map_nat (l : List Nat) : (l.map fun (i : Nat) => PyData.int (i : Int)) = l.map enc := rfl
theorem rgN {n : Nat} (h : n ≤ 10000) : rgM 0 (.d (.int (n : Int))) m = .ok ((List.range n).map fun (v : Nat) => MV.d (.int (v : Int))) m := by
  have h1 := rgOk_nat (size_ge h)
  have h2 := rangeD_nat n
  simp [rgM, h1, h2]
theorem cmp_eB (b o : Bk) : cmpD .eq (eB b) (eB o) = some (decide (b.many = o.many ∧ b.tell = o.tell ∧ b.kinds = o.kinds)) := by
  have h1 := (fine_eB' b).plain (by omega)
  have h2 := (fine_eB' o).plain (by omega)
  simp only [cmpD, h1, h2, and_self, if_true]
  congr 1
  have h3 := eqvAll_enc b.kinds o.kinds
  rw [Bool.eq_iff_iff, decide_eq_true_iff]
  have h4 : ((b.many : Int) = (o.many : Int)) ↔ b.many = o.many := by omega
  simp only [eB, PyData.eqv, PyData.eqvAll, Bool.and_true, Bool.and_eq_true, h3, beq_iff_eq, decide_eq_true_eq, h4]
theorem cmp_eqLs {α : Type} [Enc α] [DecidableEq α] (a b : List α) (h : Enc.dep α < 64) : cmpD .eq (.list (a.map enc)) (.list (b.map enc)) = some (decide (a = b)) := by
  simp only [cmpD, plain_lst a h, plain_lst b h, and_self, if_true, PyData.eqv]
  congr 1
  rw [Bool.eq_iff_iff, decide_eq_true_iff]
  exact eqvAll_enc a b
theorem eqNil' {ys : List D} (h : plain (.list ys) = true) : cmpD .eq (.list ys) (.list []) = some (decide (ys = [])) := by
  have h' : plain (.list []) = true := by decide
  simp only [cmpD, h, h', and_self, if_true]
  cases ys <;> simp [PyData.eqv, PyData.eqvAll]
theorem neNil' {ys : List D} (h : plain (.list ys) = true) : cmpD .ne (.list ys) (.list []) = some (!decide (ys = [])) := by
  have h' : plain (.list []) = true := by decide
  simp only [cmpD, h, h', and_self, if_true]
  cases ys <;> simp [PyData.eqv, PyData.eqvAll]
theorem srt_nat (l : List Nat) : b1D .srt (.tuple (l.map enc)) = some (.list ((srtL l).map enc)) := by
  have h1 := allAlike_enc l
  have h2 : sortable (l.map (enc : Nat → D)) = true := by simp [sortable]
  have h3 := allPlain_enc l (by decide)
  simp only [b1D, h1, h2, h3, and_self, if_true, sortD_enc]
theorem srt_asc {α : Type} [Enc α] [DecidableEq α] {l : List α} (h : Asc l) : srtL l = l := asc_ext (srtL_asc (asc_nodup h)) h fun a => (srtL_perm l).mem_iff
theorem srt_uniq {α : Type} [Enc α] [DecidableEq α] {l : List α} (h : l.Nodup) : srtL l = uniqL l := asc_ext (srtL_asc h) (asc_uniqL l) fun a => (srtL_perm l).mem_iff.trans mem_uniqL.symm
/-- a loop whose turns make a list grow -/
theorem forS_grow {β : Type} {f : MV → Env' → Mem → SRes} {m : Mem} (en : β → MV) (g : β → List D) (B : Nat) (I : List D → Env' → Prop) : ∀ (l : List β) (A : List D) (r : Env'), I A r → A.length + (l.flatMap g).length ≤ B →
    (∀ x ∈ l, ∀ A r, I A r → A.length + (g x).length ≤ B → ∃ r', f (en x) r m = .nx r' m ∧ I (A ++ g x) r') → ∃ r', forS f (l.map en) r m = .nx r' m ∧ I (A ++ l.flatMap g) r'
  | [], A, r, h, _, _ => ⟨r, rfl, by simpa using h⟩
  | x :: l, A, r, h, hb, hf => by
    simp only [List.flatMap_cons, List.length_append] at hb
    obtain ⟨r1, e1, h1⟩ := hf x (by simp) A r h (by omega)
    obtain ⟨r2, e2, h2⟩ := forS_grow en g B I l (A ++ g x) r1 h1 (by simp only [List.length_append]; omega) fun y hy => hf y (by simp [hy])
    refine ⟨r2, by simp only [List.map_cons, forS, e1, e2], ?_⟩
    rw [List.flatMap_cons, ← List.append_assoc]
    exact h2
end Mp

set_option maxRecDepth 100000
set_option linter.all false
set_option Elab.async false
namespace L02
open Mp PySem PySem.Spec PyProof.Rows L2
def b40 : CSs := (.cons (.if_ (.not_ (.call 15 (.cons (.var 1) (.cons (.b1 .len (.idx (.var 0) (.ki 2))) .nil)))) (.cons (.raise "NoKind" (.tup (.cons (.ks "number") (.cons (.var 1) .nil)))) .nil) .nil) .nil)
def d40 : Def := ⟨"check_kind", ["book", "number"], ["book", "number"], b40⟩ -- check_kind
def b41 : CSs := (.cons (.for_ (.nm 2) (.dat (.var 1)) (.cons (.if_ (.not_ (.call 15 (.cons (.var 2) (.cons (.idx (.var 0) (.ki 0)) .nil)))) (.cons (.raise "NoValue" (.tup (.cons (.ks "number") (.cons (.var 2) .nil)))) .nil) .nil) .nil)) .nil)
def d41 : Def := ⟨"check_values", ["book", "values"], ["book", "values", "value"], b41⟩ -- check_values
def b42 : CSs := (.cons (.ret (.tup (.cons (.idx (.var 0) (.ki 0)) (.cons (.idx (.var 0) (.ki 1)) (.cons (.b1 .tup (.var 1)) .nil))))) .nil)
def d42 : Def := ⟨"with_kinds", ["book", "kinds"], ["book", "kinds"], b42⟩ -- with_kinds
def b43 : CSs := (.cons (.do_ (.call 40 (.cons (.var 0) (.cons (.var 1) .nil)))) (.cons (.asgT (.cons (.nm 2) (.cons (.nm 3) .nil)) (.idx (.idx (.var 0) (.ki 2)) (.var 1))) (.cons (.ret (.b1 .tup (.comp (.nm 4) (.rg1 (.var 2)) (.kb true) (.call 19 (.cons (.comp (.nm 5) (.dat (.var 3)) (.kb true) (.idx (.var 5) (.var 4)) [("row", 5)]) .nil)) [("spot", 4)]))) .nil)))
def d43 : Def := ⟨"columns", ["book", "number"], ["book", "number", "width", "rows", "spot", "row"], b43⟩ -- columns
def b44 : CSs := (.cons (.asgO 1 (.lst .nil)) (.cons (.for_ (.nm 2) (.rg1 (.idx (.var 0) (.ki 0))) (.cons (.if_ (.b1 .all (.comp (.tp (.cons (.nm 3) (.cons (.nm 4) .nil))) (.dat (.idx (.var 0) (.ki 2))) (.kb true) (.cmp .in_ (.bin .mul (.tup (.cons (.var 2) .nil)) (.var 3)) (.call 16 (.cons (.var 4) .nil))) [("width", 3), ("rows", 4)])) (.cons (.app 1 (.var 2)) .nil) .nil) .nil)) (.frz 1 (.cons (.ret (.b1 .tup (.var 1))) .nil))))
def d44 : Def := ⟨"constants", ["book"], ["book", "found", "value", "width", "rows"], b44⟩ -- constants
def b45 : CSs := (.cons (.if_ (.not_ (.idx (.var 0) (.ki 1))) (.cons (.ret (.call 16 (.cons (.var 0) .nil))) .nil) .nil) (.cons (.ret (.tup (.cons (.idx (.var 0) (.ki 0)) (.cons (.kb false) (.cons (.tup (.star (.idx (.call 16 (.cons (.var 0) .nil)) (.ki 2)) (.star (.comp (.nm 1) (.rg1 (.idx (.var 0) (.ki 0))) (.kb true) (.tup (.cons (.ki 1) (.cons (.tup (.cons (.tup (.cons (.var 1) .nil)) .nil)) .nil))) [("value", 1)]) .nil))) .nil))))) .nil))
def d45 : Def := ⟨"single_kinds", ["book"], ["book", "value"], b45⟩ -- single_kinds
def b46 : CSs := (.cons (.ret (.band (.cons (.call 18 (.cons (.var 1) (.cons (.idx (.var 0) (.ki 0)) .nil))) (.cons (.cmp .eq (.b1 .srt (.var 1)) (.b1 .lrg (.idx (.var 0) (.ki 0)))) .nil)))) .nil)
def d46 : Def := ⟨"is_turn", ["book", "thing"], ["book", "thing"], b46⟩ -- is_turn
def b47 : CSs := (.cons (.ret (.call 19 (.cons (.comp (.nm 2) (.dat (.var 0)) (.kb true) (.b1 .tup (.comp (.nm 3) (.dat (.var 2)) (.kb true) (.idx (.var 1) (.var 3)) [("value", 3)])) [("row", 2)]) .nil))) .nil)
def d47 : Def := ⟨"turned_rows", ["rows", "turn"], ["rows", "turn", "row", "value"], b47⟩ -- turned_rows
def b48 : CSs := (.cons (.ret (.call 42 (.cons (.var 0) (.cons (.comp (.tp (.cons (.nm 2) (.cons (.nm 3) .nil))) (.dat (.idx (.var 0) (.ki 2))) (.kb true) (.tup (.cons (.var 2) (.cons (.call 47 (.cons (.var 3) (.cons (.var 1) .nil))) .nil))) [("width", 2), ("rows", 3)]) .nil)))) .nil)
def d48 : Def := ⟨"turned", ["book", "turn"], ["book", "turn", "width", "rows"], b48⟩ -- turned
def b49 : CSs := (.cons (.if_ (.bor (.cons (.cmp .ne (.idx (.var 0) (.ki 0)) (.idx (.var 1) (.ki 0))) (.cons (.cmp .ne (.idx (.var 0) (.ki 1)) (.idx (.var 1) (.ki 1))) .nil))) (.cons (.ret (.lst .nil)) .nil) .nil) (.cons (.asg 2 (.comp (.nm 3) (.dat (.call 23 (.cons (.idx (.var 0) (.ki 0)) (.cons (.idx (.var 0) (.ki 0)) .nil)))) (.call 46 (.cons (.var 0) (.cons (.var 3) .nil))) (.var 3) [("turn", 3)])) (.cons (.ret (.comp (.nm 3) (.dat (.var 2)) (.cmp .eq (.call 48 (.cons (.var 0) (.cons (.var 3) .nil))) (.call 16 (.cons (.var 1) .nil))) (.var 3) [("turn", 3)])) .nil)))
def d49 : Def := ⟨"turns_into", ["book", "other"], ["book", "other", "every", "turn"], b49⟩ -- turns_into
def b50 : CSs := (.cons (.ret (.call 49 (.cons (.var 0) (.cons (.var 0) .nil)))) .nil)
def d50 : Def := ⟨"turns_of", ["book"], ["book"], b50⟩ -- turns_of
def b51 : CSs := (.cons (.for_ (.nm 3) (.dat (.var 0)) (.cons (.for_ (.tp (.cons (.nm 4) (.cons (.nm 5) .nil))) (.enum (.var 3)) (.cons (.if_ (.band (.cons (.cmp .eq (.var 5) (.var 1)) (.cons (.cmp .nin (.tup (.star (.slc (.var 3) .no (.var 4)) (.cons (.var 2) (.star (.slc (.var 3) (.bin .add (.var 4) (.ki 1)) .no) .nil)))) (.var 0)) .nil))) (.cons (.ret (.kb false)) .nil) .nil) .nil)) .nil)) (.cons (.ret (.kb true)) .nil))
def d51 : Def := ⟨"can_stand_for", ["rows", "one", "other"], ["rows", "one", "other", "row", "spot", "value"], b51⟩ -- can_stand_for
def b52 : CSs := (.cons (.par [1, 2] [false, true] (.cons (.comp (.tp (.cons (.nm 5) (.cons (.nm 6) .nil))) (.dat (.idx (.call 16 (.cons (.var 0) .nil)) (.ki 2))) (.kb true) (.var 6) [("width", 5), ("rows", 6)]) (.cons (.lst .nil) .nil))) (.cons (.for_ (.nm 3) (.rg1 (.idx (.var 0) (.ki 0))) (.cons (.for_ (.nm 4) (.rg2 (.bin .add (.var 3) (.ki 1)) (.idx (.var 0) (.ki 0))) (.cons (.if_ (.b1 .all (.comp (.nm 6) (.dat (.var 1)) (.kb true) (.band (.cons (.call 51 (.cons (.var 6) (.cons (.var 3) (.cons (.var 4) .nil)))) (.cons (.call 51 (.cons (.var 6) (.cons (.var 4) (.cons (.var 3) .nil)))) .nil))) [("rows", 6)])) (.cons (.app 2 (.tup (.cons (.var 3) (.cons (.var 4) .nil)))) .nil) .nil) .nil)) .nil)) (.frz 2 (.cons (.ret (.b1 .tup (.var 2))) .nil))))
def d52 : Def := ⟨"alike_values", ["book"], ["book", "kinds", "found", "one", "other", "width", "rows"], b52⟩ -- alike_values
def b53 : CSs := (.cons (.do_ (.call 41 (.cons (.var 0) (.cons (.var 1) .nil)))) (.cons (.asg 2 (.comp (.nm 7) (.rg1 (.idx (.var 0) (.ki 0))) (.cmp .nin (.var 7) (.var 1)) (.var 7) [("value", 7)])) (.cons (.if_ (.cmp .eq (.b1 .len (.var 2)) (.ki 0)) (.cons (.raise "Unfit" .no) .nil) .nil) (.cons (.asgO 3 (.lst .nil)) (.cons (.for_ (.tp (.cons (.nm 4) (.cons (.nm 5) .nil))) (.dat (.idx (.call 16 (.cons (.var 0) .nil)) (.ki 2))) (.cons (.asg 6 (.comp (.nm 8) (.dat (.var 5)) (.b1 .all (.comp (.nm 7) (.dat (.var 8)) (.kb true) (.cmp .in_ (.var 7) (.var 2)) [("value", 7)])) (.var 8) [("row", 8)])) (.cons (.app 3 (.tup (.cons (.var 4) (.cons (.call 19 (.cons (.comp (.nm 8) (.dat (.var 6)) (.kb true) (.b1 .tup (.comp (.nm 7) (.dat (.var 8)) (.kb true) (.index (.var 2) (.var 7)) [("value", 7)])) [("row", 8)]) .nil)) .nil)))) .nil))) (.frz 3 (.cons (.ret (.tup (.cons (.b1 .len (.var 2)) (.cons (.idx (.var 0) (.ki 1)) (.cons (.b1 .tup (.var 3)) .nil))))) .nil)))))))
def d53 : Def := ⟨"without_values", ["book", "values"], ["book", "values", "left", "kinds", "width", "rows", "fine", "value", "row"], b53⟩ -- without_values
def b54 : CSs := (.cons (.par [3, 4] [false, false] (.cons .kn (.cons .kn .nil))) (.cons (.tryN (.cons (.if_ (.cmp .isN (.var 2) .kn) (.cons (.asg 4 (.callk 43 .nil (.cons (.var 1) (.cons (.var 0) .nil)) [1, 0])) .nil) (.cons (.asg 4 (.callk 53 .nil (.cons (.var 2) (.cons (.var 0) .nil)) [1, 0])) .nil)) .nil) [⟨"NoKind", 5, (some 3), [.str "kind", .num "number", .isl]⟩, ⟨"NoValue", 5, (some 3), [.str "value", .num "number", .isl]⟩, ⟨"Unfit", 5, (some 3), [.str "unfit", .isv]⟩] ["NoKind", "NoValue", "Unfit"]) (.cons (.ret (.ite (.cmp .isN (.var 3) .kn) (.var 4) (.var 3))) .nil)))
def d54 : Def := ⟨"_law_heard", ["_law_book_so", "_law_number_so", "_law_values_so"], ["_law_book_so", "_law_number_so", "_law_values_so", "_law_caught", "_law_found", "error_so"], b54⟩ -- _law_heard
def b55 : CSs := (.cons (.asgO 2 (.lst .nil)) (.cons (.for_ (.tp (.cons (.nm 3) (.cons (.nm 4) .nil))) (.dat (.idx (.var 0) (.ki 2))) (.cons (.app 2 (.tup (.cons (.var 3) (.cons (.b1 .tup (.b1 .srt (.comp (.nm 5) (.dat (.var 4)) (.kb true) (.b1 .tup (.comp (.nm 6) (.dat (.var 5)) (.kb true) (.idx (.var 1) (.var 6)) [("_law_bit", 6)])) [("_law_own", 5)]))) .nil)))) .nil)) (.frz 2 (.cons (.ret (.tup (.cons (.idx (.var 0) (.ki 0)) (.cons (.idx (.var 0) (.ki 1)) (.cons (.b1 .tup (.var 2)) .nil))))) .nil))))
def d55 : Def := ⟨"_law_turned", ["_law_book_so", "_law_turn_so"], ["_law_book_so", "_law_turn_so", "_law_kinds_so", "_law_width_so", "_law_rows_so", "_law_own", "_law_bit"], b55⟩ -- _law_turned
def b56 : CSs := (.cons (.if_ (.cmp .ne (.idx (.var 0) (.ki 0)) (.idx (.var 1) (.ki 0))) (.cons (.ret (.lst .nil)) .nil) .nil) (.cons (.asg 2 (.comp (.nm 3) (.dat (.call 7 (.cons (.idx (.var 0) (.ki 0)) (.cons (.idx (.var 0) (.ki 0)) .nil)))) (.cmp .eq (.b1 .len (.b1 .sset (.var 3))) (.b1 .len (.var 3))) (.var 3) [("_law_own", 3)])) (.cons (.ret (.comp (.nm 3) (.dat (.var 2)) (.cmp .eq (.call 55 (.cons (.var 0) (.cons (.var 3) .nil))) (.var 1)) (.var 3) [("_law_own", 3)])) .nil)))
def d56 : Def := ⟨"_law_turns", ["_law_book_so", "_law_other_so"], ["_law_book_so", "_law_other_so", "_law_every_so", "_law_own"], b56⟩ -- _law_turns
def b57 : CSs := (.cons (.asg 2 (.comp (.nm 8) (.dat (.var 1)) (.not_ (.chain .le .lt (.ki 0) (.var 8) (.idx (.var 0) (.ki 0)))) (.var 8) [("_law_own", 8)])) (.cons (.if_ (.cmp .ne (.var 2) (.lst .nil)) (.cons (.ret (.lst (.cons (.ks "value") (.cons (.idx (.var 2) (.ki 0)) (.cons (.kb true) .nil))))) .nil) .nil) (.cons (.asg 3 (.comp (.nm 8) (.rg1 (.idx (.var 0) (.ki 0))) (.cmp .nin (.var 8) (.var 1)) (.var 8) [("_law_own", 8)])) (.cons (.if_ (.cmp .eq (.var 3) (.lst .nil)) (.cons (.ret (.lst (.cons (.ks "unfit") (.cons (.kb true) .nil)))) .nil) .nil) (.cons (.asgO 4 (.lst .nil)) (.cons (.for_ (.tp (.cons (.nm 5) (.cons (.nm 6) .nil))) (.dat (.idx (.var 0) (.ki 2))) (.cons (.asg 7 (.comp (.nm 8) (.dat (.var 6)) (.cmp .eq (.comp (.nm 9) (.dat (.var 8)) (.cmp .in_ (.var 9) (.var 1)) (.var 9) [("_law_bit", 9)]) (.lst .nil)) (.var 8) [("_law_own", 8)])) (.cons (.app 4 (.tup (.cons (.var 5) (.cons (.b1 .tup (.b1 .srt (.comp (.nm 8) (.dat (.var 7)) (.kb true) (.b1 .tup (.comp (.nm 9) (.dat (.var 8)) (.kb true) (.index (.var 3) (.var 9)) [("_law_bit", 9)])) [("_law_own", 8)]))) .nil)))) .nil))) (.frz 4 (.cons (.ret (.tup (.cons (.b1 .len (.var 3)) (.cons (.idx (.var 0) (.ki 1)) (.cons (.b1 .tup (.var 4)) .nil))))) .nil))))))))
def d57 : Def := ⟨"_law_without", ["_law_book_so", "_law_values_so"], ["_law_book_so", "_law_values_so", "_law_strange_so", "_law_left_so", "_law_kinds_so", "_law_width_so", "_law_rows_so", "_law_fine", "_law_own", "_law_bit"], b57⟩ -- _law_without
def b58 : CSs := (.cons (.for_ (.tp (.cons (.nm 3) (.cons (.nm 4) .nil))) (.dat (.idx (.var 0) (.ki 2))) (.cons (.for_ (.nm 5) (.dat (.var 4)) (.cons (.for_ (.nm 6) (.rg1 (.var 3)) (.cons (.if_ (.cmp .in_ (.idx (.var 5) (.var 6)) (.tup (.cons (.var 1) (.cons (.var 2) .nil)))) (.cons (.asg 7 (.tup (.cons (.bin .sub (.bin .add (.var 1) (.var 2)) (.idx (.var 5) (.var 6))) .nil))) (.cons (.if_ (.cmp .nin (.bin .add (.bin .add (.slc (.var 5) .no (.var 6)) (.var 7)) (.slc (.var 5) (.bin .add (.var 6) (.ki 1)) .no)) (.var 4)) (.cons (.ret (.kb false)) .nil) .nil) .nil)) .nil) .nil)) .nil)) .nil)) (.cons (.ret (.kb true)) .nil))
def d58 : Def := ⟨"_law_swapped", ["_law_book_so", "_law_one_so", "_law_two_so"], ["_law_book_so", "_law_one_so", "_law_two_so", "_law_width_so", "_law_rows_so", "_law_own", "_law_k", "_law_mate_so"], b58⟩ -- _law_swapped
def b59 : CSs := (.cons (.asgT (.cons (.nm 3) (.cons (.nm 4) (.cons (.nm 5) .nil))) (.var 0)) (.cons (.par [6, 7] [false, true] (.cons (.call 4 (.cons (.var 0) .nil)) (.cons (.lst .nil) .nil))) (.cons (.for_ (.tp (.cons (.nm 8) (.cons (.nm 9) .nil))) (.dat (.var 5)) (.cons (.app 7 (.b1 .tup (.comp (.nm 14) (.rg1 (.var 8)) (.kb true) (.b1 .tup (.b1 .sset (.comp (.nm 16) (.dat (.var 9)) (.kb true) (.idx (.var 16) (.var 14)) [("_law_own", 16)]))) [("_law_k", 14)]))) .nil)) (.cons (.asg 10 (.bin .add (.comp (.nm 14) (.rg1 (.b1 .len (.var 5))) (.kb true) (.call 54 (.cons (.var 0) (.cons (.var 14) (.cons .kn .nil)))) [("_law_k", 14)]) (.lst (.cons (.call 54 (.cons (.var 6) (.cons (.b1 .len (.var 5)) (.cons .kn .nil)))) .nil)))) (.frz 7 (.cons (.if_ (.not_ (.call 3 (.cons (.var 10) (.cons (.bin .add (.var 7) (.lst (.cons (.lst (.cons (.ks "kind") (.cons (.b1 .len (.var 5)) (.cons (.kb true) .nil)))) .nil))) .nil)))) (.cons (.ret (.kb false)) .nil) .nil) (.cons (.asg 11 (.comp (.nm 17) (.rg1 (.var 3)) (.cmp .eq (.comp (.nm 16) (.dat (.var 5)) (.cmp .nin (.bin .mul (.tup (.cons (.var 17) .nil)) (.idx (.var 16) (.ki 0))) (.idx (.var 16) (.ki 1))) (.var 16) [("_law_own", 16)]) (.lst .nil)) (.var 17) [("_law_v", 17)])) (.cons (.asg 12 (.tup (.cons (.var 3) (.cons (.kb false) (.cons (.ite (.var 4) (.bin .add (.var 5) (.b1 .tup (.comp (.nm 17) (.rg1 (.var 3)) (.kb true) (.tup (.cons (.ki 1) (.cons (.tup (.cons (.tup (.cons (.var 17) .nil)) .nil)) .nil))) [("_law_v", 17)]))) (.var 5)) .nil))))) (.cons (.asg 10 (.lst (.cons (.callk 44 .nil (.cons (.var 6) .nil) [0]) (.cons (.callk 45 .nil (.cons (.var 6) .nil) [0]) (.cons (.callk 48 .nil (.cons (.var 1) (.cons (.var 6) .nil)) [1, 0]) (.cons (.call 54 (.cons (.var 6) (.cons (.ki 0) (.cons (.var 2) .nil)))) .nil)))))) (.cons (.if_ (.not_ (.call 3 (.cons (.var 10) (.cons (.lst (.cons (.b1 .tup (.var 11)) (.cons (.var 12) (.cons (.call 55 (.cons (.var 0) (.cons (.var 1) .nil))) (.cons (.call 57 (.cons (.var 0) (.cons (.var 2) .nil))) .nil))))) .nil)))) (.cons (.ret (.kb false)) .nil) .nil) (.cons (.asg 13 (.lst .nil)) (.cons (.for_ (.nm 14) (.rg1 (.var 3)) (.cons (.asg 13 (.bin .add (.var 13) (.comp (.nm 18) (.rg2 (.bin .add (.var 14) (.ki 1)) (.var 3)) (.call 58 (.cons (.var 0) (.cons (.var 14) (.cons (.var 18) .nil)))) (.tup (.cons (.var 14) (.cons (.var 18) .nil))) [("_law_far", 18)]))) .nil)) (.cons (.asg 15 (.call 55 (.cons (.var 0) (.cons (.var 1) .nil)))) (.cons (.asg 10 (.lst (.cons (.callk 52 .nil (.cons (.var 6) .nil) [0]) (.cons (.callk 50 .nil (.cons (.var 6) .nil) [0]) (.cons (.callk 49 .nil (.cons (.call 4 (.cons (.var 15) .nil)) (.cons (.var 6) .nil)) [1, 0]) .nil))))) (.cons (.asg 10 (.bin .add (.var 10) (.lst (.cons (.call 49 (.cons (.var 0) (.cons (.tup (.cons (.bin .sub (.ki 5) (.var 3)) (.cons (.var 4) (.cons (.tup .nil) .nil)))) .nil))) (.cons (.call 49 (.cons (.var 0) (.cons (.tup (.cons (.var 3) (.cons (.not_ (.var 4)) (.cons (.var 5) .nil)))) .nil))) .nil))))) (.cons (.ret (.call 3 (.cons (.var 10) (.cons (.lst (.cons (.b1 .tup (.var 13)) (.cons (.call 56 (.cons (.var 0) (.cons (.var 0) .nil))) (.cons (.call 56 (.cons (.var 0) (.cons (.var 15) .nil))) (.cons (.lst .nil) (.cons (.lst .nil) .nil)))))) .nil)))) .nil))))))))))))))))
def d59 : Def := ⟨"_law_case_right", ["_law_book_so", "_law_turn_so", "_law_values_so"], ["_law_book_so", "_law_turn_so", "_law_values_so", "_law_many_so", "_law_telling_so", "_law_kinds_so", "_law_soft_so", "_law_due_so", "_law_width_so", "_law_rows_so", "_law_got", "_law_fine", "_law_single_so", "_law_pairs_so", "_law_k", "_law_other_so", "_law_own", "_law_v", "_law_far"], b59⟩ -- _law_case_right
def b60 : CSs := (.cons (.asg 0 (.tup (.cons (.ki 3) (.cons (.kb false) (.cons (.tup (.cons (.tup (.cons (.ki 2) (.cons (.tup (.cons (.tup (.cons (.ki 0) (.cons (.ki 1) .nil))) (.cons (.tup (.cons (.ki 0) (.cons (.ki 2) .nil))) (.cons (.tup (.cons (.ki 1) (.cons (.ki 0) .nil))) (.cons (.tup (.cons (.ki 1) (.cons (.ki 2) .nil))) (.cons (.tup (.cons (.ki 2) (.cons (.ki 0) .nil))) (.cons (.tup (.cons (.ki 2) (.cons (.ki 1) .nil))) .nil))))))) .nil))) .nil)) .nil))))) (.cons (.asg 1 (.tup (.cons (.ki 2) (.cons (.kb true) (.cons (.tup (.cons (.tup (.cons (.ki 2) (.cons (.tup (.cons (.tup (.cons (.ki 0) (.cons (.ki 0) .nil))) (.cons (.tup (.cons (.ki 0) (.cons (.ki 1) .nil))) (.cons (.tup (.cons (.ki 1) (.cons (.ki 1) .nil))) .nil)))) .nil))) (.cons (.tup (.cons (.ki 1) (.cons (.tup (.cons (.tup (.cons (.ki 1) .nil)) .nil)) .nil))) .nil))) .nil))))) (.cons (.par [2, 3] [false, false] (.cons (.tup (.cons (.ki 3) (.cons (.kb false) (.cons (.tup (.cons (.tup (.cons (.ki 2) (.cons (.tup (.cons (.tup (.cons (.ki 0) (.cons (.ki 1) .nil))) (.cons (.tup (.cons (.ki 1) (.cons (.ki 2) .nil))) (.cons (.tup (.cons (.ki 2) (.cons (.ki 0) .nil))) .nil)))) .nil))) .nil)) .nil)))) (.cons (.tup (.cons (.ki 3) (.cons (.kb false) (.cons (.tup (.cons (.tup (.cons (.ki 1) (.cons (.tup (.cons (.tup (.cons (.ki 0) .nil)) (.cons (.tup (.cons (.ki 2) .nil)) .nil))) .nil))) .nil)) .nil)))) .nil))) (.cons (.asgO 4 (.lst (.cons (.call 54 (.cons (.var 1) (.cons (.ki 0) (.cons .kn .nil)))) (.cons (.call 54 (.cons (.var 1) (.cons (.ki 1) (.cons .kn .nil)))) (.cons (.call 44 (.cons (.var 1) .nil)) (.cons (.call 44 (.cons (.var 0) .nil)) (.cons (.call 44 (.cons (.tup (.cons (.ki 2) (.cons (.kb true) (.cons (.tup .nil) .nil)))) .nil)) .nil))))))) (.cons (.asg 5 (.lst (.cons (.tup (.cons (.tup (.cons (.ki 0) (.cons (.ki 1) .nil))) (.cons (.tup (.cons (.ki 0) (.cons (.ki 1) .nil))) .nil))) (.cons (.tup (.cons (.tup (.cons (.ki 1) .nil)) .nil)) (.cons (.tup (.cons (.ki 1) .nil)) (.cons (.tup .nil) (.cons (.tup (.cons (.ki 0) (.cons (.ki 1) .nil))) .nil))))))) (.frz 4 (.cons (.asgO 4 (.bin .add (.var 4) (.lst (.cons (.call 45 (.cons (.var 1) .nil)) (.cons (.call 45 (.cons (.var 2) .nil)) (.cons (.call 48 (.cons (.var 1) (.cons (.tup (.cons (.ki 1) (.cons (.ki 0) .nil))) .nil))) (.cons (.call 48 (.cons (.var 2) (.cons (.tup (.cons (.ki 1) (.cons (.ki 2) (.cons (.ki 0) .nil)))) .nil))) .nil))))))) (.cons (.asg 5 (.bin .add (.var 5) (.lst (.cons (.tup (.cons (.ki 2) (.cons (.kb false) (.cons (.bin .add (.idx (.var 1) (.ki 2)) (.tup (.cons (.tup (.cons (.ki 1) (.cons (.tup (.cons (.tup (.cons (.ki 0) .nil)) .nil)) .nil))) (.cons (.tup (.cons (.ki 1) (.cons (.tup (.cons (.tup (.cons (.ki 1) .nil)) .nil)) .nil))) .nil)))) .nil)))) (.cons (.var 2) .nil))))) (.cons (.asg 5 (.bin .add (.var 5) (.lst (.cons (.tup (.cons (.ki 2) (.cons (.kb true) (.cons (.tup (.cons (.tup (.cons (.ki 2) (.cons (.tup (.cons (.tup (.cons (.ki 0) (.cons (.ki 0) .nil))) (.cons (.tup (.cons (.ki 1) (.cons (.ki 0) .nil))) (.cons (.tup (.cons (.ki 1) (.cons (.ki 1) .nil))) .nil)))) .nil))) (.cons (.tup (.cons (.ki 1) (.cons (.tup (.cons (.tup (.cons (.ki 0) .nil)) .nil)) .nil))) .nil))) .nil)))) (.cons (.var 2) .nil))))) (.frz 4 (.cons (.asgO 4 (.bin .add (.var 4) (.lst (.cons (.call 50 (.cons (.var 1) .nil)) (.cons (.call 50 (.cons (.var 2) .nil)) (.cons (.b1 .len (.call 50 (.cons (.var 0) .nil))) (.cons (.call 49 (.cons (.var 1) (.cons (.call 48 (.cons (.var 1) (.cons (.tup (.cons (.ki 1) (.cons (.ki 0) .nil))) .nil))) .nil))) .nil))))))) (.cons (.asg 5 (.bin .add (.var 5) (.lst (.cons (.lst (.cons (.tup (.cons (.ki 0) (.cons (.ki 1) .nil))) .nil)) (.cons (.lst (.cons (.tup (.cons (.ki 0) (.cons (.ki 1) (.cons (.ki 2) .nil)))) (.cons (.tup (.cons (.ki 1) (.cons (.ki 2) (.cons (.ki 0) .nil)))) (.cons (.tup (.cons (.ki 2) (.cons (.ki 0) (.cons (.ki 1) .nil)))) .nil)))) (.cons (.ki 6) (.cons (.lst (.cons (.tup (.cons (.ki 1) (.cons (.ki 0) .nil))) .nil)) .nil))))))) (.frz 4 (.cons (.asgO 4 (.bin .add (.var 4) (.lst (.cons (.call 52 (.cons (.var 3) .nil)) (.cons (.call 52 (.cons (.var 0) .nil)) (.cons (.call 52 (.cons (.tup (.cons (.ki 3) (.cons (.kb false) (.cons (.tup .nil) .nil)))) .nil)) (.cons (.call 52 (.cons (.tup (.cons (.ki 2) (.cons (.kb true) (.cons (.tup (.cons (.tup (.cons (.ki 1) (.cons (.tup .nil) .nil))) .nil)) .nil)))) .nil)) .nil))))))) (.cons (.asg 5 (.bin .add (.var 5) (.lst (.cons (.tup (.cons (.tup (.cons (.ki 0) (.cons (.ki 2) .nil))) .nil)) (.cons (.tup .nil) (.cons (.tup (.cons (.tup (.cons (.ki 0) (.cons (.ki 1) .nil))) (.cons (.tup (.cons (.ki 0) (.cons (.ki 2) .nil))) (.cons (.tup (.cons (.ki 1) (.cons (.ki 2) .nil))) .nil)))) (.cons (.tup (.cons (.tup (.cons (.ki 0) (.cons (.ki 1) .nil))) .nil)) .nil))))))) (.frz 4 (.cons (.asgO 4 (.bin .add (.var 4) (.lst (.cons (.call 54 (.cons (.var 0) (.cons (.ki 0) (.cons (.tup (.cons (.ki 1) .nil)) .nil)))) (.cons (.call 54 (.cons (.var 1) (.cons (.ki 0) (.cons (.tup .nil) .nil)))) (.cons (.call 54 (.cons (.var 1) (.cons (.ki 0) (.cons (.tup (.cons (.ki 0) .nil)) .nil)))) (.cons (.call 54 (.cons (.var 1) (.cons (.ki 0) (.cons (.tup (.cons (.ki 0) (.cons (.ki 1) .nil))) .nil)))) .nil))))))) (.cons (.asg 5 (.bin .add (.var 5) (.lst (.cons (.tup (.cons (.ki 2) (.cons (.kb false) (.cons (.tup (.cons (.tup (.cons (.ki 2) (.cons (.tup (.cons (.tup (.cons (.ki 0) (.cons (.ki 1) .nil))) (.cons (.tup (.cons (.ki 1) (.cons (.ki 0) .nil))) .nil))) .nil))) .nil)) .nil)))) (.cons (.var 1) (.cons (.tup (.cons (.ki 1) (.cons (.kb true) (.cons (.tup (.cons (.tup (.cons (.ki 2) (.cons (.tup (.cons (.tup (.cons (.ki 0) (.cons (.ki 0) .nil))) .nil)) .nil))) (.cons (.tup (.cons (.ki 1) (.cons (.tup (.cons (.tup (.cons (.ki 0) .nil)) .nil)) .nil))) .nil))) .nil)))) (.cons (.lst (.cons (.ks "unfit") (.cons (.kb true) .nil))) .nil))))))) (.frz 4 (.cons (.asgO 4 (.bin .add (.var 4) (.lst (.cons (.call 54 (.cons (.var 1) (.cons (.ki 0) (.cons (.tup (.cons (.ki 1) (.cons (.ki 2) .nil))) .nil)))) (.cons (.call 54 (.cons (.var 1) (.cons (.ki 0) (.cons (.tup (.cons (.neg (.ki 1)) (.cons (.ki 5) .nil))) .nil)))) (.cons (.call 54 (.cons (.var 1) (.cons (.ki 2) (.cons .kn .nil)))) (.cons (.call 54 (.cons (.var 1) (.cons (.neg (.ki 1)) (.cons .kn .nil)))) .nil))))))) (.cons (.asg 5 (.bin .add (.var 5) (.lst (.cons (.lst (.cons (.ks "value") (.cons (.ki 2) (.cons (.kb true) .nil)))) (.cons (.lst (.cons (.ks "value") (.cons (.neg (.ki 1)) (.cons (.kb true) .nil)))) (.cons (.lst (.cons (.ks "kind") (.cons (.ki 2) (.cons (.kb true) .nil)))) (.cons (.lst (.cons (.ks "kind") (.cons (.neg (.ki 1)) (.cons (.kb true) .nil)))) .nil))))))) (.cons (.asgO 6 (.call 64 (.cons (.var 2) .nil))) (.cons (.app 6 (.ks "more")) (.cons (.app 4 (.call 50 (.cons (.var 2) .nil))) (.frz 4 (.cons (.if_ (.not_ (.call 3 (.cons (.var 4) (.cons (.bin .add (.var 5) (.lst (.cons (.lst (.cons (.tup (.cons (.ki 0) (.cons (.ki 1) (.cons (.ki 2) .nil)))) (.cons (.tup (.cons (.ki 1) (.cons (.ki 2) (.cons (.ki 0) .nil)))) (.cons (.tup (.cons (.ki 2) (.cons (.ki 0) (.cons (.ki 1) .nil)))) .nil)))) .nil))) .nil)))) (.cons (.ret (.kb false)) .nil) .nil) (.cons (.if_ (.not_ (.call 61 .nil)) (.cons (.ret (.kb false)) .nil) .nil) (.cons (.ret (.band (.cons (.call 59 (.cons (.var 1) (.cons (.tup (.cons (.ki 1) (.cons (.ki 0) .nil))) (.cons (.tup (.cons (.ki 0) .nil)) .nil)))) (.cons (.call 59 (.cons (.var 2) (.cons (.tup (.cons (.ki 0) (.cons (.ki 2) (.cons (.ki 1) .nil)))) (.cons (.tup (.cons (.ki 1) (.cons (.ki 2) .nil))) .nil)))) .nil)))) .nil))))))))))))))))))))))))))))
def d60 : Def := ⟨"_law_by_hand_right", [], ["_law_unlike_so", "_law_small_so", "_law_ring_so", "_law_pair_so", "_law_got", "_law_due_so", "_law_new_so"], b60⟩ -- _law_by_hand_right
def b61 : CSs := (.cons (.par [0, 1, 2] [false, false, false] (.cons (.tup (.cons (.ki 2) (.cons (.kb false) (.cons (.tup .nil) .nil)))) (.cons (.tup (.cons (.ki 2) (.cons (.kb false) (.cons (.tup (.cons (.tup (.cons (.ki 1) (.cons (.tup (.cons (.tup (.cons (.ki 0) .nil)) .nil)) .nil))) .nil)) .nil)))) (.cons (.tup (.cons (.ki 2) (.cons (.kb false) (.cons (.tup (.cons (.tup (.cons (.ki 1) (.cons (.tup (.cons (.tup (.cons (.ki 0) .nil)) (.cons (.tup (.cons (.ki 1) .nil)) .nil))) .nil))) .nil)) .nil)))) .nil)))) (.cons (.asg 3 (.lst (.cons (.call 49 (.cons (.var 0) (.cons (.var 1) .nil))) (.cons (.call 49 (.cons (.var 1) (.cons (.var 0) .nil))) (.cons (.call 49 (.cons (.tup (.cons (.ki 2) (.cons (.kb false) (.cons (.tup (.cons (.tup (.cons (.ki 1) (.cons (.tup .nil) .nil))) .nil)) .nil)))) (.cons (.tup (.cons (.ki 2) (.cons (.kb false) (.cons (.tup (.cons (.tup (.cons (.ki 2) (.cons (.tup .nil) .nil))) .nil)) .nil)))) .nil))) .nil))))) (.cons (.asg 3 (.bin .add (.var 3) (.lst (.cons (.call 50 (.cons (.tup (.cons (.ki 3) (.cons (.kb false) (.cons (.tup .nil) .nil)))) .nil)) (.cons (.call 50 (.cons (.tup (.cons (.ki 1) (.cons (.kb true) (.cons (.tup .nil) .nil)))) .nil)) (.cons (.call 48 (.cons (.tup (.cons (.ki 1) (.cons (.kb true) (.cons (.tup (.cons (.tup (.cons (.ki 1) (.cons (.tup (.cons (.tup (.cons (.ki 0) .nil)) .nil)) .nil))) .nil)) .nil)))) (.cons (.lst (.cons (.ki 0) .nil)) .nil))) .nil)))))) (.cons (.asg 4 (.lst (.cons (.lst .nil) (.cons (.lst .nil) (.cons (.lst .nil) (.cons (.comp (.nm 6) (.dat (.call 7 (.cons (.ki 3) (.cons (.ki 3) .nil)))) (.cmp .eq (.b1 .len (.b1 .sset (.var 6))) (.ki 3)) (.var 6) [("_law_own", 6)]) (.cons (.lst (.cons (.tup (.cons (.ki 0) .nil)) .nil)) (.cons (.tup (.cons (.ki 1) (.cons (.kb true) (.cons (.tup (.cons (.tup (.cons (.ki 1) (.cons (.tup (.cons (.tup (.cons (.ki 0) .nil)) .nil)) .nil))) .nil)) .nil)))) .nil)))))))) (.cons (.asg 3 (.bin .add (.var 3) (.lst (.cons (.call 54 (.cons (.var 2) (.cons (.ki 0) (.cons (.tup (.cons (.ki 1) (.cons (.ki 1) .nil))) .nil)))) (.cons (.call 54 (.cons (.tup (.cons (.ki 3) (.cons (.kb false) (.cons (.tup .nil) .nil)))) (.cons (.ki 0) (.cons (.tup (.cons (.ki 2) (.cons (.ki 0) .nil))) .nil)))) (.cons (.call 54 (.cons (.var 0) (.cons (.ki 0) (.cons (.tup (.cons (.ki 5) (.cons (.neg (.ki 1)) .nil))) .nil)))) (.cons (.call 54 (.cons (.var 2) (.cons (.ki 0) (.cons (.lst (.cons (.ki 0) .nil)) .nil)))) .nil))))))) (.cons (.asg 4 (.bin .add (.var 4) (.lst (.cons (.tup (.cons (.ki 1) (.cons (.kb false) (.cons (.tup (.cons (.tup (.cons (.ki 1) (.cons (.tup (.cons (.tup (.cons (.ki 0) .nil)) .nil)) .nil))) .nil)) .nil)))) (.cons (.tup (.cons (.ki 1) (.cons (.kb false) (.cons (.tup .nil) .nil)))) (.cons (.lst (.cons (.ks "value") (.cons (.ki 5) (.cons (.kb true) .nil)))) (.cons (.tup (.cons (.ki 1) (.cons (.kb false) (.cons (.tup (.cons (.tup (.cons (.ki 1) (.cons (.tup (.cons (.tup (.cons (.ki 0) .nil)) .nil)) .nil))) .nil)) .nil)))) .nil))))))) (.cons (.asg 3 (.bin .add (.var 3) (.lst (.cons (.call 54 (.cons (.tup (.cons (.ki 1) (.cons (.kb true) (.cons (.tup .nil) .nil)))) (.cons (.ki 0) (.cons (.tup (.cons (.ki 0) .nil)) .nil)))) (.cons (.call 44 (.cons (.tup (.cons (.ki 2) (.cons (.kb false) (.cons (.tup (.cons (.tup (.cons (.ki 1) (.cons (.tup (.cons (.lst (.cons (.ki 0) .nil)) .nil)) .nil))) .nil)) .nil)))) .nil)) (.cons (.call 48 (.cons (.tup (.cons (.ki 2) (.cons (.kb false) (.cons (.tup (.cons (.tup (.cons (.ki 1) (.cons (.tup (.cons (.lst (.cons (.ki 0) .nil)) .nil)) .nil))) .nil)) .nil)))) (.cons (.lst (.cons (.ki 1) (.cons (.ki 0) .nil))) .nil))) .nil)))))) (.cons (.asg 4 (.bin .add (.var 4) (.lst (.cons (.lst (.cons (.ks "unfit") (.cons (.kb true) .nil))) (.cons (.tup (.cons (.ki 0) .nil)) (.cons (.tup (.cons (.ki 2) (.cons (.kb false) (.cons (.tup (.cons (.tup (.cons (.ki 1) (.cons (.tup (.cons (.tup (.cons (.ki 1) .nil)) .nil)) .nil))) .nil)) .nil)))) .nil)))))) (.cons (.asg 3 (.bin .add (.var 3) (.lst (.cons (.call 54 (.cons (.lst (.cons (.ki 2) (.cons (.kb false) (.cons (.lst (.cons (.lst (.cons (.ki 1) (.cons (.lst (.cons (.lst (.cons (.ki 0) .nil)) .nil)) .nil))) .nil)) .nil)))) (.cons (.ki 0) (.cons .kn .nil)))) (.cons (.call 45 (.cons (.tup (.cons (.ki 2) (.cons (.kb true) (.cons (.lst .nil) .nil)))) .nil)) (.cons (.call 52 (.cons (.tup (.cons (.ki 2) (.cons (.kb true) (.cons (.tup (.cons (.tup (.cons (.ki 1) (.cons (.lst (.cons (.lst (.cons (.ki 0) .nil)) (.cons (.lst (.cons (.ki 1) .nil)) .nil))) .nil))) .nil)) .nil)))) .nil)) .nil)))))) (.cons (.asg 4 (.bin .add (.var 4) (.lst (.cons (.tup (.cons (.tup (.cons (.ki 0) .nil)) .nil)) (.cons (.tup (.cons (.ki 2) (.cons (.kb false) (.cons (.tup (.cons (.tup (.cons (.ki 1) (.cons (.tup (.cons (.tup (.cons (.ki 0) .nil)) .nil)) .nil))) (.cons (.tup (.cons (.ki 1) (.cons (.tup (.cons (.tup (.cons (.ki 1) .nil)) .nil)) .nil))) .nil))) .nil)))) (.cons (.tup (.cons (.tup (.cons (.ki 0) (.cons (.ki 1) .nil))) .nil)) .nil)))))) (.cons (.asgO 5 (.call 65 (.cons (.var 0) (.cons (.var 0) .nil)))) (.cons (.app 5 (.ks "more")) (.cons (.ret (.call 3 (.cons (.bin .add (.var 3) (.lst (.cons (.call 49 (.cons (.var 0) (.cons (.var 0) .nil))) .nil))) (.cons (.bin .add (.var 4) (.lst (.cons (.lst (.cons (.tup (.cons (.ki 0) (.cons (.ki 1) .nil))) (.cons (.tup (.cons (.ki 1) (.cons (.ki 0) .nil))) .nil))) .nil))) .nil)))) .nil)))))))))))))
def d61 : Def := ⟨"_law_more_right", [], ["_law_none_so", "_law_one_so", "_law_two_so", "_law_got", "_law_due_so", "_law_new_so", "_law_own"], b61⟩ -- _law_more_right
def b62 : CSs := (.cons (.for_ (.nm 1) (.rg1 (.ki 2)) (.cons (.asg 2 (.call 10 (.cons (.var 0) (.cons (.ki 3) .nil)))) (.cons (.asg 3 (.b1 .tup (.call 6 (.cons (.var 0) (.cons (.b1 .lrg (.idx (.var 2) (.ki 0))) .nil))))) (.cons (.asg 4 (.b1 .tup (.comp (.nm 5) (.rg1 (.bin .add (.idx (.var 2) (.ki 0)) (.ki 1))) (.cmp .eq (.call 2 (.cons (.var 0) (.cons (.ki 3) .nil))) (.ki 0)) (.var 5) [("_law_k", 5)]))) (.cons (.if_ (.not_ (.call 59 (.cons (.var 2) (.cons (.var 3) (.cons (.var 4) .nil))))) (.cons (.ret (.kb false)) .nil) .nil) .nil))))) (.cons (.ret (.kb true)) .nil))
def d62 : Def := ⟨"_law_right", ["_law_box_here"], ["_law_box_here", "_law_lap", "_law_book_so", "_law_turn_so", "_law_values_so", "_law_k"], b62⟩ -- _law_right
def b63 : CSs := (.cons (.if_ (.not_ (.call 60 .nil)) (.cons (.ret (.kb false)) .nil) .nil) (.cons (.asg 1 (.call 0 (.cons (.var 0) (.cons (.ki 3) .nil)))) (.cons (.ret (.b1 .all (.comp (.nm 2) (.rg1 (.b1 .len (.var 1))) (.kb true) (.call 62 (.cons (.call 1 (.cons (.var 1) (.cons (.var 2) .nil))) .nil)) [("_law_k", 2)]))) .nil)))
def d63 : Def := ⟨"law", ["_law_script"], ["_law_script", "_law_cells_here", "_law_k"], b63⟩ -- law
def b64 : CSs := (.cons (.retF (.call 65 (.cons (.var 0) (.cons (.var 0) .nil)))) .nil)
def d64 : Def := ⟨"turns_of", ["book"], ["book"], b64⟩ -- turns_of
def b65 : CSs := (.cons (.if_ (.bor (.cons (.cmp .ne (.idx (.var 0) (.ki 0)) (.idx (.var 1) (.ki 0))) (.cons (.cmp .ne (.idx (.var 0) (.ki 1)) (.idx (.var 1) (.ki 1))) .nil))) (.cons (.retF (.lst .nil)) .nil) .nil) (.cons (.asg 2 (.comp (.nm 3) (.dat (.call 23 (.cons (.idx (.var 0) (.ki 0)) (.cons (.idx (.var 0) (.ki 0)) .nil)))) (.call 46 (.cons (.var 0) (.cons (.var 3) .nil))) (.var 3) [("turn", 3)])) (.cons (.retF (.comp (.nm 3) (.dat (.var 2)) (.cmp .eq (.call 48 (.cons (.var 0) (.cons (.var 3) .nil))) (.call 16 (.cons (.var 1) .nil))) (.var 3) [("turn", 3)])) .nil)))
def d65 : Def := ⟨"turns_into", ["book", "other"], ["book", "other", "every", "turn"], b65⟩ -- turns_into
def Fs : List Def := [d__law_cells, d__law_box 1073002, d__law_take, d__law_same, d__law_lists, d__law_of, d__law_mixed, d__law_tuples, d__law_kind, d__law_known, d__law_book, d__law_cells, d__law_cells, d__law_cells, d_is_number, d_is_below, d_tupled, d__law_cells, d_is_row_below, d_set_of, d__law_cells, d__law_cells, d__law_cells, d_all_rows, d__law_cells, d__law_cells, d__law_cells, d__law_cells, d__law_cells, d__law_cells, d__law_cells, d__law_cells, d__law_cells, d__law_cells, d__law_cells, d__law_cells, d__law_cells, d__law_cells, d__law_cells, d__law_cells, d40, d41, d42, d43, d44, d45, d46, d47, d48, d49, d50, d51, d52, d53, d54, d55, d56, d57, d58, d59, d60, d61, d62, d63, d64, d65]
def T : Tab := ⟨Fs, [], ["Unfit"], [], [], [16], [("NoKind", "number"), ("NoValue", "number")]⟩
def iLaw : Nat := 63
end L02

set_option maxRecDepth 100000
set_option linter.all false
set_option Elab.async false
namespace L02
open Mp PySem PySem.Spec PyProof.Rows L2
open Enc (enc)
theorem h0 : Fs[0]? = some d__law_cells := rfl
theorem h1 : Fs[1]? = some (d__law_box 1073002) := rfl
theorem h2 : Fs[2]? = some d__law_take := rfl
theorem h3 : Fs[3]? = some d__law_same := rfl
theorem h4 : Fs[4]? = some d__law_lists := rfl
theorem h5 : Fs[5]? = some d__law_of := rfl
theorem h6 : Fs[6]? = some d__law_mixed := rfl
theorem h7 : Fs[7]? = some d__law_tuples := rfl
theorem h8 : Fs[8]? = some d__law_kind := rfl
theorem h9 : Fs[9]? = some d__law_known := rfl
theorem h10 : Fs[10]? = some d__law_book := rfl
theorem h14 : Fs[14]? = some d_is_number := rfl
theorem h15 : Fs[15]? = some d_is_below := rfl
theorem h16 : Fs[16]? = some d_tupled := rfl
theorem h18 : Fs[18]? = some d_is_row_below := rfl
theorem h19 : Fs[19]? = some d_set_of := rfl
theorem h23 : Fs[23]? = some d_all_rows := rfl
theorem h40 : Fs[40]? = some d40 := rfl
theorem h41 : Fs[41]? = some d41 := rfl
theorem h42 : Fs[42]? = some d42 := rfl
theorem h43 : Fs[43]? = some d43 := rfl
theorem h44 : Fs[44]? = some d44 := rfl
theorem h45 : Fs[45]? = some d45 := rfl
theorem h46 : Fs[46]? = some d46 := rfl
theorem h47 : Fs[47]? = some d47 := rfl
theorem h48 : Fs[48]? = some d48 := rfl
theorem h49 : Fs[49]? = some d49 := rfl
theorem h50 : Fs[50]? = some d50 := rfl
theorem h51 : Fs[51]? = some d51 := rfl
theorem h52 : Fs[52]? = some d52 := rfl
theorem h53 : Fs[53]? = some d53 := rfl
theorem h54 : Fs[54]? = some d54 := rfl
theorem h55 : Fs[55]? = some d55 := rfl
theorem h56 : Fs[56]? = some d56 := rfl
theorem h57 : Fs[57]? = some d57 := rfl
theorem h58 : Fs[58]? = some d58 := rfl
theorem h59 : Fs[59]? = some d59 := rfl
theorem h62 : Fs[62]? = some d62 := rfl
theorem h63 : Fs[63]? = some d63 := rfl
def exN1 (c : Str) (i : Int) (m : Mem) : Res MV := .ex c (some (.tuple [.str "number", .int i])) m
def strange (b : Bk) (row : List Nat) : Option Nat := row.find? fun v => !decide (v < b.many)
section
variable (n : Nat) (m : Mem) (s : Bool) (b : Bk)
theorem chkKind (i : Int) : callF Fs (n + 3) 40 [.d (lay s (eB b)), .d (.int i)] m = if 0 ≤ i ∧ i < (b.kinds.length : Int) then .ok (.d .none) m else exN1 "NoKind" i m := by
  rw [callF_at h40 _ _ _ rfl]
  have e := below_spec h14 h15 n m (.int i) b.kinds.length
  rw [intB] at e
  have i2 := bk2 m s b
  have hz : (2 : Nat) ≤ sizeLine := by decide
  by_cases h : 0 ≤ i ∧ i < (b.kinds.length : Int)
  · simp [d40, b40, i2, e, h]
  · have h' : decide (0 ≤ i ∧ i < (b.kinds.length : Int)) = false := decide_eq_false h
    rw [h'] at e
    rw [if_neg h]
    simp [d40, b40, i2, e, hz, exN1]
theorem chkValues (t : Bool) (row : List Nat) : callF Fs (n + 3) 41 [.d (lay s (eB b)), .d (sq t (row.map enc))] m = match strange b row with
    | none => .ok (.d .none) m
    | some v => exN1 "NoValue" (v : Int) m := by
  rw [callF_at h41 _ _ _ rfl]
  have i0 := bk0 m s b
  have hz : (2 : Nat) ≤ sizeLine := by decide
  have key := forS_find (f := forF (callF Fs (n + 2)) (.nm 2) (.cons (.if_ (.not_ (.call 15 (.cons (.var 2) (.cons (.idx (.var 0) (.ki 0)) .nil)))) (.cons (.raise "NoValue" (.tup (.cons (.ks "number") (.cons (.var 2) .nil)))) .nil) .nil) .nil)) (m := m)
    (fun v : Nat => decide (v < b.many)) (fun v => MV.d (enc v)) (fun v => ("NoValue", some (.tuple [.str "number", .int (v : Int)]))) (fun r => ∃ s2, r = [.v (.d (lay s (eB b))), .v (.d (sq t (row.map enc))), s2]) row [.v (.d (lay s (eB b))), .v (.d (sq t (row.map enc))), .un] ⟨_, rfl⟩ (by
      rintro v hv r ⟨s2, rfl⟩
      have e := below_spec h14 h15 n m (.int (v : Int)) b.many
      rw [intB] at e
      refine ⟨fun h => ?_, fun h => ?_⟩
      · have : ((v : Int) < (b.many : Int)) := by simpa using h
        refine ⟨[.v (.d (lay s (eB b))), .v (.d (sq t (row.map enc))), .v (.d (.int (v : Int)))], ?_, _, rfl⟩
        simp [forF, i0, e, this]
      · have : ¬ v < b.many := of_decide_eq_false h
        refine ⟨[.v (.d (lay s (eB b))), .v (.d (sq t (row.map enc))), .v (.d (.int (v : Int)))], ?_⟩
        simp [forF, i0, e, this, hz])
  have hm := map_d row
  unfold strange
  cases hf : row.find? (fun v => !decide (v < b.many)) with
  | none =>
    obtain ⟨r', e, _⟩ := key.1 hf
    simp [d41, b41, -List.map_map, hm]
    simp only [enc_nat] at e
    rw [e]; simp
  | some v =>
    obtain ⟨r', e⟩ := key.2 v hf
    simp [d41, b41, -List.map_map, hm]
    simp only [enc_nat] at e
    rw [e]; simp [exN1]
theorem withKinds (t : Bool) (ks : List D) : callF Fs (n + 1) 42 [.d (lay s (eB b)), .d (sq t ks)] m = .ok (.d (.tuple [.int (b.many : Int), .bool b.tell, .tuple ks])) m := by
  rw [callF_at h42 _ _ _ rfl]
  have i0 := bk0 m s b
  have i1 := bk1 m s b
  have hz : (3 : Nat) ≤ sizeLine := by decide
  cases t <;> simp [d42, b42, i0, i1, hz, sq]
theorem kdAt {j : Nat} (hj : j < b.kinds.length) : idxM (.d (sq s (b.kinds.map (lyK s)))) (.int (j : Int)) m = .ok (.d (sq s [.int ((b.kd j).1 : Int), sq s ((b.kd j).2.map fun r => sq s (r.map enc))])) m := by
  have g := Bk.kd_get hj
  rw [idx_sq, Mp.atI_nat, List.getElem?_map, g]
  simp [ly_kd]
theorem kd_ok {b : Bk} (hb : BkOk b) {j : Nat} (hj : j < b.kinds.length) : KdOk b.many (b.kd j) := hb.kinds _ (List.mem_of_getElem? (Bk.kd_get hj))
/-! ### columns -/
def colL (k : Kd) (c : Nat) : List Nat := uniqL (k.2.map fun r => r.getD c 0)
theorem setOfN (l : List Nat) (hl : l.length < 64) : callF Fs (n + 1) 19 [.d (.list (l.map enc))] m = .ok (.d (enc (uniqL l))) m := by
  rw [callF_at h19 _ _ _ rfl]
  have e := ssetOf_nat l hl
  simp [d_set_of, c_set_of, b1D, e]
theorem setOfR (L : List (List Nat)) (hL : ∀ r ∈ L, r ≠ []) (hl : L.length < 64) : callF Fs (n + 1) 19 [.d (.list (L.map enc))] m = .ok (.d (.tuple ((uniqL L).map enc))) m := by
  rw [callF_at h19 _ _ _ rfl]
  have e := ssetOf_tup L (fun a ha => isTup_row (hL a ha)) (by decide) hl
  simp [d_set_of, c_set_of, e]
def colsD (k : Kd) : D := .tuple ((List.range k.1).map fun c => enc (colL k c))
theorem colIn (F : Calls) (L : List (List Nat)) (c : Nat) (hL : ∀ r ∈ L, c < r.length) (s0 s1 s2 s3 s5 : Slot) :
    mapM' (compF F (.nm 5) (.kb true) (.idx (.var 5) (.var 4)) [("row", 5)] [s0, s1, s2, s3, .v (.d (.int (c : Int))), s5]) (L.map fun r => MV.d (sq s (r.map enc))) m = .ok ((L.map fun r => r.getD c 0).map enc) m := by
  rw [mapM'_all (g := fun r : List Nat => enc (r.getD c 0)), List.map_map]
  · rfl
  · intro r hr
    have hl := hL r hr
    obtain ⟨x, x1, x2⟩ : ∃ x, r[c]? = some x ∧ r.getD c 0 = x := ⟨r[c], List.getElem?_eq_getElem hl, by simp [List.getD_eq_getElem?_getD, List.getElem?_eq_getElem hl]⟩
    rw [x2]
    simp [compF, x1]
theorem colOut (k : Kd) (hk : ∀ r ∈ k.2, r.length = k.1) (hl : k.2.length < 64) (c : Nat) (hc : c < k.1) (s0 s1 s2 s4 s5 : Slot) :
    compF (callF Fs (n + 1)) (.nm 4) (.kb true) (.call 19 (.cons (.comp (.nm 5) (.dat (.var 3)) (.kb true) (.idx (.var 5) (.var 4)) [("row", 5)]) .nil)) [("spot", 4)] [s0, s1, s2, .v (.d (sq s (k.2.map fun r => sq s (r.map enc)))), s4, s5] (MV.d (enc c)) m = .ok (some (enc (colL k c))) m := by
  have e3 := colIn m s (callF Fs (n + 1)) k.2 c (fun r hr => by rw [hk r hr]; exact hc) s0 s1 s2 (.v (.d (sq s (k.2.map fun r => sq s (r.map enc))))) s5
  have e4 := setOfN n m (k.2.map fun r => r.getD c 0) (by simpa using hl)
  have hmm : (k.2.map fun r => sq s (r.map (enc : Nat → D))).map MV.d = k.2.map fun r => MV.d (sq s (r.map enc)) := by rw [List.map_map]; rfl
  unfold colL
  generalize (k.2.map fun r => r.getD c 0) = L at *
  simp only [enc_nat]
  simp [compF, -List.map_map, hmm, e3, e4]
theorem columns (hb : BkOk b) (i : Int) : callF Fs (n + 4) 43 [.d (lay s (eB b)), .d (.int i)] m = if 0 ≤ i ∧ i < (b.kinds.length : Int) then .ok (.d (colsD (b.kd i.toNat))) m else exN1 "NoKind" i m := by
  rw [callF_at h43 _ _ _ rfl]
  have e1 := chkKind n m s b i
  by_cases h : 0 ≤ i ∧ i < (b.kinds.length : Int)
  · rw [if_pos h] at e1 ⊢
    obtain ⟨j, rfl⟩ : ∃ j : Nat, i = (j : Int) := ⟨i.toNat, by omega⟩
    have hj : j < b.kinds.length := by omega
    have hT : (j : Int).toNat = j := rfl
    simp only [hT]
    have hk := kd_ok hb hj
    have i2 := bk2 m s b
    have k2 := kdAt m s b hj
    have hr := rgN (m := m) (show (b.kd j).1 ≤ 10000 by have := hk.w3; omega)
    have e2 : ∀ s5, mapM' (compF (callF Fs (n + 3)) (.nm 4) (.kb true) (.call 19 (.cons (.comp (.nm 5) (.dat (.var 3)) (.kb true) (.idx (.var 5) (.var 4)) [("row", 5)]) .nil)) [("spot", 4)] [.v (.d (lay s (eB b))), .v (.d (.int (j : Int))), .v (.d (.int ((b.kd j).1 : Int))), .v (.d (sq s ((b.kd j).2.map fun r => sq s (r.map enc)))), .un, s5]) ((List.range (b.kd j).1).map fun v : Nat => MV.d (.int (v : Int))) m = .ok ((List.range (b.kd j).1).map fun c => enc (colL (b.kd j) c)) m := fun s5 => by
      rw [mapM'_all (g := fun c => enc (colL (b.kd j) c))]
      intro c hc
      exact colOut (n + 2) m s (b.kd j) (fun r hr => (hk.rows r hr).1) (by have := hk.len; omega) c (List.mem_range.mp hc) _ _ _ _ _
    simp [d43, b43, e1, i2, k2, -rgM_i, hr, e2, colsD]
  · rw [if_neg h] at e1 ⊢
    simp [d43, b43, e1, exN1]
end
end L02

set_option maxRecDepth 100000
set_option linter.all false
set_option Elab.async false
namespace L02
open Mp PySem PySem.Spec PyProof.Rows L2
open Enc (enc)
section
variable (n : Nat) (m : Mem) (s : Bool) (b : Bk)
/-! ### constants -/
def isConst (k : Kd) (v : Nat) : Bool := decide (List.replicate k.1 v ∈ k.2)
def constL (b : Bk) : List Nat := (List.range b.many).filter fun v => b.kinds.all fun k => isConst k v
theorem replT (v w : Nat) (h1 : 1 ≤ w) (h2 : w ≤ 3) : binD .mul (.tuple [.int (v : Int)]) (.int (w : Int)) = some (.tuple ((List.replicate w v).map enc)) := by
  have a1 : (1 : Int) ≤ (w : Int) := by omega
  have a2 : (w : Int) ≤ 1000 := by omega
  simp only [binD]
  rw [if_pos ⟨by simp, a1, a2, by simp⟩]
  have : (List.replicate (w : Int).toNat [PyData.int (v : Int)]).flatten = (List.replicate w v).map enc := by
    rw [show (w : Int).toNat = w from rfl]
    simp
  rw [this]
theorem tupRows (L : List (List Nat)) : callF Fs (n + 9) 16 [.d (sq s (L.map fun r => sq s (r.map enc)))] m = .ok (.d (.tuple (L.map enc))) m := by
  have h := tupled_lay h16 s L (by decide) n m
  have e : lay s (enc L) = sq s (L.map fun r => sq s (r.map enc)) := by
    rw [lay_list]
    congr 1
    exact List.map_congr_left fun r _ => lay_rowN s r
  rw [e] at h
  exact h
theorem constIn (k : Kd) (hk1 : 1 ≤ k.1) (hk3 : k.1 ≤ 3) (v : Nat) (s0 s1 s3 s4 : Slot) :
    compF (callF Fs (n + 9)) (.tp (.cons (.nm 3) (.cons (.nm 4) .nil))) (.kb true) (.cmp .in_ (.bin .mul (.tup (.cons (.var 2) .nil)) (.var 3)) (.call 16 (.cons (.var 4) .nil))) [("width", 3), ("rows", 4)] [s0, s1, .v (.d (.int (v : Int))), s3, s4] (MV.d (lyK s k)) m = .ok (some (.bool (isConst k v))) m := by
  rw [ly_kd]
  have e1 := tupRows n m s k.2
  have e2 := replT v k.1 hk1 hk3
  have e3 := cmp_in (List.replicate k.1 v) k.2 (by decide)
  simp only [enc_list] at e3
  have z1 : (1 : Nat) ≤ sizeLine := by decide
  simp [compF, e2, e1, e3, z1, isConst, -List.map_replicate]
theorem constants (hb : BkOk b) : callF Fs (n + 10) 44 [.d (lay s (eB b))] m = .ok (.d (enc (constL b))) m := by
  rw [callF_at h44 _ _ _ rfl]
  have i0 := bk0 m s b
  have i2 := bk2 m s b
  have hm3 : b.many ≤ 3 := by rcases hb.many with h | h <;> omega
  have hr := rgN (m := m) (show b.many ≤ 10000 by omega)
  have hmm : (b.kinds.map (lyK s)).map MV.d = b.kinds.map fun k => MV.d (lyK s k) := by rw [List.map_map]; rfl
  obtain ⟨r', e, s2, s3, s4, rfl⟩ := forS_pure (f := forF (callF Fs (n + 9)) (.nm 2) (.cons (.if_ (.b1 .all (.comp (.tp (.cons (.nm 3) (.cons (.nm 4) .nil))) (.dat (.idx (.var 0) (.ki 2))) (.kb true) (.cmp .in_ (.bin .mul (.tup (.cons (.var 2) .nil)) (.var 3)) (.call 16 (.cons (.var 4) .nil))) [("width", 3), ("rows", 4)])) (.cons (.app 1 (.var 2)) .nil) .nil) .nil)) (m := m)
    (fun i r => ∃ s2 s3 s4, r = [.v (.d (lay s (eB b))), .own (((List.range i).filter fun v => b.kinds.all fun k => isConst k v).map enc), s2, s3, s4])
    ((List.range b.many).map fun v : Nat => MV.d (.int (v : Int))) [.v (.d (lay s (eB b))), .own [], .un, .un, .un] ⟨.un, .un, .un, rfl⟩ (by
      rintro i x r hx ⟨s2, s3, s4, rfl⟩
      have hi : i < b.many := by simpa using (List.getElem?_eq_some_iff.mp hx).1
      have hxv : x = MV.d (.int (i : Int)) := by simpa [List.getElem?_map, List.getElem?_range hi] using hx.symm
      subst hxv
      have e1 := mapM'_all (f := compF (callF Fs (n + 9)) (.tp (.cons (.nm 3) (.cons (.nm 4) .nil))) (.kb true) (.cmp .in_ (.bin .mul (.tup (.cons (.var 2) .nil)) (.var 3)) (.call 16 (.cons (.var 4) .nil))) [("width", 3), ("rows", 4)] [.v (.d (lay s (eB b))), .own (((List.range i).filter fun v => b.kinds.all fun k => isConst k v).map enc), .v (.d (.int (i : Int))), s3, s4]) (m := m) (fun k => MV.d (lyK s k)) (fun k => PyData.bool (isConst k i)) b.kinds (fun k hk => constIn n m s k (hb.kinds k hk).w1 (hb.kinds k hk).w3 i _ _ _ _)
      have hl : (((List.range i).filter fun v => b.kinds.all fun k => isConst k v).map (enc : Nat → D)).length < sizeLine := by
        have := List.length_filter_le (fun v => b.kinds.all fun k => isConst k v) (List.range i)
        have hs : sizeLine = 2 ^ 24 := rfl
        simp at this ⊢
        omega
      refine ⟨[.v (.d (lay s (eB b))), .own (((List.range (i + 1)).filter fun v => b.kinds.all fun k => isConst k v).map enc), .v (.d (.int (i : Int))), s3, s4], ?_, _, _, _, rfl⟩
      rw [List.range_succ, List.filter_append, List.map_append]
      generalize ((List.range i).filter fun v => b.kinds.all fun k => isConst k v).map (enc : Nat → D) = A at *
      simp [forF, i2, -List.map_map, hmm, e1, b1_all]
      cases q : b.kinds.all fun k => isConst k i <;> simp [q, hl])
  simp [d44, b44, i0, -rgM_i, hr]
  rw [e]
  simp [constL]
/-! ### single_kinds -/
def singleB (b : Bk) : Bk := if b.tell = true then ⟨b.many, false, b.kinds ++ (List.range b.many).map fun v => (1, [[v]])⟩ else b
theorem single (hb : BkOk b) (hl : b.kinds.length ≤ 1000) : callF Fs (n + 10) 45 [.d (lay s (eB b))] m = .ok (.d (eB (singleB b))) m := by
  rw [callF_at h45 _ _ _ rfl]
  have i0 := bk0 m s b
  have i1 := bk1 m s b
  have i2 := bh2 m b
  have e1 := tup_eB h16 n m s b
  have hm3 : b.many ≤ 3 := by rcases hb.many with h | h <;> omega
  have hr := rgN (m := m) (show b.many ≤ 10000 by omega)
  unfold singleB
  cases ht : b.tell with
  | false =>
    rw [ht] at i1
    simp [d45, b45, i1, e1, ht]
  | true =>
    rw [ht] at i1
    have z0 : (0 : Nat) ≤ sizeLine := by decide
    have z1 : (1 : Nat) ≤ sizeLine := by decide
    have z2 : (2 : Nat) ≤ sizeLine := by decide
    have z3 : (3 : Nat) ≤ sizeLine := by decide
    have e2 := mapM'_all (f := compF (callF Fs (n + 9)) (.nm 1) (.kb true) (.tup (.cons (.ki 1) (.cons (.tup (.cons (.tup (.cons (.var 1) .nil)) .nil)) .nil))) [("value", 1)] [.v (.d (lay s (eB b))), .un]) (m := m) (fun v : Nat => MV.d (.int (v : Int))) (fun v => enc ((1, [[v]]) : Kd)) (List.range b.many) (fun v _ => by simp [compF, z1, z2])
    have hz : b.kinds.length + b.many ≤ sizeLine := size_ge (by omega)
    have hE : eB ⟨b.many, false, b.kinds ++ (List.range b.many).map fun v => (1, [[v]])⟩ = .tuple [.int (b.many : Int), .bool false, .tuple (b.kinds.map enc ++ (List.range b.many).map fun v => enc ((1, [[v]]) : Kd))] := by
      simp only [eB, List.map_append, List.map_map]; rfl
    rw [if_pos rfl, hE]
    generalize hG : (List.range b.many).map (fun v => (enc ((1, [[v]]) : Kd) : D)) = G at *
    have hGl : G.length = b.many := by rw [← hG]; simp
    simp [d45, b45, i0, i1, i2, e1, ht, -rgM_i, hr, e2, hz, hGl, z1, z2, z3]
end
end L02

set_option maxRecDepth 100000
set_option linter.all false
set_option Elab.async false
namespace L02
open Mp PySem PySem.Spec PyProof.Rows L2
open Enc (enc)
/-! ### turns -/
def isTurnB (many : Nat) (t : List Nat) : Bool := (t.all fun v => decide (v < many)) && decide (srtL t = List.range many)
def turnR (t r : List Nat) : List Nat := r.map fun v => t.getD v 0
def turnBk (b : Bk) (t : List Nat) : Bk := ⟨b.many, b.tell, b.kinds.map fun k => (k.1, uniqL (k.2.map (turnR t)))⟩
def lawTurnBk (b : Bk) (t : List Nat) : Bk := ⟨b.many, b.tell, b.kinds.map fun k => (k.1, srtL (k.2.map (turnR t)))⟩
def everyL (many : Nat) : List (List Nat) := (tuplesL many many).filter (isTurnB many)
def isTurnK (many : Nat) (t : List Nat) : Bool := (t.all fun v => decide (v < many)) && decide (srtK (fun a b : Nat => !Enc.lt b a) t.length t = List.range many)
theorem isTurnK_eq (many : Nat) : isTurnB many = isTurnK many := by
  funext t
  unfold isTurnB isTurnK srtL
  rw [srtK_len _ _ _ (Nat.le_refl _)]
theorem every2 : everyL 2 = (tuplesL 2 2).filter fun t => decide ((uniqL t).length = t.length) := by
  unfold everyL; rw [isTurnK_eq]; decide +kernel
theorem every3 : everyL 3 = (tuplesL 3 3).filter fun t => decide ((uniqL t).length = t.length) := by
  unfold everyL; rw [isTurnK_eq]; decide +kernel
theorem nod2 : ∀ t ∈ everyL 2, t.Nodup := by unfold everyL; rw [isTurnK_eq]; decide +kernel
theorem nod3 : ∀ t ∈ everyL 3, t.Nodup := by unfold everyL; rw [isTurnK_eq]; decide +kernel
theorem every_eq {many : Nat} (h : many = 2 ∨ many = 3) : everyL many = (tuplesL many many).filter fun t => decide ((uniqL t).length = t.length) := by
  rcases h with rfl | rfl
  · exact every2
  · exact every3
theorem every_ok {many : Nat} (h : many = 2 ∨ many = 3) {t : List Nat} (ht : t ∈ everyL many) : t.Nodup ∧ t.length = many ∧ ∀ v ∈ t, v < many := by
  have h1 := tuplesL_mem.mp (List.mem_filter.mp ht).1
  rcases h with rfl | rfl
  · exact ⟨nod2 t ht, h1⟩
  · exact ⟨nod3 t ht, h1⟩
theorem turnR_inj {many : Nat} {t : List Nat} (hn : t.Nodup) (hl : t.length = many) : ∀ {a b : List Nat}, (∀ v ∈ a, v < many) → (∀ v ∈ b, v < many) → turnR t a = turnR t b → a = b
  | [], [], _, _, _ => rfl
  | [], _ :: _, _, _, h => by simp [turnR] at h
  | _ :: _, [], _, _, h => by simp [turnR] at h
  | x :: a, y :: b, ha, hb, h => by
    simp only [turnR, List.map_cons, List.cons.injEq] at h
    have hx : x < t.length := by rw [hl]; exact ha x (by simp)
    have hy : y < t.length := by rw [hl]; exact hb y (by simp)
    have h1 := h.1
    rw [List.getD_eq_getElem?_getD, List.getD_eq_getElem?_getD, List.getElem?_eq_getElem hx, List.getElem?_eq_getElem hy] at h1
    have hxy : x = y := (List.getElem_inj hn).mp h1
    rw [hxy, turnR_inj hn hl (fun v hv => ha v (by simp [hv])) (fun v hv => hb v (by simp [hv])) h.2]
theorem map_nodup {α β : Type} {f : α → β} : ∀ {l : List α}, l.Nodup → (∀ a ∈ l, ∀ b ∈ l, f a = f b → a = b) → (l.map f).Nodup
  | [], _, _ => by simp
  | x :: l, hn, hi => by
    obtain ⟨h1, h2⟩ := List.nodup_cons.mp hn
    rw [List.map_cons, List.nodup_cons]
    refine ⟨fun hm => ?_, map_nodup h2 fun a ha b hb => hi a (by simp [ha]) b (by simp [hb])⟩
    obtain ⟨y, hy, e⟩ := List.mem_map.mp hm
    have := hi y (by simp [hy]) x (by simp) e
    exact h1 (this ▸ hy)
theorem turn_nodup {many : Nat} {t : List Nat} (hn : t.Nodup) (hl : t.length = many) {k : Kd} (hk : KdOk many k) : (k.2.map (turnR t)).Nodup :=
  map_nodup (asc_nodup hk.asc) fun a ha b hb e => turnR_inj hn hl (hk.rows a ha).2 (hk.rows b hb).2 e
theorem turn_eq {b : Bk} (hb : BkOk b) {t : List Nat} (hn : t.Nodup) (hl : t.length = b.many) : lawTurnBk b t = turnBk b t := by
  unfold lawTurnBk turnBk
  congr 1
  refine List.map_congr_left fun k hk => ?_
  rw [srt_uniq (turn_nodup hn hl (hb.kinds k hk))]
section
variable (n : Nat) (m : Mem) (s : Bool) (b : Bk)
theorem isTurn (hb : BkOk b) (t : List Nat) : callF Fs (n + 4) 46 [.d (lay s (eB b)), .d (.tuple (t.map enc))] m = .ok (.d (.bool (isTurnB b.many t))) m := by
  rw [callF_at h46 _ _ _ rfl]
  have i0 := bk0 m s b
  have e1 := rowB_spec h14 h15 h18 n m (.tuple (t.map enc)) (b.many : Int)
  have e2 : rowB (.tuple (t.map enc)) (b.many : Int) = t.all fun v => decide (v < b.many) := by
    simp only [rowB, List.all_map]
    congr 1
    funext v
    simp [belowB]
  have e3 := srt_nat t
  have e4 := cmp_eqLs (srtL t) (List.range b.many) (by decide)
  have hm3 : b.many ≤ 3 := by rcases hb.many with h | h <;> omega
  have hr := rgOk_nat (size_ge (show b.many ≤ 10000 by omega))
  have hd : rangeD 0 (b.many : Int) = (List.range b.many).map enc := rangeD_nat b.many
  rw [e2] at e1
  have e5 : b1D .lrg (.int (b.many : Int)) = some (.list ((List.range b.many).map enc)) := by simp only [b1D, hr, if_true, hd]
  unfold isTurnB
  cases q : t.all fun v => decide (v < b.many) with
  | false =>
    rw [q] at e1
    simp [d46, b46, i0, e1]
  | true =>
    rw [q] at e1
    simp [d46, b46, i0, e1, e3, e5, e4]
theorem turnIn (F : Calls) (t r : List Nat) (hr : ∀ v ∈ r, v < t.length) (s0 s2 s3 : Slot) :
    compF F (.nm 2) (.kb true) (.b1 .tup (.comp (.nm 3) (.dat (.var 2)) (.kb true) (.idx (.var 1) (.var 3)) [("value", 3)])) [("row", 2)] [s0, .v (.d (.tuple (t.map enc))), s2, s3] (MV.d (sq s (r.map enc))) m = .ok (some (enc (turnR t r))) m := by
  have e1 : ∀ s2 s3, mapM' (compF F (.nm 3) (.kb true) (.idx (.var 1) (.var 3)) [("value", 3)] [s0, .v (.d (.tuple (t.map enc))), s2, s3]) (r.map fun v : Nat => MV.d (.int (v : Int))) m = .ok ((turnR t r).map enc) m := fun s2 s3 => by
    rw [mapM'_all (g := fun v : Nat => enc (t.getD v 0))]
    · simp [turnR]
    · intro v hv
      obtain ⟨x, x1, x2⟩ : ∃ x, t[v]? = some x ∧ t.getD v 0 = x := ⟨t[v]'(hr v hv), List.getElem?_eq_getElem (hr v hv), by simp [List.getD_eq_getElem?_getD, List.getElem?_eq_getElem (hr v hv)]⟩
      rw [x2]
      simp [compF, x1]
  have hmm : (r.map (enc : Nat → D)).map MV.d = r.map fun v : Nat => MV.d (.int (v : Int)) := by rw [List.map_map]; rfl
  simp [compF, -List.map_map, hmm, e1]
theorem turnedRows (t : List Nat) (L : List (List Nat)) (hL : ∀ r ∈ L, r ≠ [] ∧ ∀ v ∈ r, v < t.length) (hl : L.length < 64) :
    callF Fs (n + 2) 47 [.d (sq s (L.map fun r => sq s (r.map enc))), .d (.tuple (t.map enc))] m = .ok (.d (.tuple ((uniqL (L.map (turnR t))).map enc))) m := by
  rw [callF_at h47 _ _ _ rfl]
  have e1 := mapM'_all (f := compF (callF Fs (n + 1)) (.nm 2) (.kb true) (.b1 .tup (.comp (.nm 3) (.dat (.var 2)) (.kb true) (.idx (.var 1) (.var 3)) [("value", 3)])) [("row", 2)] [.v (.d (sq s (L.map fun r => sq s (r.map enc)))), .v (.d (.tuple (t.map enc))), .un, .un]) (m := m) (fun r : List Nat => MV.d (sq s (r.map enc))) (fun r => enc (turnR t r)) L (fun r hr => turnIn m s (callF Fs (n + 1)) t r (hL r hr).2 _ _ _)
  have e2 := setOfR n m (L.map (turnR t)) (fun r hr => by
    obtain ⟨q, hq, rfl⟩ := List.mem_map.mp hr
    simpa [turnR] using (hL q hq).1) (by simpa using hl)
  have hmm : (L.map fun r => sq s (r.map (enc : Nat → D))).map MV.d = L.map fun r => MV.d (sq s (r.map enc)) := by rw [List.map_map]; rfl
  have hm2 : (L.map fun r => (enc (turnR t r) : D)) = (L.map (turnR t)).map enc := by rw [List.map_map]; rfl
  rw [hm2] at e1
  generalize L.map (turnR t) = Q at *
  simp [d47, b47, -List.map_map, hmm, e1, e2]
theorem turned (hb : BkOk b) (t : List Nat) (ht : t.length = b.many) : callF Fs (n + 4) 48 [.d (lay s (eB b)), .d (.tuple (t.map enc))] m = .ok (.d (eB (turnBk b t))) m := by
  rw [callF_at h48 _ _ _ rfl]
  have i2 := bk2 m s b
  have z2 : (2 : Nat) ≤ sizeLine := by decide
  have e1 := mapM'_all (f := compF (callF Fs (n + 3)) (.tp (.cons (.nm 2) (.cons (.nm 3) .nil))) (.kb true) (.tup (.cons (.var 2) (.cons (.call 47 (.cons (.var 3) (.cons (.var 1) .nil))) .nil))) [("width", 2), ("rows", 3)] [.v (.d (lay s (eB b))), .v (.d (.tuple (t.map enc))), .un, .un]) (m := m) (fun k => MV.d (lyK s k)) (fun k => enc ((k.1, uniqL (k.2.map (turnR t))) : Kd)) b.kinds (fun k hk => by
    have hko := hb.kinds k hk
    have e := turnedRows (n + 1) m s t k.2 (fun r hr => ⟨fun z => by have := (hko.rows r hr).1; have := hko.w1; rw [z] at *; simp at *; omega, fun v hv => by rw [ht]; exact (hko.rows r hr).2 v hv⟩) (by have := hko.len; omega)
    rw [ly_kd]
    generalize uniqL (k.2.map (turnR t)) = Q at *
    simp [compF, e, z2])
  have hmm : (b.kinds.map (lyK s)).map MV.d = b.kinds.map fun k => MV.d (lyK s k) := by rw [List.map_map]; rfl
  have hE : eB (turnBk b t) = .tuple [.int (b.many : Int), .bool b.tell, .tuple (b.kinds.map fun k => enc ((k.1, uniqL (k.2.map (turnR t))) : Kd))] := by
    simp only [eB, turnBk, List.map_map]; rfl
  rw [hE]
  generalize (b.kinds.map fun k => (enc ((k.1, uniqL (k.2.map (turnR t))) : Kd) : D)) = Q at *
  have e2 := withKinds (n + 2) m s b true Q
  simp only [sq_l] at e2
  simp [d48, b48, i2, -List.map_map, hmm, e1, e2]
def sameBk (b o : Bk) : Bool := decide (b.many = o.many ∧ b.tell = o.tell ∧ b.kinds = o.kinds)
def intoL (b o : Bk) : List (List Nat) := if b.many = o.many ∧ b.tell = o.tell then (everyL b.many).filter fun t => sameBk (turnBk b t) o else []
theorem into (hb : BkOk b) (s' : Bool) (o : Bk) : callF Fs (n + 10) 49 [.d (lay s (eB b)), .d (lay s' (eB o))] m = .ok (.d (.list ((intoL b o).map enc))) m := by
  rw [callF_at h49 _ _ _ rfl]
  have i0 := bk0 m s b
  have i1 := bk1 m s b
  have j0 := bk0 m s' o
  have j1 := bk1 m s' o
  have hm : b.many = 2 ∨ b.many = 3 := hb.many
  have hpow : b.many ^ b.many ≤ 1000 := by rcases hm with h | h <;> rw [h] <;> decide
  have hall := allRows' h23 (n + 8) m b.many b.many (by omega) hpow (by omega) (by omega)
  unfold intoL
  by_cases hmo : b.many = o.many
  · by_cases hto : b.tell = o.tell
    · rw [if_pos ⟨hmo, hto⟩]
      have e1 := mapM'_filter (f := compF (callF Fs (n + 9)) (.nm 3) (.call 46 (.cons (.var 0) (.cons (.var 3) .nil))) (.var 3) [("turn", 3)] [.v (.d (lay s (eB b))), .v (.d (lay s' (eB o))), .un, .un]) (m := m) (fun t : List Nat => MV.d (enc t)) (isTurnB b.many) (fun t => enc t) (tuplesL b.many b.many) (fun t ht => by
        have e := isTurn (n + 5) m s b hb t
        cases q : isTurnB b.many t <;> simp [compF, e, q])
      have e2 := mapM'_filter (f := compF (callF Fs (n + 9)) (.nm 3) (.cmp .eq (.call 48 (.cons (.var 0) (.cons (.var 3) .nil))) (.call 16 (.cons (.var 1) .nil))) (.var 3) [("turn", 3)] [.v (.d (lay s (eB b))), .v (.d (lay s' (eB o))), .v (.d (.list ((everyL b.many).map enc))), .un]) (m := m) (fun t : List Nat => MV.d (enc t)) (fun t => sameBk (turnBk b t) o) (fun t => enc t) (everyL b.many) (fun t ht => by
        have hok := every_ok hm ht
        have e := turned (n + 5) m s b hb t hok.2.1
        have e' := tup_eB h16 n m s' o
        have c := cmp_eB (turnBk b t) o
        unfold sameBk
        cases q : decide ((turnBk b t).many = o.many ∧ (turnBk b t).tell = o.tell ∧ (turnBk b t).kinds = o.kinds) <;> rw [q] at c <;> simp [compF, e, e', c])
      have hmm : ((tuplesL b.many b.many).map (enc : List Nat → D)).map MV.d = (tuplesL b.many b.many).map fun t => MV.d (enc t) := by rw [List.map_map]; rfl
      have hm2 : ((everyL b.many).map (enc : List Nat → D)).map MV.d = (everyL b.many).map fun t => MV.d (enc t) := by rw [List.map_map]; rfl
      rw [show (tuplesL b.many b.many).filter (isTurnB b.many) = everyL b.many from rfl] at e1
      generalize everyL b.many = E at *
      generalize tuplesL b.many b.many = A at *
      simp only [enc_list] at e1 e2 hmm hm2
      have hA : (A.map fun x => PyData.tuple (x.map enc)) = A.map (enc : List Nat → D) := rfl
      have hE : (E.map fun x => PyData.tuple (x.map enc)) = E.map (enc : List Nat → D) := rfl
      rw [hE] at e1
      simp [d49, b49, i0, i1, j0, j1, hmo.symm, hto.symm, hall, -List.map_map, hmm, e1, hm2, e2]
      try rfl
    · rw [if_neg fun z => hto z.2]
      simp [d49, b49, i0, i1, j0, j1, hmo, hto]
  · rw [if_neg fun z => hmo z.1]
    have : ¬ ((b.many : Int) = (o.many : Int)) := by omega
    simp [d49, b49, i0, i1, j0, j1, hmo, this]
theorem turnsOf (hb : BkOk b) : callF Fs (n + 11) 50 [.d (lay s (eB b))] m = .ok (.d (.list ((intoL b b).map enc))) m := by
  rw [callF_at h50 _ _ _ rfl]
  have e := into n m s b hb s b
  simp [d50, b50, e]
end
end L02

set_option maxRecDepth 100000
set_option linter.all false
set_option Elab.async false
namespace L02
open Mp PySem PySem.Spec PyProof.Rows L2
open Enc (enc)
/-! ### values that stand for one another -/
def standB (rows : List (List Nat)) (one other : Nat) : Bool := rows.all fun r => r.zipIdx.all fun p => !(decide (p.1 = one) && !decide (r.set p.2 other ∈ rows))
def swapB (b : Bk) (one two : Nat) : Bool := b.kinds.all fun k => k.2.all fun r => (List.range k.1).all fun i => !(decide (r.getD i 0 = one ∨ r.getD i 0 = two) && !decide (r.set i (one + two - r.getD i 0) ∈ k.2))
theorem zipIdx_all {α : Type} (P : α → Nat → Bool) (r : List α) : r.zipIdx.all (fun p => P p.1 p.2) = true ↔ ∀ (i : Nat) (h : i < r.length), P r[i] i = true := by
  rw [List.all_eq_true]
  constructor
  · intro h i hi
    exact h (r[i], i) (by rw [List.mk_mem_zipIdx_iff_getElem?]; exact List.getElem?_eq_getElem hi)
  · rintro h ⟨x, i⟩ hm
    rw [List.mk_mem_zipIdx_iff_getElem?] at hm
    obtain ⟨hi, e⟩ := List.getElem?_eq_some_iff.mp hm
    have := h i hi
    rw [e] at this
    exact this
theorem stand_iff (rows : List (List Nat)) (one other : Nat) : standB rows one other = true ↔ ∀ r ∈ rows, ∀ (i : Nat) (h : i < r.length), r[i] = one → r.set i other ∈ rows := by
  unfold standB
  rw [List.all_eq_true]
  refine forall_congr' fun r => forall_congr' fun hr => ?_
  rw [zipIdx_all (fun x i => !(decide (x = one) && !decide (r.set i other ∈ rows)))]
  refine forall_congr' fun i => forall_congr' fun hi => ?_
  by_cases h1 : r[i] = one <;> by_cases h2 : r.set i other ∈ rows <;> simp [h1, h2]
theorem swap_eq {b : Bk} (hb : BkOk b) (one two : Nat) : swapB b one two = b.kinds.all fun k => standB k.2 one two && standB k.2 two one := by
  rw [Bool.eq_iff_iff]
  unfold swapB
  rw [List.all_eq_true, List.all_eq_true]
  refine forall_congr' fun k => forall_congr' fun hk => ?_
  have hko := hb.kinds k hk
  rw [Bool.and_eq_true, stand_iff, stand_iff, List.all_eq_true]
  constructor
  · intro h
    refine ⟨fun r hr i hi e => ?_, fun r hr i hi e => ?_⟩
    · have := List.all_eq_true.mp (h r hr) i (by rw [List.mem_range, ← (hko.rows r hr).1]; exact hi)
      have g : r.getD i 0 = one := by rw [List.getD_eq_getElem?_getD, List.getElem?_eq_getElem hi]; exact e
      rw [g] at this
      simp at this
      exact this
    · have := List.all_eq_true.mp (h r hr) i (by rw [List.mem_range, ← (hko.rows r hr).1]; exact hi)
      have g : r.getD i 0 = two := by rw [List.getD_eq_getElem?_getD, List.getElem?_eq_getElem hi]; exact e
      rw [g] at this
      simp at this
      exact this
  · rintro ⟨h1, h2⟩ r hr
    rw [List.all_eq_true]
    intro i hi
    have hi : i < r.length := by rw [(hko.rows r hr).1]; exact List.mem_range.mp hi
    have g : r.getD i 0 = r[i] := by rw [List.getD_eq_getElem?_getD, List.getElem?_eq_getElem hi]; rfl
    rw [g]
    by_cases e1 : r[i] = one
    · have := h1 r hr i hi e1
      rw [e1]
      simp [this]
    · by_cases e2 : r[i] = two
      · have := h2 r hr i hi e2
        rw [e2]
        simp [this]
      · simp [e1, e2]
theorem enumD_zip (r : List Nat) : enumD 0 (r.map enc) = r.zipIdx.map fun p => PyData.tuple [.int (p.2 : Int), .int (p.1 : Int)] := by
  rw [enumD_map]
  rfl
section
variable (n : Nat) (m : Mem) (s : Bool) (b : Bk)
def bIn : CSs := .cons (.if_ (.band (.cons (.cmp .eq (.var 5) (.var 1)) (.cons (.cmp .nin (.tup (.star (.slc (.var 3) .no (.var 4)) (.cons (.var 2) (.star (.slc (.var 3) (.bin .add (.var 4) (.ki 1)) .no) .nil)))) (.var 0)) .nil))) (.cons (.ret (.kb false)) .nil) .nil) .nil
theorem standIn (F : Calls) (rows : List (List Nat)) (one other : Nat) (r : List Nat) (hr : r.length ≤ 1000) (x v i : Nat) (hi : i < r.length) (s4 s5 : Slot) :
    forF F (.tp (.cons (.nm 4) (.cons (.nm 5) .nil))) bIn (MV.d (.tuple [.int (i : Int), .int (v : Int)])) [.v (.d (.tuple (rows.map enc))), .v (.d (.int (one : Int))), .v (.d (.int (other : Int))), .v (.d (.tuple (r.map enc))), s4, s5] m =
      if (!(decide (v = one) && !decide (r.set i other ∈ rows))) = true then .nx [.v (.d (.tuple (rows.map enc))), .v (.d (.int (one : Int))), .v (.d (.int (other : Int))), .v (.d (.tuple (r.map enc))), .v (.d (.int (i : Int))), .v (.d (.int (v : Int)))] m else .rt (.d (.bool false)) m := by
  have c1 := cutD_to (r.map (enc : Nat → D)) i
  have c2 := cutD_from (r.map (enc : Nat → D)) (i + 1)
  rw [← List.map_take] at c1
  rw [← List.map_drop, show ((i + 1 : Nat) : Int) = (i : Int) + 1 by omega] at c2
  have hset : r.set i other = r.take i ++ other :: r.drop (i + 1) := by rw [List.set_eq_take_append_cons_drop, if_pos hi]
  have e1 := cmp_nin (r.set i other) rows (by decide)
  rw [hset] at e1
  simp only [enc_list, List.map_append, List.map_cons] at e1
  rw [hset]
  have hz : (r.take i ++ other :: r.drop (i + 1)).length ≤ sizeLine := size_ge (by rw [← hset]; simp; omega)
  have hz2 : min i r.length + (r.length - (i + 1) + 1) ≤ sizeLine := by simpa using hz
  by_cases h1 : v = one
  · subst h1
    by_cases q : r.take i ++ other :: r.drop (i + 1) ∈ rows
    · simp only [q, decide_true, Bool.not_true, enc_nat] at e1
      simp [forF, bIn, slcD, c1, c2, e1, hz2, q, -List.map_take, -List.map_drop]
    · simp only [q, decide_false, Bool.not_false, enc_nat] at e1
      simp [forF, bIn, slcD, c1, c2, e1, hz2, q, -List.map_take, -List.map_drop]
  · have h1' : ¬ ((v : Int) = (one : Int)) := by omega
    simp [forF, bIn, h1, h1']
theorem stand (rows : List (List Nat)) (hl : ∀ r ∈ rows, r.length ≤ 1000) (one other : Nat) : callF Fs (n + 1) 51 [.d (.tuple (rows.map enc)), .d (.int (one : Int)), .d (.int (other : Int))] m = .ok (.d (.bool (standB rows one other))) m := by
  rw [callF_at h51 _ _ _ rfl]
  have hbd : d51.body = .cons (.for_ (.nm 3) (.dat (.var 0)) (.cons (.for_ (.tp (.cons (.nm 4) (.cons (.nm 5) .nil))) (.enum (.var 3)) bIn) .nil)) (.cons (.ret (.kb true)) .nil) := rfl
  have key := forS_all (f := forF (callF Fs n) (.nm 3) (.cons (.for_ (.tp (.cons (.nm 4) (.cons (.nm 5) .nil))) (.enum (.var 3)) bIn) .nil)) (m := m) (fun r => r.zipIdx.all fun p => !(decide (p.1 = one) && !decide (r.set p.2 other ∈ rows))) (fun r : List Nat => MV.d (enc r)) (.d (.bool false))
    (fun e => ∃ s3 s4 s5, e = [.v (.d (.tuple (rows.map enc))), .v (.d (.int (one : Int))), .v (.d (.int (other : Int))), s3, s4, s5]) rows [.v (.d (.tuple (rows.map enc))), .v (.d (.int (one : Int))), .v (.d (.int (other : Int))), .un, .un, .un] ⟨_, _, _, rfl⟩ (by
      rintro r hr e ⟨s3, s4, s5, rfl⟩
      have inner := forS_all (f := forF (callF Fs n) (.tp (.cons (.nm 4) (.cons (.nm 5) .nil))) bIn) (m := m) (fun p : Nat × Nat => !(decide (p.1 = one) && !decide (r.set p.2 other ∈ rows))) (fun p => MV.d (.tuple [.int (p.2 : Int), .int (p.1 : Int)])) (.d (.bool false))
        (fun e => ∃ s4 s5, e = [.v (.d (.tuple (rows.map enc))), .v (.d (.int (one : Int))), .v (.d (.int (other : Int))), .v (.d (.tuple (r.map enc))), s4, s5]) r.zipIdx [.v (.d (.tuple (rows.map enc))), .v (.d (.int (one : Int))), .v (.d (.int (other : Int))), .v (.d (.tuple (r.map enc))), s4, s5] ⟨_, _, rfl⟩ (by
          rintro ⟨v, i⟩ hp e ⟨s4, s5, rfl⟩
          have hi : i < r.length := (List.getElem?_eq_some_iff.mp (List.mk_mem_zipIdx_iff_getElem?.mp hp)).1
          have h := standIn m (callF Fs n) rows one other r (hl r hr) 0 v i hi s4 s5
          refine ⟨fun c => ?_, fun c => ?_⟩
          · rw [if_pos c] at h
            exact ⟨_, h, _, _, rfl⟩
          · rw [if_neg (by rw [c]; decide)] at h
            exact h)
      have hen := enumD_zip r
      refine ⟨fun c => ?_, fun c => ?_⟩
      · obtain ⟨r', e', s4', s5', rfl⟩ := inner.1 c
        refine ⟨[.v (.d (.tuple (rows.map enc))), .v (.d (.int (one : Int))), .v (.d (.int (other : Int))), .v (.d (.tuple (r.map enc))), s4', s5'], ?_, _, _, _, rfl⟩
        simp only [forF, tgt_nm]
        simp [hen, -List.map_map]
        rw [List.map_map]
        simp only [Function.comp_def]
        rw [e']
        simp
      · have e' := inner.2 c
        simp only [forF, tgt_nm]
        simp [hen, -List.map_map]
        rw [List.map_map]
        simp only [Function.comp_def]
        rw [e']
        simp)
  have hmm := map_d rows
  rw [hbd]
  unfold standB
  cases q : (rows.all fun r => r.zipIdx.all fun p => !(decide (p.1 = one) && !decide (r.set p.2 other ∈ rows))) with
  | true =>
    obtain ⟨r', e', s3, s4, s5, rfl⟩ := key.1 q
    simp only [enc_list] at e' hmm
    simp [d51, -List.map_map, hmm, e']
  | false =>
    have e' := key.2 q
    simp only [enc_list] at e' hmm
    simp [d51, -List.map_map, hmm, e']
end
end L02

set_option maxRecDepth 100000
set_option linter.all false
set_option Elab.async false
namespace L02
open Mp PySem PySem.Spec PyProof.Rows L2
open Enc (enc)
def fars (many i : Nat) : List Nat := (List.range (many - (i + 1))).map fun j => i + 1 + j
def pB (b : Bk) (i j : Nat) : Bool := b.kinds.all fun k => standB k.2 i j && standB k.2 j i
def pairs1 (b : Bk) (i : Nat) : List (Nat × Nat) := ((fars b.many i).filter fun j => pB b i j).map fun j => (i, j)
def alikeL (b : Bk) : List (Nat × Nat) := (List.range b.many).flatMap (pairs1 b)
theorem rg2N {many i : Nat} (hi : i < many) (hm : many ≤ 10000) (m : Mem) : rg2M (.d (.int ((i : Int) + 1))) (.d (.int (many : Int))) m = .ok ((fars many i).map fun j : Nat => MV.d (.int (j : Int))) m := by
  have h1 : rgOk ((i : Int) + 1) (many : Int) = true := by
    have : sizeLine = 2 ^ 24 := rfl
    simp only [rgOk, decide_eq_true_eq]
    refine ⟨by omega, by omega, by omega, by omega, by omega⟩
  have h2 : rangeD ((i : Int) + 1) (many : Int) = (fars many i).map fun j : Nat => PyData.int (j : Int) := by
    unfold rangeD fars
    rw [show ((many : Int) - ((i : Int) + 1)).toNat = many - (i + 1) by omega, List.map_map]
    refine List.map_congr_left fun j _ => ?_
    simp
  simp [h1, h2]
theorem alike_len (b : Bk) (h : b.many ≤ 3) : (alikeL b).length ≤ 9 := by
  have h1 : ∀ i, (pairs1 b i).length ≤ 3 := fun i => by
    have := List.length_filter_le (fun j => pB b i j) (fars b.many i)
    simp only [pairs1, fars, List.length_map, List.length_range] at *
    omega
  have h2 : ∀ l : List Nat, (l.flatMap (pairs1 b)).length ≤ 3 * l.length := fun l => by
    induction l with
    | nil => simp
    | cons x l ih => have := h1 x; simp only [List.flatMap_cons, List.length_append, List.length_cons]; omega
  have := h2 (List.range b.many)
  simp only [List.length_range] at this
  unfold alikeL
  omega
section
variable (n : Nat) (m : Mem) (s : Bool) (b : Bk)
def bPair : CSs := .cons (.if_ (.b1 .all (.comp (.nm 6) (.dat (.var 1)) (.kb true) (.band (.cons (.call 51 (.cons (.var 6) (.cons (.var 3) (.cons (.var 4) .nil)))) (.cons (.call 51 (.cons (.var 6) (.cons (.var 4) (.cons (.var 3) .nil)))) .nil))) [("rows", 6)])) (.cons (.app 2 (.tup (.cons (.var 3) (.cons (.var 4) .nil)))) .nil) .nil) .nil
theorem pairTurn (hb : BkOk b) (i j : Nat) (A : List D) (hA : A.length ≤ 100) (s0 s4 s5 s6 : Slot) :
    forF (callF Fs (n + 1)) (.nm 4) bPair (MV.d (.int (j : Int))) [s0, .v (.d (.list (b.kinds.map fun k => PyData.tuple (k.2.map enc)))), .own A, .v (.d (.int (i : Int))), s4, s5, s6] m =
      .nx [s0, .v (.d (.list (b.kinds.map fun k => PyData.tuple (k.2.map enc)))), .own (A ++ (if pB b i j = true then [enc (i, j)] else [])), .v (.d (.int (i : Int))), .v (.d (.int (j : Int))), s5, s6] m := by
  have hs : A.length < sizeLine := by have : sizeLine = 2 ^ 24 := rfl; omega
  have z2 : (2 : Nat) ≤ sizeLine := by decide
  have e1 : ∀ s0 s2 s5 s6, mapM' (compF (callF Fs (n + 1)) (.nm 6) (.kb true) (.band (.cons (.call 51 (.cons (.var 6) (.cons (.var 3) (.cons (.var 4) .nil)))) (.cons (.call 51 (.cons (.var 6) (.cons (.var 4) (.cons (.var 3) .nil)))) .nil))) [("rows", 6)] [s0, .v (.d (.list (b.kinds.map fun k => PyData.tuple (k.2.map enc)))), s2, .v (.d (.int (i : Int))), .v (.d (.int (j : Int))), s5, s6]) (b.kinds.map fun k => MV.d (.tuple (k.2.map enc))) m = .ok (b.kinds.map fun k => .bool (standB k.2 i j && standB k.2 j i)) m := fun s0 s2 s5 s6 => by
    rw [mapM'_all (g := fun k : Kd => PyData.bool (standB k.2 i j && standB k.2 j i))]
    intro k hk
    have hko := hb.kinds k hk
    have hl : ∀ r ∈ k.2, r.length ≤ 1000 := fun r hr => by have := (hko.rows r hr).1; have := hko.w3; omega
    have g1 := stand n m k.2 hl i j
    have g2 := stand n m k.2 hl j i
    cases q : standB k.2 i j <;> simp [compF, g1, g2, q]
  have hmm : (b.kinds.map fun k => PyData.tuple (k.2.map (enc : List Nat → D))).map MV.d = b.kinds.map fun k => MV.d (.tuple (k.2.map enc)) := by rw [List.map_map]; rfl
  have hal := b1_all (fun k : Kd => standB k.2 i j && standB k.2 j i) b.kinds
  unfold pB
  simp only [forF, tgt_nm]
  simp [bPair, -List.map_map, -List.all_map, hmm, e1, hal]
  cases q : b.kinds.all fun k => standB k.2 i j && standB k.2 j i <;> simp [hs, z2]
theorem alike (hb : BkOk b) : callF Fs (n + 10) 52 [.d (lay s (eB b))] m = .ok (.d (enc (alikeL b))) m := by
  rw [callF_at h52 _ _ _ rfl]
  have i0 := bk0 m s b
  have i2 := bh2 m b
  have e1 := tup_eB h16 n m s b
  have hm3 : b.many ≤ 3 := by rcases hb.many with h | h <;> omega
  have hr := rgN (m := m) (show b.many ≤ 10000 by omega)
  have e2 := mapM'_all (f := compF (callF Fs (n + 9)) (.tp (.cons (.nm 5) (.cons (.nm 6) .nil))) (.kb true) (.var 6) [("width", 5), ("rows", 6)] [.v (.d (lay s (eB b))), .un, .un, .un, .un, .un, .un]) (m := m) (fun k : Kd => MV.d (enc k)) (fun k => PyData.tuple (k.2.map enc)) b.kinds (fun k _ => by simp [compF])
  have hmm := map_d b.kinds
  have hlen := alike_len b hm3
  obtain ⟨r', e3, s3, s4, s5, s6, rfl⟩ := forS_grow (f := forF (callF Fs (n + 9)) (.nm 3) (.cons (.for_ (.nm 4) (.rg2 (.bin .add (.var 3) (.ki 1)) (.idx (.var 0) (.ki 0))) bPair) .nil)) (m := m) (fun i : Nat => MV.d (.int (i : Int))) (fun i => (pairs1 b i).map enc) 90
    (fun A r => ∃ s3 s4 s5 s6, r = [.v (.d (lay s (eB b))), .v (.d (.list (b.kinds.map fun k => PyData.tuple (k.2.map enc)))), .own A, s3, s4, s5, s6]) (List.range b.many) [] [.v (.d (lay s (eB b))), .v (.d (.list (b.kinds.map fun k => PyData.tuple (k.2.map enc)))), .own [], .un, .un, .un, .un] ⟨_, _, _, _, rfl⟩ (by
      rw [← List.map_flatMap, List.length_map]
      simp only [List.length_nil]
      have hq : ((List.range b.many).flatMap (pairs1 b)).length ≤ 9 := hlen
      exact Nat.le_trans (Nat.le_of_eq (Nat.zero_add _)) (Nat.le_trans hq (by omega))) (by
      rintro i hi A r ⟨s3, s4, s5, s6, rfl⟩ hA
      have hi := List.mem_range.mp hi
      have hr2 := rg2N hi (by omega) m
      have hp : (pairs1 b i).map (enc : Nat × Nat → D) = (fars b.many i).flatMap fun j => if pB b i j = true then [(enc (i, j) : D)] else [] := by
        unfold pairs1
        generalize fars b.many i = L
        induction L with
        | nil => rfl
        | cons x L ih =>
          rw [List.flatMap_cons, ← ih, List.filter_cons]
          cases q : pB b i x <;> simp
      have hfl : (fars b.many i).length ≤ 3 := by simp only [fars, List.length_map, List.length_range]; omega
      obtain ⟨r', e, t4, t5, t6, rfl⟩ := forS_grow (f := forF (callF Fs (n + 9)) (.nm 4) bPair) (m := m) (fun j : Nat => MV.d (.int (j : Int))) (fun j => if pB b i j = true then [(enc (i, j) : D)] else []) 95
        (fun A r => ∃ s4 s5 s6, r = [.v (.d (lay s (eB b))), .v (.d (.list (b.kinds.map fun k => PyData.tuple (k.2.map enc)))), .own A, .v (.d (.int (i : Int))), s4, s5, s6]) (fars b.many i) A [.v (.d (lay s (eB b))), .v (.d (.list (b.kinds.map fun k => PyData.tuple (k.2.map enc)))), .own A, .v (.d (.int (i : Int))), s4, s5, s6] ⟨_, _, _, rfl⟩ (by rw [← hp]; omega) (by
          rintro j hj A r ⟨s4, s5, s6, rfl⟩ hA
          exact ⟨_, pairTurn (n + 8) m b hb i j A (by omega) _ s4 s5 s6, _, _, _, rfl⟩)
      rw [← hp] at e
      refine ⟨[.v (.d (lay s (eB b))), .v (.d (.list (b.kinds.map fun k => PyData.tuple (k.2.map enc)))), .own (A ++ (pairs1 b i).map enc), .v (.d (.int (i : Int))), t4, t5, t6], ?_, _, _, _, _, rfl⟩
      generalize (pairs1 b i).map (enc : Nat × Nat → D) = Q at *
      simp only [forF, tgt_nm]
      simp [i0, -rg2M_i, hr2, e])
  rw [← List.map_flatMap, List.nil_append] at e3
  have hbd : d52.body = .cons (.par [1, 2] [false, true] (.cons (.comp (.tp (.cons (.nm 5) (.cons (.nm 6) .nil))) (.dat (.idx (.call 16 (.cons (.var 0) .nil)) (.ki 2))) (.kb true) (.var 6) [("width", 5), ("rows", 6)]) (.cons (.lst .nil) .nil))) (.cons (.for_ (.nm 3) (.rg1 (.idx (.var 0) (.ki 0))) (.cons (.for_ (.nm 4) (.rg2 (.bin .add (.var 3) (.ki 1)) (.idx (.var 0) (.ki 0))) bPair) .nil)) (.frz 2 (.cons (.ret (.b1 .tup (.var 2))) .nil))) := rfl
  rw [hbd]
  have z0 : (0 : Nat) ≤ sizeLine := by decide
  have hE : (List.range b.many).flatMap (pairs1 b) = alikeL b := rfl
  rw [hE] at e3
  rw [show (enc (alikeL b) : D) = .tuple ((alikeL b).map enc) from rfl]
  generalize (alikeL b).map (enc : Nat × Nat → D) = Q at *
  simp [d52, e1, i0, i2, -List.map_map, hmm, e2, z0, -rgM_i, hr, -enc_pair, -enc_list]
  rw [e3]
  simp
end
end L02

set_option maxRecDepth 100000
set_option linter.all false
set_option Elab.async false
namespace L02
open Mp PySem PySem.Spec PyProof.Rows L2
open Enc (enc)
/-! ### without some values -/
def leftL (many : Nat) (vs : List Nat) : List Nat := (List.range many).filter fun v => !decide (v ∈ vs)
def renum (L r : List Nat) : List Nat := r.map fun v => L.idxOf v
def fineL (L : List Nat) (k : Kd) : List (List Nat) := k.2.filter fun r => r.all fun v => decide (v ∈ L)
def whoutB (b : Bk) (vs : List Nat) : Bk := ⟨(leftL b.many vs).length, b.tell, b.kinds.map fun k => (k.1, uniqL ((fineL (leftL b.many vs) k).map (renum (leftL b.many vs))))⟩
def lawWhoutB (b : Bk) (vs : List Nat) : Bk := ⟨(leftL b.many vs).length, b.tell, b.kinds.map fun k => (k.1, srtL ((k.2.filter fun r => r.all fun v => !decide (v ∈ vs)).map (renum (leftL b.many vs))))⟩
theorem findD_idx (v : Nat) : ∀ (L : List Nat), v ∈ L → findD (L.map enc) (.int (v : Int)) = some (L.idxOf v)
  | [], h => by cases h
  | x :: L, h => by
    unfold findD
    rw [List.map_cons, List.findIdx?_cons]
    have e : PyData.eqv (enc x) (.int (v : Int)) = decide (x = v) := eqv_enc x v
    by_cases q : x = v
    · subst q
      rw [e]; simp
    · rw [e]
      have hv : v ∈ L := by simpa [Ne.symm q] using h
      have ih := findD_idx v L hv
      unfold findD at ih
      simp only [q, decide_false, Bool.false_eq_true, if_false, ih, Option.map_some]
      have q' : (x == v) = false := by simpa using q
      rw [List.idxOf_cons, q']
      rfl
theorem renum_inj {L : List Nat} : ∀ {a b : List Nat}, (∀ v ∈ a, v ∈ L) → (∀ v ∈ b, v ∈ L) → renum L a = renum L b → a = b
  | [], [], _, _, _ => rfl
  | [], _ :: _, _, _, h => by simp [renum] at h
  | _ :: _, [], _, _, h => by simp [renum] at h
  | x :: a, y :: b, ha, hb, h => by
    simp only [renum, List.map_cons, List.cons.injEq] at h
    have hx := ha x (by simp)
    have hy := hb y (by simp)
    have hxy : x = y := by
      have h1 := List.getElem_idxOf (List.idxOf_lt_length_of_mem hx)
      have h2 := List.getElem_idxOf (List.idxOf_lt_length_of_mem hy)
      rw [← h1, ← h2]
      congr 1
      exact h.1
    rw [hxy, renum_inj (fun v hv => ha v (by simp [hv])) (fun v hv => hb v (by simp [hv])) h.2]
theorem mem_left {many : Nat} {vs : List Nat} {v : Nat} (h : v < many) : v ∈ leftL many vs ↔ v ∉ vs := by
  simp [leftL, h]
theorem whout_eq {b : Bk} (hb : BkOk b) (vs : List Nat) : lawWhoutB b vs = whoutB b vs := by
  unfold lawWhoutB whoutB
  congr 1
  refine List.map_congr_left fun k hk => ?_
  have hko := hb.kinds k hk
  have hf : (k.2.filter fun r => r.all fun v => !decide (v ∈ vs)) = fineL (leftL b.many vs) k := by
    unfold fineL
    refine List.filter_congr fun r hr => ?_
    rw [Bool.eq_iff_iff, List.all_eq_true, List.all_eq_true]
    refine forall_congr' fun v => forall_congr' fun hv => ?_
    have := mem_left (vs := vs) ((hko.rows r hr).2 v hv)
    simp [this]
  rw [hf, srt_uniq]
  refine map_nodup ((asc_nodup hko.asc).filter _) fun a ha c hc e => renum_inj ?_ ?_ e
  · have := (List.mem_filter.mp ha).2
    simpa using this
  · have := (List.mem_filter.mp hc).2
    simpa using this
theorem renum_ne {k : Kd} {many : Nat} (hk : KdOk many k) (L : List Nat) {l : List (List Nat)} (hl : ∀ r ∈ l, r ∈ k.2) : ∀ r ∈ l.map (renum L), r ≠ [] := fun r hr => by
  obtain ⟨q, hq, rfl⟩ := List.mem_map.mp hr
  have h1 := (hk.rows q (hl q hq)).1
  have h2 := hk.w1
  intro z
  simp only [renum, List.map_eq_nil_iff] at z
  rw [z] at h1
  simp at h1
  omega
section
variable (n : Nat) (m : Mem) (s : Bool) (b : Bk)
theorem leftC (F : Calls) (many : Nat) (vs : List Nat) (s0 s2 s3 s4 s5 s6 s7 s8 : Slot) : mapM' (compF F (.nm 7) (.cmp .nin (.var 7) (.var 1)) (.var 7) [("value", 7)] [s0, .v (.d (.tuple (vs.map enc))), s2, s3, s4, s5, s6, s7, s8]) ((List.range many).map fun v : Nat => MV.d (.int (v : Int))) m = .ok ((leftL many vs).map enc) m := by
  rw [mapM'_filter (c := fun v => !decide (v ∈ vs)) (g := fun v : Nat => enc v)]
  · rfl
  · intro v hv
    have c := cmp_nin v vs (by decide)
    simp only [enc_nat] at c
    by_cases q : v ∈ vs
    · simp only [q, decide_true, Bool.not_true] at c
      simp [compF, c, q]
    · simp only [q, decide_false, Bool.not_false] at c
      simp [compF, c, q]
theorem renC (F : Calls) (L r : List Nat) (hr : ∀ v ∈ r, v ∈ L) (s0 s1 s3 s4 s5 s6 s7 s8 : Slot) : mapM' (compF F (.nm 7) (.kb true) (.index (.var 2) (.var 7)) [("value", 7)] [s0, s1, .v (.d (.list (L.map enc))), s3, s4, s5, s6, s7, s8]) (r.map fun v : Nat => MV.d (.int (v : Int))) m = .ok ((renum L r).map enc) m := by
  rw [mapM'_all (g := fun v : Nat => enc (L.idxOf v))]
  · simp [renum]
  · intro v hv
    have h1 := findD_idx v L (hr v hv)
    have h2 := plain_lst L (by decide)
    have h3 := plain_int (v : Int)
    simp [compF, h1, h2, h3]
theorem inC (F : Calls) (L r : List Nat) (s0 s1 s3 s4 s5 s6 s7 s8 : Slot) : mapM' (compF F (.nm 7) (.kb true) (.cmp .in_ (.var 7) (.var 2)) [("value", 7)] [s0, s1, .v (.d (.list (L.map enc))), s3, s4, s5, s6, s7, s8]) (r.map fun v : Nat => MV.d (.int (v : Int))) m = .ok (r.map fun v => .bool (decide (v ∈ L))) m := by
  rw [mapM'_all (g := fun v : Nat => PyData.bool (decide (v ∈ L)))]
  intro v hv
  have c := cmp_inl v L (by decide)
  simp only [enc_nat] at c
  by_cases q : v ∈ L
  · simp only [q, decide_true] at c
    simp [compF, c, q]
  · simp only [q, decide_false] at c
    simp [compF, c, q]
def bKd : CSs := .cons (.asg 6 (.comp (.nm 8) (.dat (.var 5)) (.b1 .all (.comp (.nm 7) (.dat (.var 8)) (.kb true) (.cmp .in_ (.var 7) (.var 2)) [("value", 7)])) (.var 8) [("row", 8)])) (.cons (.app 3 (.tup (.cons (.var 4) (.cons (.call 19 (.cons (.comp (.nm 8) (.dat (.var 6)) (.kb true) (.b1 .tup (.comp (.nm 7) (.dat (.var 8)) (.kb true) (.index (.var 2) (.var 7)) [("value", 7)])) [("row", 8)]) .nil)) .nil)))) .nil)
theorem kdTurn {many : Nat} (k : Kd) (hk : KdOk many k) (L : List Nat) (A : List D) (hA : A.length ≤ 2000) (s0 s1 s4 s5 s6 s7 s8 : Slot) :
    forF (callF Fs (n + 1)) (.tp (.cons (.nm 4) (.cons (.nm 5) .nil))) bKd (MV.d (enc k)) [s0, s1, .v (.d (.list (L.map enc))), .own A, s4, s5, s6, s7, s8] m =
      .nx [s0, s1, .v (.d (.list (L.map enc))), .own (A ++ [enc ((k.1, uniqL ((fineL L k).map (renum L))) : Kd)]), .v (.d (.int (k.1 : Int))), .v (.d (.tuple (k.2.map enc))), .v (.d (.list ((fineL L k).map enc))), s7, s8] m := by
  have hs : A.length < sizeLine := by have : sizeLine = 2 ^ 24 := rfl; omega
  have z2 : (2 : Nat) ≤ sizeLine := by decide
  have hN : ∀ r : List Nat, (r.map (enc : Nat → D)).map MV.d = r.map fun v : Nat => MV.d (.int (v : Int)) := fun r => by rw [List.map_map]; rfl
  have e1 : ∀ s6, mapM' (compF (callF Fs (n + 1)) (.nm 8) (.b1 .all (.comp (.nm 7) (.dat (.var 8)) (.kb true) (.cmp .in_ (.var 7) (.var 2)) [("value", 7)])) (.var 8) [("row", 8)] [s0, s1, .v (.d (.list (L.map enc))), .own A, .v (.d (.int (k.1 : Int))), .v (.d (.tuple (k.2.map enc))), s6, s7, s8]) (k.2.map fun r => MV.d (.tuple (r.map enc))) m = .ok ((fineL L k).map enc) m := fun s6 => by
    rw [mapM'_filter (c := fun r => r.all fun v => decide (v ∈ L)) (g := fun r : List Nat => enc r)]
    · rfl
    · intro r hr
      have c := fun s7 s8 => inC m (callF Fs (n + 1)) L r s0 s1 (.own A) (.v (.d (.int (k.1 : Int)))) (.v (.d (.tuple (k.2.map enc)))) s6 s7 s8
      have hal := b1_all (fun v : Nat => decide (v ∈ L)) r
      simp [compF, -List.map_map, -List.all_map, hN, c, hal]
      by_cases q : ∀ v ∈ r, v ∈ L
      · rw [if_pos q, if_pos q]
      · rw [if_neg q, if_neg q]
  have e2 : mapM' (compF (callF Fs (n + 1)) (.nm 8) (.kb true) (.b1 .tup (.comp (.nm 7) (.dat (.var 8)) (.kb true) (.index (.var 2) (.var 7)) [("value", 7)])) [("row", 8)] [s0, s1, .v (.d (.list (L.map enc))), .own A, .v (.d (.int (k.1 : Int))), .v (.d (.tuple (k.2.map enc))), .v (.d (.list ((fineL L k).map enc))), s7, s8]) ((fineL L k).map fun r => MV.d (.tuple (r.map enc))) m = .ok (((fineL L k).map (renum L)).map enc) m := by
    rw [mapM'_all (g := fun r : List Nat => enc (renum L r)), List.map_map]
    · rfl
    · intro r hr
      have c := fun s7 s8 => renC m (callF Fs (n + 1)) L r (by have := (List.mem_filter.mp hr).2; simpa using this) s0 s1 (.own A) (.v (.d (.int (k.1 : Int)))) (.v (.d (.tuple (k.2.map enc)))) (.v (.d (.list ((fineL L k).map enc)))) s7 s8
      simp [compF, -List.map_map, hN, c]
  have e3 := setOfR n m ((fineL L k).map (renum L)) (renum_ne hk L fun r hr => (List.mem_filter.mp hr).1) (by rw [List.length_map]; exact Nat.lt_of_le_of_lt (List.length_filter_le _ _) (show k.2.length < 64 by have := hk.len; omega))
  have hm1 : (k.2.map (enc : List Nat → D)).map MV.d = k.2.map fun r => MV.d (.tuple (r.map enc)) := by rw [List.map_map]; rfl
  have hm2 : ((fineL L k).map (enc : List Nat → D)).map MV.d = (fineL L k).map fun r => MV.d (.tuple (r.map enc)) := by rw [List.map_map]; rfl
  have hE : (enc ((k.1, uniqL ((fineL L k).map (renum L))) : Kd) : D) = .tuple [.int (k.1 : Int), .tuple ((uniqL ((fineL L k).map (renum L))).map enc)] := rfl
  rw [hE]
  generalize (fineL L k).map (renum L) = Q at *
  generalize fineL L k = Fi at *
  simp only [forF]
  simp [bKd, -List.map_map, hm1, e1, hm2, e2, e3, hs, z2]
theorem without (hb : BkOk b) (hl : b.kinds.length ≤ 1000) (vs : List Nat) : callF Fs (n + 10) 53 [.d (lay s (eB b)), .d (.tuple (vs.map enc))] m = match strange b vs with
    | some v => exN1 "NoValue" (v : Int) m
    | none => if leftL b.many vs = [] then .ex "Unfit" none m else .ok (.d (eB (whoutB b vs))) m := by
  rw [callF_at h53 _ _ _ rfl]
  have e0 : callF Fs (n + 9) 41 [.d (lay s (eB b)), .d (.tuple (vs.map enc))] m = _ := chkValues (n + 6) m s b false vs
  have i0 := bk0 m s b
  have i1 := bk1 m s b
  have i2 := bh2 m b
  have e1 := tup_eB h16 n m s b
  have hm3 : b.many ≤ 3 := by rcases hb.many with h | h <;> omega
  have hr := rgN (m := m) (show b.many ≤ 10000 by omega)
  cases hs : strange b vs with
  | some v =>
    rw [hs] at e0
    simp only at e0
    simp [d53, b53, e0, exN1]
  | none =>
    rw [hs] at e0
    simp only at e0
    have e2 := fun s2 s3 s4 s5 s6 s7 s8 => leftC m (callF Fs (n + 9)) b.many vs (.v (.d (lay s (eB b)))) s2 s3 s4 s5 s6 s7 s8
    have hbd : d53.body = .cons (.do_ (.call 41 (.cons (.var 0) (.cons (.var 1) .nil)))) (.cons (.asg 2 (.comp (.nm 7) (.rg1 (.idx (.var 0) (.ki 0))) (.cmp .nin (.var 7) (.var 1)) (.var 7) [("value", 7)])) (.cons (.if_ (.cmp .eq (.b1 .len (.var 2)) (.ki 0)) (.cons (.raise "Unfit" .no) .nil) .nil) (.cons (.asgO 3 (.lst .nil)) (.cons (.for_ (.tp (.cons (.nm 4) (.cons (.nm 5) .nil))) (.dat (.idx (.call 16 (.cons (.var 0) .nil)) (.ki 2))) bKd) (.frz 3 (.cons (.ret (.tup (.cons (.b1 .len (.var 2)) (.cons (.idx (.var 0) (.ki 1)) (.cons (.b1 .tup (.var 3)) .nil))))) .nil)))))) := rfl
    rw [hbd]
    have hEw : eB (whoutB b vs) = .tuple [.int ((leftL b.many vs).length : Int), .bool b.tell, .tuple (b.kinds.flatMap fun k => [enc ((k.1, uniqL ((fineL (leftL b.many vs) k).map (renum (leftL b.many vs)))) : Kd)])] := by
      rw [← List.map_eq_flatMap]
      simp only [eB, whoutB, List.map_map]; rfl
    obtain ⟨r', e3, s4, s5, s6, s7, s8, rfl⟩ := forS_grow (f := forF (callF Fs (n + 9)) (.tp (.cons (.nm 4) (.cons (.nm 5) .nil))) bKd) (m := m) (fun k : Kd => MV.d (enc k)) (fun k => [enc ((k.1, uniqL ((fineL (leftL b.many vs) k).map (renum (leftL b.many vs)))) : Kd)]) 1500
      (fun A r => ∃ s4 s5 s6 s7 s8, r = [.v (.d (lay s (eB b))), .v (.d (.tuple (vs.map enc))), .v (.d (.list ((leftL b.many vs).map enc))), .own A, s4, s5, s6, s7, s8]) b.kinds [] [.v (.d (lay s (eB b))), .v (.d (.tuple (vs.map enc))), .v (.d (.list ((leftL b.many vs).map enc))), .own [], .un, .un, .un, .un, .un] ⟨_, _, _, _, _, rfl⟩ (by
        rw [← List.map_eq_flatMap, List.length_map]; simp; omega) (by
        rintro k hk A r ⟨s4, s5, s6, s7, s8, rfl⟩ hA
        exact ⟨_, kdTurn (n + 8) m k (hb.kinds k hk) (leftL b.many vs) A (by omega) _ _ s4 s5 s6 s7 s8, _, _, _, _, _, rfl⟩)
    have hmm := map_d b.kinds
    have z0 : (0 : Nat) ≤ sizeLine := by decide
    have z3 : (3 : Nat) ≤ sizeLine := by decide
    rw [hEw]
    rw [List.nil_append] at e3
    generalize (b.kinds.flatMap fun k => [(enc ((k.1, uniqL ((fineL (leftL b.many vs) k).map (renum (leftL b.many vs)))) : Kd) : D)]) = Q at *
    generalize leftL b.many vs = L at *
    by_cases hL : L = []
    · subst hL
      simp [d53, e0, i0, -rgM_i, hr, e2]
    · have hL' : ¬ ((L.length : Int) = 0) := fun z => hL (List.length_eq_zero_iff.mp (by omega))
      simp [d53, e0, i0, i1, i2, e1, -rgM_i, hr, e2, hL, z0, z3, -List.map_map, hmm, -enc_pair, -enc_list]
      rw [e3]
      simp [i1, z3, -enc_pair, -enc_list]
end
end L02

set_option maxRecDepth 100000
set_option linter.all false
set_option Elab.async false
namespace L02
open Mp PySem PySem.Spec PyProof.Rows L2
open Enc (enc)
/-! ### the law's own tables -/
theorem isTupR {l : List (List Nat)} (h : ∀ r ∈ l, r ≠ []) : ∀ a ∈ l, isTupD (enc a) = true := fun a ha => isTup_row (h a ha)
section
variable (n : Nat) (m : Mem) (b : Bk)
theorem lturnIn (F : Calls) (t r : List Nat) (hr : ∀ v ∈ r, v < t.length) (s0 s2 s3 s4 s5 s6 : Slot) :
    compF F (.nm 5) (.kb true) (.b1 .tup (.comp (.nm 6) (.dat (.var 5)) (.kb true) (.idx (.var 1) (.var 6)) [("_law_bit", 6)])) [("_law_own", 5)] [s0, .v (.d (.tuple (t.map enc))), s2, s3, s4, s5, s6] (MV.d (.tuple (r.map enc))) m = .ok (some (enc (turnR t r))) m := by
  have e1 : ∀ s5 s6, mapM' (compF F (.nm 6) (.kb true) (.idx (.var 1) (.var 6)) [("_law_bit", 6)] [s0, .v (.d (.tuple (t.map enc))), s2, s3, s4, s5, s6]) (r.map fun v : Nat => MV.d (.int (v : Int))) m = .ok ((turnR t r).map enc) m := fun s5 s6 => by
    rw [mapM'_all (g := fun v : Nat => enc (t.getD v 0))]
    · simp [turnR]
    · intro v hv
      obtain ⟨x, x1, x2⟩ : ∃ x, t[v]? = some x ∧ t.getD v 0 = x := ⟨t[v]'(hr v hv), List.getElem?_eq_getElem (hr v hv), by simp [List.getD_eq_getElem?_getD, List.getElem?_eq_getElem (hr v hv)]⟩
      rw [x2]
      simp [compF, x1]
  have hmm : (r.map (enc : Nat → D)).map MV.d = r.map fun v : Nat => MV.d (.int (v : Int)) := by rw [List.map_map]; rfl
  simp [compF, -List.map_map, hmm, e1]
def bLt : CSs := .cons (.app 2 (.tup (.cons (.var 3) (.cons (.b1 .tup (.b1 .srt (.comp (.nm 5) (.dat (.var 4)) (.kb true) (.b1 .tup (.comp (.nm 6) (.dat (.var 5)) (.kb true) (.idx (.var 1) (.var 6)) [("_law_bit", 6)])) [("_law_own", 5)]))) .nil)))) .nil
theorem ltTurn {many : Nat} (F : Calls) (t : List Nat) (k : Kd) (hk : KdOk many k) (ht : t.length = many) (A : List D) (hA : A.length ≤ 2000) (s0 s3 s4 s5 s6 : Slot) :
    forF F (.tp (.cons (.nm 3) (.cons (.nm 4) .nil))) bLt (MV.d (enc k)) [s0, .v (.d (.tuple (t.map enc))), .own A, s3, s4, s5, s6] m =
      .nx [s0, .v (.d (.tuple (t.map enc))), .own (A ++ [enc ((k.1, srtL (k.2.map (turnR t))) : Kd)]), .v (.d (.int (k.1 : Int))), .v (.d (.tuple (k.2.map enc))), s5, s6] m := by
  have hs : A.length < sizeLine := by have : sizeLine = 2 ^ 24 := rfl; omega
  have z2 : (2 : Nat) ≤ sizeLine := by decide
  have e1 : ∀ s2 , mapM' (compF F (.nm 5) (.kb true) (.b1 .tup (.comp (.nm 6) (.dat (.var 5)) (.kb true) (.idx (.var 1) (.var 6)) [("_law_bit", 6)])) [("_law_own", 5)] [s0, .v (.d (.tuple (t.map enc))), s2, .v (.d (.int (k.1 : Int))), .v (.d (.tuple (k.2.map enc))), s5, s6]) (k.2.map fun r => MV.d (.tuple (r.map enc))) m = .ok ((k.2.map (turnR t)).map enc) m := fun s2 => by
    rw [mapM'_all (g := fun r : List Nat => enc (turnR t r)), List.map_map]
    · rfl
    · intro r hr
      exact lturnIn m F t r (fun v hv => by rw [ht]; exact (hk.rows r hr).2 v hv) _ _ _ _ _ _
  have hm1 : (k.2.map (enc : List Nat → D)).map MV.d = k.2.map fun r => MV.d (.tuple (r.map enc)) := by rw [List.map_map]; rfl
  have e2 := b1_srt (l := k.2.map (turnR t)) (isTupR fun r hr => by
    obtain ⟨q, hq, rfl⟩ := List.mem_map.mp hr
    have h1 := (hk.rows q hq).1
    have h2 := hk.w1
    intro z
    simp only [turnR, List.map_eq_nil_iff] at z
    rw [z] at h1; simp at h1; omega) (by decide)
  have hE : (enc ((k.1, srtL (k.2.map (turnR t))) : Kd) : D) = .tuple [.int (k.1 : Int), .tuple ((srtL (k.2.map (turnR t))).map enc)] := rfl
  rw [hE]
  generalize k.2.map (turnR t) = Q at *
  simp only [forF]
  simp [bLt, -List.map_map, hm1, e1, e2, hs, z2]
theorem lawTurned (hb : BkOk b) (hl : b.kinds.length ≤ 1000) (t : List Nat) (ht : t.length = b.many) : callF Fs (n + 1) 55 [.d (eB b), .d (.tuple (t.map enc))] m = .ok (.d (eB (lawTurnBk b t))) m := by
  rw [callF_at h55 _ _ _ rfl]
  have i0 := bh0 m b
  have i1 := bh1 m b
  have i2 := bh2 m b
  have hbd : d55.body = .cons (.asgO 2 (.lst .nil)) (.cons (.for_ (.tp (.cons (.nm 3) (.cons (.nm 4) .nil))) (.dat (.idx (.var 0) (.ki 2))) bLt) (.frz 2 (.cons (.ret (.tup (.cons (.idx (.var 0) (.ki 0)) (.cons (.idx (.var 0) (.ki 1)) (.cons (.b1 .tup (.var 2)) .nil))))) .nil))) := rfl
  rw [hbd]
  have hEw : eB (lawTurnBk b t) = .tuple [.int (b.many : Int), .bool b.tell, .tuple (b.kinds.flatMap fun k => [enc ((k.1, srtL (k.2.map (turnR t))) : Kd)])] := by
    rw [← List.map_eq_flatMap]
    simp only [eB, lawTurnBk, List.map_map]; rfl
  obtain ⟨r', e3, s3, s4, s5, s6, rfl⟩ := forS_grow (f := forF (callF Fs n) (.tp (.cons (.nm 3) (.cons (.nm 4) .nil))) bLt) (m := m) (fun k : Kd => MV.d (enc k)) (fun k => [enc ((k.1, srtL (k.2.map (turnR t))) : Kd)]) 1500
    (fun A r => ∃ s3 s4 s5 s6, r = [.v (.d (eB b)), .v (.d (.tuple (t.map enc))), .own A, s3, s4, s5, s6]) b.kinds [] [.v (.d (eB b)), .v (.d (.tuple (t.map enc))), .own [], .un, .un, .un, .un] ⟨_, _, _, _, rfl⟩ (by
      rw [← List.map_eq_flatMap, List.length_map]; simp; omega) (by
      rintro k hk A r ⟨s3, s4, s5, s6, rfl⟩ hA
      exact ⟨_, ltTurn m (callF Fs n) t k (hb.kinds k hk) ht A (by omega) _ s3 s4 s5 s6, _, _, _, _, rfl⟩)
  have hmm := map_d b.kinds
  have z0 : (0 : Nat) ≤ sizeLine := by decide
  have z3 : (3 : Nat) ≤ sizeLine := by decide
  rw [hEw]
  rw [List.nil_append] at e3
  generalize (b.kinds.flatMap fun k => [(enc ((k.1, srtL (k.2.map (turnR t))) : Kd) : D)]) = Q at *
  simp [d55, i2, z0, -List.map_map, hmm, -enc_pair, -enc_list]
  rw [e3]
  simp [i0, i1, z3, -enc_pair, -enc_list]
theorem lawTurns (hb : BkOk b) (hl : b.kinds.length ≤ 1000) (o : Bk) (hm : b.many = o.many) (ht : b.tell = o.tell) : callF Fs (n + 3) 56 [.d (eB b), .d (eB o)] m = .ok (.d (.list ((intoL b o).map enc))) m := by
  rw [callF_at h56 _ _ _ rfl]
  have i0 := bh0 m b
  have j0 := bh0 m o
  have hmm : b.many = 2 ∨ b.many = 3 := hb.many
  have hpow : b.many ^ b.many ≤ 1000 := by rcases hmm with h | h <;> rw [h] <;> decide
  have hall := tuples_spec h7 (n + 1) m b.many b.many (by omega) hpow (by omega) (by omega)
  unfold intoL
  rw [if_pos ⟨hm, ht⟩]
  have e1 := mapM'_filter (f := compF (callF Fs (n + 2)) (.nm 3) (.cmp .eq (.b1 .len (.b1 .sset (.var 3))) (.b1 .len (.var 3))) (.var 3) [("_law_own", 3)] [.v (.d (eB b)), .v (.d (eB o)), .un, .un]) (m := m) (fun t : List Nat => MV.d (.tuple (t.map enc))) (fun t => decide ((uniqL t).length = t.length)) (fun t => .tuple (t.map enc)) (tuplesL b.many b.many) (fun t htt => by
    have hl := (tuplesL_mem.mp htt).1
    have e := ssetOf_nat t (by omega)
    have e' : b1D .sset (.tuple (t.map enc)) = some (.list ((uniqL t).map enc)) := e
    by_cases q : (uniqL t).length = t.length
    · simp [compF, e', q]
    · have q' : ¬ (((uniqL t).length : Int) = (t.length : Int)) := by omega
      simp [compF, e', q, q'])
  have e2 := mapM'_filter (f := compF (callF Fs (n + 2)) (.nm 3) (.cmp .eq (.call 55 (.cons (.var 0) (.cons (.var 3) .nil))) (.var 1)) (.var 3) [("_law_own", 3)] [.v (.d (eB b)), .v (.d (eB o)), .v (.d (.list ((everyL b.many).map fun t => .tuple (t.map enc)))), .un]) (m := m) (fun t : List Nat => MV.d (.tuple (t.map enc))) (fun t => sameBk (turnBk b t) o) (fun t => .tuple (t.map enc)) (everyL b.many) (fun t htt => by
    have hok := every_ok hmm htt
    have e := lawTurned (n + 1) m b hb hl t hok.2.1
    rw [turn_eq hb hok.1 hok.2.1] at e
    have c := cmp_eB (turnBk b t) o
    unfold sameBk
    cases q : decide ((turnBk b t).many = o.many ∧ (turnBk b t).tell = o.tell ∧ (turnBk b t).kinds = o.kinds) <;> rw [q] at c <;> simp [compF, e, c])
  rw [← every_eq hmm] at e1
  have hm1 : ((tuplesL b.many b.many).map (enc : List Nat → D)).map MV.d = (tuplesL b.many b.many).map fun t => MV.d (.tuple (t.map enc)) := by rw [List.map_map]; rfl
  have hm2 : ((everyL b.many).map fun t => PyData.tuple (t.map enc)).map MV.d = (everyL b.many).map fun t => MV.d (.tuple (t.map enc)) := by rw [List.map_map]; rfl
  generalize everyL b.many = E at *
  generalize tuplesL b.many b.many = A at *
  simp [d56, b56, i0, j0, hm.symm, hall, -List.map_map, hm1, e1, hm2, e2]
  try rfl
/-! ### swapped -/
def bSw : CSs := (.cons (.if_ (.cmp .in_ (.idx (.var 5) (.var 6)) (.tup (.cons (.var 1) (.cons (.var 2) .nil)))) (.cons (.asg 7 (.tup (.cons (.bin .sub (.bin .add (.var 1) (.var 2)) (.idx (.var 5) (.var 6))) .nil))) (.cons (.if_ (.cmp .nin (.bin .add (.bin .add (.slc (.var 5) .no (.var 6)) (.var 7)) (.slc (.var 5) (.bin .add (.var 6) (.ki 1)) .no)) (.var 4)) (.cons (.ret (.kb false)) .nil) .nil) .nil)) .nil) .nil)
def cSw (rows : List (List Nat)) (one two : Nat) (r : List Nat) (i : Nat) : Bool := !(decide (r.getD i 0 = one ∨ r.getD i 0 = two) && !decide (r.set i (one + two - r.getD i 0) ∈ rows))
theorem swIn (F : Calls) (rows : List (List Nat)) (one two : Nat) (r : List Nat) (hr : r.length ≤ 1000) (i : Nat) (hi : i < r.length) (s0 s3 s6 s7 : Slot) :
    (cSw rows one two r i = true → ∃ s7', forF F (.nm 6) bSw (MV.d (.int (i : Int))) [s0, .v (.d (.int (one : Int))), .v (.d (.int (two : Int))), s3, .v (.d (.tuple (rows.map enc))), .v (.d (.tuple (r.map enc))), s6, s7] m = .nx [s0, .v (.d (.int (one : Int))), .v (.d (.int (two : Int))), s3, .v (.d (.tuple (rows.map enc))), .v (.d (.tuple (r.map enc))), .v (.d (.int (i : Int))), s7'] m) ∧
    (cSw rows one two r i = false → forF F (.nm 6) bSw (MV.d (.int (i : Int))) [s0, .v (.d (.int (one : Int))), .v (.d (.int (two : Int))), s3, .v (.d (.tuple (rows.map enc))), .v (.d (.tuple (r.map enc))), s6, s7] m = .rt (.d (.bool false)) m) := by
  obtain ⟨x, x1, x2⟩ : ∃ x, r[i]? = some x ∧ r.getD i 0 = x := ⟨r[i], List.getElem?_eq_getElem hi, by simp [List.getD_eq_getElem?_getD, List.getElem?_eq_getElem hi]⟩
  unfold cSw
  rw [x2]
  have c1 := cutD_to (r.map (enc : Nat → D)) i
  have c2 := cutD_from (r.map (enc : Nat → D)) (i + 1)
  rw [← List.map_take] at c1
  rw [← List.map_drop, show ((i + 1 : Nat) : Int) = (i : Int) + 1 by omega] at c2
  have z1 : (1 : Nat) ≤ sizeLine := by decide
  have z2 : (2 : Nat) ≤ sizeLine := by decide
  have hc : cmpD .in_ (.int (x : Int)) (.tuple [.int (one : Int), .int (two : Int)]) = some (decide (x = one ∨ x = two)) := by
    have h := cmp_in x [one, two] (by decide)
    simp only [List.map_cons, List.map_nil, enc_nat] at h
    rw [h]
    simp
  by_cases hx : x = one ∨ x = two
  · have hset : r.set i (one + two - x) = r.take i ++ (one + two - x) :: r.drop (i + 1) := by rw [List.set_eq_take_append_cons_drop, if_pos hi]
    have e1 := cmp_nin (r.set i (one + two - x)) rows (by decide)
    rw [hset] at e1 ⊢
    have hint : ((one : Int) + (two : Int) - (x : Int)) = ((one + two - x : Nat) : Int) := by omega
    have hzz : sizeLine = 2 ^ 24 := rfl
    have a1 : ∀ X : D, binD .add (.tuple ((r.take i).map enc)) (.tuple [X]) = some (.tuple ((r.take i).map enc ++ [X])) := fun X => by
      have : ((r.take i).map (enc : Nat → D)).length + [X].length ≤ sizeLine := by simp; omega
      simp only [binD, this, if_true]
    have a2 : ∀ X : D, binD .add (.tuple ((r.take i).map enc ++ [X])) (.tuple ((r.drop (i + 1)).map enc)) = some (.tuple ((r.take i).map enc ++ X :: (r.drop (i + 1)).map enc)) := fun X => by
      have : ((r.take i).map (enc : Nat → D) ++ [X]).length + ((r.drop (i + 1)).map (enc : Nat → D)).length ≤ sizeLine := by simp; omega
      simp only [binD, this, if_true]
      simp
    simp only [enc_list, List.map_append, List.map_cons, enc_nat] at e1
    rw [decide_eq_true hx] at hc
    by_cases q : r.take i ++ (one + two - x) :: r.drop (i + 1) ∈ rows
    · simp only [q, decide_true, Bool.not_true] at e1
      refine ⟨fun _ => ⟨.v (.d (.tuple [.int ((one + two - x : Nat) : Int)])), ?_⟩, fun h => ?_⟩
      · simp [forF, bSw, x1, hc, z1, z2, slcD, c1, c2, hint, a1, a2, e1, -List.map_take, -List.map_drop, -Int.natCast_sub, -Int.natCast_add]
      · simp [hx, q] at h
    · simp only [q, decide_false, Bool.not_false] at e1
      refine ⟨fun h => ?_, fun _ => ?_⟩
      · simp [hx, q] at h
      · simp [forF, bSw, x1, hc, z1, z2, slcD, c1, c2, hint, a1, a2, e1, -List.map_take, -List.map_drop, -Int.natCast_sub, -Int.natCast_add]
  · rw [decide_eq_false hx] at hc
    refine ⟨fun _ => ⟨s7, ?_⟩, fun h => ?_⟩
    · simp [forF, bSw, x1, hc, z2]
    · simp [hx] at h
end
end L02

set_option maxRecDepth 100000
set_option linter.all false
set_option Elab.async false
namespace L02
open Mp PySem PySem.Spec PyProof.Rows L2
open Enc (enc)
section
variable (n : Nat) (m : Mem) (b : Bk)
theorem swRow (F : Calls) (rows : List (List Nat)) (one two : Nat) (r : List Nat) (hr : r.length ≤ 1000) (w : Nat) (hw : r.length = w) (s0 s5 s6 s7 : Slot) :
    ((List.range w).all (cSw rows one two r) = true → ∃ s6' s7', forF F (.nm 5) (.cons (.for_ (.nm 6) (.rg1 (.var 3)) bSw) .nil) (MV.d (.tuple (r.map enc))) [s0, .v (.d (.int (one : Int))), .v (.d (.int (two : Int))), .v (.d (.int (w : Int))), .v (.d (.tuple (rows.map enc))), s5, s6, s7] m = .nx [s0, .v (.d (.int (one : Int))), .v (.d (.int (two : Int))), .v (.d (.int (w : Int))), .v (.d (.tuple (rows.map enc))), .v (.d (.tuple (r.map enc))), s6', s7'] m) ∧
    ((List.range w).all (cSw rows one two r) = false → forF F (.nm 5) (.cons (.for_ (.nm 6) (.rg1 (.var 3)) bSw) .nil) (MV.d (.tuple (r.map enc))) [s0, .v (.d (.int (one : Int))), .v (.d (.int (two : Int))), .v (.d (.int (w : Int))), .v (.d (.tuple (rows.map enc))), s5, s6, s7] m = .rt (.d (.bool false)) m) := by
  have inner := forS_all (f := forF F (.nm 6) bSw) (m := m) (cSw rows one two r) (fun i : Nat => MV.d (.int (i : Int))) (.d (.bool false))
    (fun e => ∃ s6 s7, e = [s0, .v (.d (.int (one : Int))), .v (.d (.int (two : Int))), .v (.d (.int (w : Int))), .v (.d (.tuple (rows.map enc))), .v (.d (.tuple (r.map enc))), s6, s7]) (List.range w) [s0, .v (.d (.int (one : Int))), .v (.d (.int (two : Int))), .v (.d (.int (w : Int))), .v (.d (.tuple (rows.map enc))), .v (.d (.tuple (r.map enc))), s6, s7] ⟨_, _, rfl⟩ (by
      rintro i hi e ⟨s6, s7, rfl⟩
      have h := swIn m F rows one two r hr i (by rw [hw]; exact List.mem_range.mp hi) s0 (.v (.d (.int (w : Int)))) s6 s7
      refine ⟨fun c => ?_, fun c => h.2 c⟩
      obtain ⟨s7', e⟩ := h.1 c
      exact ⟨_, e, _, _, rfl⟩)
  have hg := rgN (m := m) (show w ≤ 10000 by omega)
  refine ⟨fun c => ?_, fun c => ?_⟩
  · obtain ⟨r', e, s6', s7', rfl⟩ := inner.1 c
    refine ⟨s6', s7', ?_⟩
    simp only [forF, tgt_nm]
    simp [-rgM_i, hg, e]
  · have e := inner.2 c
    simp only [forF, tgt_nm]
    simp [-rgM_i, hg, e]
def kSw (one two : Nat) (k : Kd) : Bool := k.2.all fun r => (List.range k.1).all (cSw k.2 one two r)
def bSwK : CSs := .cons (.for_ (.nm 5) (.dat (.var 4)) (.cons (.for_ (.nm 6) (.rg1 (.var 3)) bSw) .nil)) .nil
theorem swKd (F : Calls) (one two : Nat) (k : Kd) {many : Nat} (hk : KdOk many k) (s0 s3 s4 s5 s6 s7 : Slot) :
    (kSw one two k = true → ∃ s5' s6' s7', forF F (.tp (.cons (.nm 3) (.cons (.nm 4) .nil))) bSwK (MV.d (enc k)) [s0, .v (.d (.int (one : Int))), .v (.d (.int (two : Int))), s3, s4, s5, s6, s7] m = .nx [s0, .v (.d (.int (one : Int))), .v (.d (.int (two : Int))), .v (.d (.int (k.1 : Int))), .v (.d (.tuple (k.2.map enc))), s5', s6', s7'] m) ∧
    (kSw one two k = false → forF F (.tp (.cons (.nm 3) (.cons (.nm 4) .nil))) bSwK (MV.d (enc k)) [s0, .v (.d (.int (one : Int))), .v (.d (.int (two : Int))), s3, s4, s5, s6, s7] m = .rt (.d (.bool false)) m) := by
  have inner := forS_all (f := forF F (.nm 5) (.cons (.for_ (.nm 6) (.rg1 (.var 3)) bSw) .nil)) (m := m) (fun r => (List.range k.1).all (cSw k.2 one two r)) (fun r : List Nat => MV.d (.tuple (r.map enc))) (.d (.bool false))
    (fun e => ∃ s5 s6 s7, e = [s0, .v (.d (.int (one : Int))), .v (.d (.int (two : Int))), .v (.d (.int (k.1 : Int))), .v (.d (.tuple (k.2.map enc))), s5, s6, s7]) k.2 [s0, .v (.d (.int (one : Int))), .v (.d (.int (two : Int))), .v (.d (.int (k.1 : Int))), .v (.d (.tuple (k.2.map enc))), s5, s6, s7] ⟨_, _, _, rfl⟩ (by
      rintro r hr e ⟨s5, s6, s7, rfl⟩
      have hl := (hk.rows r hr).1
      have h := swRow m F k.2 one two r (by have := hk.w3; omega) k.1 hl s0 s5 s6 s7
      refine ⟨fun c => ?_, fun c => h.2 c⟩
      obtain ⟨s6', s7', e⟩ := h.1 c
      exact ⟨_, e, _, _, _, rfl⟩)
  have hm1 : (k.2.map (enc : List Nat → D)).map MV.d = k.2.map fun r => MV.d (.tuple (r.map enc)) := by rw [List.map_map]; rfl
  refine ⟨fun c => ?_, fun c => ?_⟩
  · obtain ⟨r', e, s5', s6', s7', rfl⟩ := inner.1 c
    refine ⟨s5', s6', s7', ?_⟩
    simp only [forF]
    simp [bSwK, -List.map_map, hm1, e]
  · have e := inner.2 c
    simp only [forF]
    simp [bSwK, -List.map_map, hm1, e]
theorem swapped (hb : BkOk b) (one two : Nat) : callF Fs (n + 1) 58 [.d (eB b), .d (.int (one : Int)), .d (.int (two : Int))] m = .ok (.d (.bool (swapB b one two))) m := by
  rw [callF_at h58 _ _ _ rfl]
  have i2 := bh2 m b
  have hbd : d58.body = .cons (.for_ (.tp (.cons (.nm 3) (.cons (.nm 4) .nil))) (.dat (.idx (.var 0) (.ki 2))) bSwK) (.cons (.ret (.kb true)) .nil) := rfl
  rw [hbd]
  have key := forS_all (f := forF (callF Fs n) (.tp (.cons (.nm 3) (.cons (.nm 4) .nil))) bSwK) (m := m) (kSw one two) (fun k : Kd => MV.d (enc k)) (.d (.bool false))
    (fun e => ∃ s3 s4 s5 s6 s7, e = [.v (.d (eB b)), .v (.d (.int (one : Int))), .v (.d (.int (two : Int))), s3, s4, s5, s6, s7]) b.kinds [.v (.d (eB b)), .v (.d (.int (one : Int))), .v (.d (.int (two : Int))), .un, .un, .un, .un, .un] ⟨_, _, _, _, _, rfl⟩ (by
      rintro k hk e ⟨s3, s4, s5, s6, s7, rfl⟩
      have h := swKd m (callF Fs n) one two k (hb.kinds k hk) (.v (.d (eB b))) s3 s4 s5 s6 s7
      refine ⟨fun c => ?_, fun c => h.2 c⟩
      obtain ⟨s5', s6', s7', e⟩ := h.1 c
      exact ⟨_, e, _, _, _, _, _, rfl⟩)
  have hmm := map_d b.kinds
  have hq : swapB b one two = b.kinds.all (kSw one two) := rfl
  rw [hq]
  cases q : b.kinds.all (kSw one two) with
  | true =>
    obtain ⟨r', e', s3, s4, s5, s6, s7, rfl⟩ := key.1 q
    simp [d58, i2, -List.map_map, hmm, e', -enc_pair, -enc_list]
  | false =>
    have e' := key.2 q
    simp [d58, i2, -List.map_map, hmm, e', -enc_pair, -enc_list]
/-! ### the law's own without -/
def unfitD : D := .list [.str "unfit", .bool true]
def kindD (i : Int) : D := .list [.str "kind", .int i, .bool true]
def valueD (i : Int) : D := .list [.str "value", .int i, .bool true]
def whoutD (b : Bk) (vs : List Nat) : D := match strange b vs with
  | some v => valueD (v : Int)
  | none => if leftL b.many vs = [] then unfitD else eB (whoutB b vs)
def bLk : CSs := (.cons (.asg 7 (.comp (.nm 8) (.dat (.var 6)) (.cmp .eq (.comp (.nm 9) (.dat (.var 8)) (.cmp .in_ (.var 9) (.var 1)) (.var 9) [("_law_bit", 9)]) (.lst .nil)) (.var 8) [("_law_own", 8)])) (.cons (.app 4 (.tup (.cons (.var 5) (.cons (.b1 .tup (.b1 .srt (.comp (.nm 8) (.dat (.var 7)) (.kb true) (.b1 .tup (.comp (.nm 9) (.dat (.var 8)) (.kb true) (.index (.var 3) (.var 9)) [("_law_bit", 9)])) [("_law_own", 8)]))) .nil)))) .nil))
def lfine (vs : List Nat) (k : Kd) : List (List Nat) := k.2.filter fun r => r.all fun v => !decide (v ∈ vs)
theorem lbits (F : Calls) (vs r : List Nat) (s0 s2 s3 s4 s5 s6 s7 s8 s9 : Slot) : mapM' (compF F (.nm 9) (.cmp .in_ (.var 9) (.var 1)) (.var 9) [("_law_bit", 9)] [s0, .v (.d (.tuple (vs.map enc))), s2, s3, s4, s5, s6, s7, s8, s9]) (r.map fun v : Nat => MV.d (.int (v : Int))) m = .ok ((r.filter fun v => decide (v ∈ vs)).map enc) m := by
  rw [mapM'_filter (c := fun v => decide (v ∈ vs)) (g := fun v : Nat => enc v)]
  intro v hv
  have c := cmp_in v vs (by decide)
  simp only [enc_nat] at c
  by_cases q : v ∈ vs
  · simp only [q, decide_true] at c
    simp [compF, c, q]
  · simp only [q, decide_false] at c
    simp [compF, c, q]
theorem lren (F : Calls) (L r : List Nat) (hr : ∀ v ∈ r, v ∈ L) (s0 s1 s2 s4 s5 s6 s7 s8 s9 : Slot) : mapM' (compF F (.nm 9) (.kb true) (.index (.var 3) (.var 9)) [("_law_bit", 9)] [s0, s1, s2, .v (.d (.list (L.map enc))), s4, s5, s6, s7, s8, s9]) (r.map fun v : Nat => MV.d (.int (v : Int))) m = .ok ((renum L r).map enc) m := by
  rw [mapM'_all (g := fun v : Nat => enc (L.idxOf v))]
  · simp [renum]
  · intro v hv
    have h1 := findD_idx v L (hr v hv)
    have h2 := plain_lst L (by decide)
    have h3 := plain_int (v : Int)
    simp [compF, h1, h2, h3]
theorem lkTurn (F : Calls) {many : Nat} (k : Kd) (hk : KdOk many k) (vs : List Nat) (A : List D) (hA : A.length ≤ 2000) (s0 s2 s5 s6 s7 s8 s9 : Slot) :
    forF F (.tp (.cons (.nm 5) (.cons (.nm 6) .nil))) bLk (MV.d (enc k)) [s0, .v (.d (.tuple (vs.map enc))), s2, .v (.d (.list ((leftL many vs).map enc))), .own A, s5, s6, s7, s8, s9] m =
      .nx [s0, .v (.d (.tuple (vs.map enc))), s2, .v (.d (.list ((leftL many vs).map enc))), .own (A ++ [enc ((k.1, srtL ((lfine vs k).map (renum (leftL many vs)))) : Kd)]), .v (.d (.int (k.1 : Int))), .v (.d (.tuple (k.2.map enc))), .v (.d (.list ((lfine vs k).map enc))), s8, s9] m := by
  have hs : A.length < sizeLine := by have : sizeLine = 2 ^ 24 := rfl; omega
  have z0 : (0 : Nat) ≤ sizeLine := by decide
  have z2 : (2 : Nat) ≤ sizeLine := by decide
  have hN : ∀ r : List Nat, (r.map (enc : Nat → D)).map MV.d = r.map fun v : Nat => MV.d (.int (v : Int)) := fun r => by rw [List.map_map]; rfl
  have e1 : ∀ s7, mapM' (compF F (.nm 8) (.cmp .eq (.comp (.nm 9) (.dat (.var 8)) (.cmp .in_ (.var 9) (.var 1)) (.var 9) [("_law_bit", 9)]) (.lst .nil)) (.var 8) [("_law_own", 8)] [s0, .v (.d (.tuple (vs.map enc))), s2, .v (.d (.list ((leftL many vs).map enc))), .own A, .v (.d (.int (k.1 : Int))), .v (.d (.tuple (k.2.map enc))), s7, s8, s9]) (k.2.map fun r => MV.d (.tuple (r.map enc))) m = .ok ((lfine vs k).map enc) m := fun s7 => by
    rw [mapM'_filter (c := fun r => r.all fun v => !decide (v ∈ vs)) (g := fun r : List Nat => enc r)]
    · rfl
    · intro r hr
      have c := fun s8 s9 => lbits m F vs r s0 s2 (.v (.d (.list ((leftL many vs).map enc)))) (.own A) (.v (.d (.int (k.1 : Int)))) (.v (.d (.tuple (k.2.map enc)))) s7 s8 s9
      have hq : (r.filter fun v => decide (v ∈ vs)) = [] ↔ (r.all fun v => !decide (v ∈ vs)) = true := by
        rw [List.filter_eq_nil_iff, List.all_eq_true]; simp
      have e := eqNil' (plain_lst (r.filter fun v => decide (v ∈ vs)) (by decide))
      have hd : decide ((r.filter fun v => decide (v ∈ vs)).map (enc : Nat → D) = []) = r.all fun v => !decide (v ∈ vs) := by
        rw [Bool.eq_iff_iff, decide_eq_true_iff, List.map_eq_nil_iff, hq]
      rw [hd] at e
      generalize (r.filter fun v => decide (v ∈ vs)).map (enc : Nat → D) = Q at *
      cases q : r.all fun v => !decide (v ∈ vs) <;> rw [q] at e <;> simp [compF, -List.map_map, hN, c, e, z0]
  have e2 : mapM' (compF F (.nm 8) (.kb true) (.b1 .tup (.comp (.nm 9) (.dat (.var 8)) (.kb true) (.index (.var 3) (.var 9)) [("_law_bit", 9)])) [("_law_own", 8)] [s0, .v (.d (.tuple (vs.map enc))), s2, .v (.d (.list ((leftL many vs).map enc))), .own A, .v (.d (.int (k.1 : Int))), .v (.d (.tuple (k.2.map enc))), .v (.d (.list ((lfine vs k).map enc))), s8, s9]) ((lfine vs k).map fun r => MV.d (.tuple (r.map enc))) m = .ok (((lfine vs k).map (renum (leftL many vs))).map enc) m := by
    rw [mapM'_all (g := fun r : List Nat => enc (renum (leftL many vs) r)), List.map_map]
    · rfl
    · intro r hr
      obtain ⟨hr1, hr2⟩ := List.mem_filter.mp hr
      have c := fun s8 s9 => lren m F (leftL many vs) r (fun v hv => by
        rw [mem_left ((hk.rows r hr1).2 v hv)]
        simpa using List.all_eq_true.mp hr2 v hv) s0 (.v (.d (.tuple (vs.map enc)))) s2 (.own A) (.v (.d (.int (k.1 : Int)))) (.v (.d (.tuple (k.2.map enc)))) (.v (.d (.list ((lfine vs k).map enc)))) s8 s9
      simp [compF, -List.map_map, hN, c]
  have e3 := b1_srt (l := (lfine vs k).map (renum (leftL many vs))) (isTupR (renum_ne hk (leftL many vs) fun r hr => (List.mem_filter.mp hr).1)) (by decide)
  have hm1 : (k.2.map (enc : List Nat → D)).map MV.d = k.2.map fun r => MV.d (.tuple (r.map enc)) := by rw [List.map_map]; rfl
  have hm2 : ((lfine vs k).map (enc : List Nat → D)).map MV.d = (lfine vs k).map fun r => MV.d (.tuple (r.map enc)) := by rw [List.map_map]; rfl
  have hE : (enc ((k.1, srtL ((lfine vs k).map (renum (leftL many vs)))) : Kd) : D) = .tuple [.int (k.1 : Int), .tuple ((srtL ((lfine vs k).map (renum (leftL many vs)))).map enc)] := rfl
  rw [hE]
  generalize (lfine vs k).map (renum (leftL many vs)) = Q at *
  generalize lfine vs k = Fi at *
  simp only [forF]
  simp [bLk, -List.map_map, hm1, e1, hm2, e2, e3, hs, z2]
theorem lawWithout (hb : BkOk b) (hl : b.kinds.length ≤ 1000) (vs : List Nat) : callF Fs (n + 1) 57 [.d (eB b), .d (.tuple (vs.map enc))] m = .ok (.d (whoutD b vs)) m := by
  rw [callF_at h57 _ _ _ rfl]
  have i0 := bh0 m b
  have i1 := bh1 m b
  have i2 := bh2 m b
  have hm3 : b.many ≤ 3 := by rcases hb.many with h | h <;> omega
  have hr := rgN (m := m) (show b.many ≤ 10000 by omega)
  have z0 : (0 : Nat) ≤ sizeLine := by decide
  have z2 : (2 : Nat) ≤ sizeLine := by decide
  have z3 : (3 : Nat) ≤ sizeLine := by decide
  have hN : ∀ r : List Nat, (r.map (enc : Nat → D)).map MV.d = r.map fun v : Nat => MV.d (.int (v : Int)) := fun r => by rw [List.map_map]; rfl
  have e1 : ∀ s2 s3 s4 s5 s6 s7 s8 s9, mapM' (compF (callF Fs n) (.nm 8) (.not_ (.chain .le .lt (.ki 0) (.var 8) (.idx (.var 0) (.ki 0)))) (.var 8) [("_law_own", 8)] [.v (.d (eB b)), .v (.d (.tuple (vs.map enc))), s2, s3, s4, s5, s6, s7, s8, s9]) (vs.map fun v : Nat => MV.d (.int (v : Int))) m = .ok ((vs.filter fun v => !decide (v < b.many)).map enc) m := fun s2 s3 s4 s5 s6 s7 s8 s9 => by
    rw [mapM'_filter (c := fun v => !decide (v < b.many)) (g := fun v : Nat => enc v)]
    intro v hv
    by_cases q : v < b.many <;> simp [compF, i0, q]
  have e2 : ∀ s2 s3 s4 s5 s6 s7 s8 s9, mapM' (compF (callF Fs n) (.nm 8) (.cmp .nin (.var 8) (.var 1)) (.var 8) [("_law_own", 8)] [.v (.d (eB b)), .v (.d (.tuple (vs.map enc))), s2, s3, s4, s5, s6, s7, s8, s9]) ((List.range b.many).map fun v : Nat => MV.d (.int (v : Int))) m = .ok ((leftL b.many vs).map enc) m := fun s2 s3 s4 s5 s6 s7 s8 s9 => by
    rw [mapM'_filter (c := fun v => !decide (v ∈ vs)) (g := fun v : Nat => enc v)]
    · rfl
    · intro v hv
      have c := cmp_nin v vs (by decide)
      simp only [enc_nat] at c
      by_cases q : v ∈ vs
      · simp only [q, decide_true, Bool.not_true] at c
        simp [compF, c, q]
      · simp only [q, decide_false, Bool.not_false] at c
        simp [compF, c, q]
  have hp := neNil' (plain_lst (vs.filter fun v => !decide (v < b.many)) (by decide))
  have hh : (vs.filter fun v => !decide (v < b.many)).head? = strange b vs := List.head?_filter ..
  have hbd : d57.body = .cons (.asg 2 (.comp (.nm 8) (.dat (.var 1)) (.not_ (.chain .le .lt (.ki 0) (.var 8) (.idx (.var 0) (.ki 0)))) (.var 8) [("_law_own", 8)])) (.cons (.if_ (.cmp .ne (.var 2) (.lst .nil)) (.cons (.ret (.lst (.cons (.ks "value") (.cons (.idx (.var 2) (.ki 0)) (.cons (.kb true) .nil))))) .nil) .nil) (.cons (.asg 3 (.comp (.nm 8) (.rg1 (.idx (.var 0) (.ki 0))) (.cmp .nin (.var 8) (.var 1)) (.var 8) [("_law_own", 8)])) (.cons (.if_ (.cmp .eq (.var 3) (.lst .nil)) (.cons (.ret (.lst (.cons (.ks "unfit") (.cons (.kb true) .nil)))) .nil) .nil) (.cons (.asgO 4 (.lst .nil)) (.cons (.for_ (.tp (.cons (.nm 5) (.cons (.nm 6) .nil))) (.dat (.idx (.var 0) (.ki 2))) bLk) (.frz 4 (.cons (.ret (.tup (.cons (.b1 .len (.var 3)) (.cons (.idx (.var 0) (.ki 1)) (.cons (.b1 .tup (.var 4)) .nil))))) .nil))))))) := rfl
  rw [hbd]
  unfold whoutD
  cases hst : strange b vs with
  | some v =>
    rw [hst] at hh
    obtain ⟨l, hfl⟩ : ∃ l, vs.filter (fun v => !decide (v < b.many)) = v :: l := by
      cases q : vs.filter (fun v => !decide (v < b.many)) with
      | nil => rw [q] at hh; cases hh
      | cons a l => rw [q] at hh; cases hh; exact ⟨l, rfl⟩
    rw [hfl] at e1 hp
    simp only [List.map_cons, reduceCtorEq, decide_false, Bool.not_false, enc_nat] at hp e1
    generalize l.map (enc : Nat → D) = Q at *
    simp [d57, -List.map_map, hN, e1, hp, z0, z3, valueD]
  | none =>
    rw [hst] at hh
    have hfl : vs.filter (fun v => !decide (v < b.many)) = [] := by
      cases q : vs.filter (fun v => !decide (v < b.many)) with
      | nil => rfl
      | cons a l => rw [q] at hh; cases hh
    rw [hfl] at e1 hp
    simp only [List.map_nil, decide_true, Bool.not_true] at hp e1
    have hp2 := eqNil' (plain_lst (leftL b.many vs) (by decide))
    have hEw : eB (whoutB b vs) = .tuple [.int ((leftL b.many vs).length : Int), .bool b.tell, .tuple (b.kinds.flatMap fun k => [enc ((k.1, srtL ((lfine vs k).map (renum (leftL b.many vs)))) : Kd)])] := by
      rw [← List.map_eq_flatMap, ← whout_eq hb]
      simp only [eB, lawWhoutB, List.map_map]; rfl
    obtain ⟨r', e3, s5, s6, s7, s8, s9, rfl⟩ := forS_grow (f := forF (callF Fs n) (.tp (.cons (.nm 5) (.cons (.nm 6) .nil))) bLk) (m := m) (fun k : Kd => MV.d (enc k)) (fun k => [enc ((k.1, srtL ((lfine vs k).map (renum (leftL b.many vs)))) : Kd)]) 1500
      (fun A r => ∃ s5 s6 s7 s8 s9, r = [.v (.d (eB b)), .v (.d (.tuple (vs.map enc))), .v (.d (.list [])), .v (.d (.list ((leftL b.many vs).map enc))), .own A, s5, s6, s7, s8, s9]) b.kinds [] [.v (.d (eB b)), .v (.d (.tuple (vs.map enc))), .v (.d (.list [])), .v (.d (.list ((leftL b.many vs).map enc))), .own [], .un, .un, .un, .un, .un] ⟨_, _, _, _, _, rfl⟩ (by
        rw [← List.map_eq_flatMap, List.length_map]; simp; omega) (by
        rintro k hk A r ⟨s5, s6, s7, s8, s9, rfl⟩ hA
        exact ⟨_, lkTurn m (callF Fs n) k (hb.kinds k hk) vs A (by omega) _ _ s5 s6 s7 s8 s9, _, _, _, _, _, rfl⟩)
    have hmm := map_d b.kinds
    rw [hEw]
    rw [List.nil_append] at e3
    generalize (b.kinds.flatMap fun k => [(enc ((k.1, srtL ((lfine vs k).map (renum (leftL b.many vs)))) : Kd) : D)]) = Q at *
    generalize leftL b.many vs = L at *
    by_cases hL : L = []
    · subst hL
      simp only [List.map_nil, decide_true] at hp2 e2
      simp [d57, i0, -List.map_map, hN, e1, hp, hp2, -rgM_i, hr, e2, z0, z2, unfitD]
    · have hL2 : decide (L.map (enc : Nat → D) = []) = false := decide_eq_false (by simpa using hL)
      rw [hL2] at hp2
      have hLn : ∀ X Y : D, (if L = [] then X else Y) = Y := fun X Y => if_neg hL
      simp [d57, i0, -List.map_map, hN, e1, hp, hp2, -rgM_i, hr, e2, z0, z2, z3, i2, hmm, -enc_pair, -enc_list, hL]
      rw [e3]
      simp [i1, z3, -enc_pair, -enc_list]
end
end L02

set_option maxRecDepth 100000
set_option linter.all false
set_option Elab.async false
namespace L02
open Mp PySem PySem.Spec PyProof.Rows L2
open Enc (enc)
section
variable (n : Nat) (m : Mem) (b : Bk)
def headD (b : Bk) (i : Int) : D := if 0 ≤ i ∧ i < (b.kinds.length : Int) then colsD (b.kd i.toNat) else kindD i
theorem heardC (s : Bool) (hb : BkOk b) (i : Int) : callF Fs (n + 5) 54 [.d (lay s (eB b)), .d (.int i), .d .none] m = .ok (.d (headD b i)) m := by
  rw [callF_at h54 _ _ _ rfl]
  have e := columns n m s b hb i
  unfold headD
  by_cases h : 0 ≤ i ∧ i < (b.kinds.length : Int)
  · rw [if_pos h] at e ⊢
    simp [d54, b54, e]
  · rw [if_neg h] at e ⊢
    simp [d54, b54, e, exN, clsN, hndN, hfDs, hfD, exN1, kindD]
theorem heardW (s : Bool) (hb : BkOk b) (hl : b.kinds.length ≤ 1000) (i : Int) (vs : List Nat) : callF Fs (n + 11) 54 [.d (lay s (eB b)), .d (.int i), .d (.tuple (vs.map enc))] m = .ok (.d (whoutD b vs)) m := by
  rw [callF_at h54 _ _ _ rfl]
  have e := without n m s b hb hl vs
  unfold whoutD
  cases hst : strange b vs with
  | some v =>
    rw [hst] at e
    simp only at e
    simp [d54, b54, e, exN, clsN, hndN, hfDs, hfD, exN1, valueD]
  | none =>
    rw [hst] at e
    simp only at e
    by_cases h : leftL b.many vs = []
    · rw [if_pos h] at e
      simp [d54, b54, e, exN, clsN, hndN, hfDs, hfD, unfitD, h]
    · rw [if_neg h] at e
      simp [d54, b54, e, h]
/-! ### the columns that are due -/
def bDue : CSs := .cons (.app 7 (.b1 .tup (.comp (.nm 14) (.rg1 (.var 8)) (.kb true) (.b1 .tup (.b1 .sset (.comp (.nm 16) (.dat (.var 9)) (.kb true) (.idx (.var 16) (.var 14)) [("_law_own", 16)]))) [("_law_k", 14)]))) .nil
theorem dueTurn (F : Calls) {many : Nat} (k : Kd) (hk : KdOk many k) (A : List D) (hA : A.length ≤ 2000) (s0 s1 s2 s3 s4 s5 s6 s8 s9 s10 s11 s12 s13 s14 s15 s16 s17 s18 : Slot) :
    forF F (.tp (.cons (.nm 8) (.cons (.nm 9) .nil))) bDue (MV.d (enc k)) [s0, s1, s2, s3, s4, s5, s6, .own A, s8, s9, s10, s11, s12, s13, s14, s15, s16, s17, s18] m =
      .nx [s0, s1, s2, s3, s4, s5, s6, .own (A ++ [colsD k]), .v (.d (.int (k.1 : Int))), .v (.d (.tuple (k.2.map enc))), s10, s11, s12, s13, s14, s15, s16, s17, s18] m := by
  have hs : A.length < sizeLine := by have : sizeLine = 2 ^ 24 := rfl; omega
  have hr := rgN (m := m) (show k.1 ≤ 10000 by have := hk.w3; omega)
  have hm1 : (k.2.map (enc : List Nat → D)).map MV.d = k.2.map fun r => MV.d (.tuple (r.map enc)) := by rw [List.map_map]; rfl
  have e1 : ∀ c, c < k.1 → ∀ s16, mapM' (compF F (.nm 16) (.kb true) (.idx (.var 16) (.var 14)) [("_law_own", 16)] [s0, s1, s2, s3, s4, s5, s6, .own A, .v (.d (.int (k.1 : Int))), .v (.d (.tuple (k.2.map enc))), s10, s11, s12, s13, .v (.d (.int (c : Int))), s15, s16, s17, s18]) (k.2.map fun r => MV.d (.tuple (r.map enc))) m = .ok ((k.2.map fun r => r.getD c 0).map enc) m := fun c hc s16 => by
    rw [mapM'_all (g := fun r : List Nat => enc (r.getD c 0)), List.map_map]
    · rfl
    · intro r hr
      have hl : c < r.length := by rw [(hk.rows r hr).1]; exact hc
      obtain ⟨x, x1, x2⟩ : ∃ x, r[c]? = some x ∧ r.getD c 0 = x := ⟨r[c], List.getElem?_eq_getElem hl, by simp [List.getD_eq_getElem?_getD, List.getElem?_eq_getElem hl]⟩
      rw [x2]
      simp [compF, x1]
  have e2 : ∀ s14 s16, mapM' (compF F (.nm 14) (.kb true) (.b1 .tup (.b1 .sset (.comp (.nm 16) (.dat (.var 9)) (.kb true) (.idx (.var 16) (.var 14)) [("_law_own", 16)]))) [("_law_k", 14)] [s0, s1, s2, s3, s4, s5, s6, .own A, .v (.d (.int (k.1 : Int))), .v (.d (.tuple (k.2.map enc))), s10, s11, s12, s13, s14, s15, s16, s17, s18]) ((List.range k.1).map fun v : Nat => MV.d (.int (v : Int))) m = .ok ((List.range k.1).map fun c => enc (colL k c)) m := fun s14 s16 => by
    rw [mapM'_all (g := fun c => enc (colL k c))]
    intro c hc
    have e := e1 c (List.mem_range.mp hc)
    have e4 : b1D .sset (.list ((k.2.map fun r => r.getD c 0).map enc)) = some (.list ((colL k c).map enc)) := ssetOf_nat _ (by have := hk.len; simp; omega)
    generalize (k.2.map fun r => r.getD c 0) = L at *
    simp [compF, -List.map_map, hm1, e, e4]
  have hE : colsD k = .tuple ((List.range k.1).map fun c => enc (colL k c)) := rfl
  rw [hE]
  generalize ((List.range k.1).map fun c => (enc (colL k c) : D)) = Q at *
  simp only [forF]
  simp [bDue, -rgM_i, hr, e2, hs]
/-! ### what keeps each kind, the book with single kinds -/
theorem fineC (F : Calls) (hb : BkOk b) (s0 s1 s2 s3 s4 s6 s7 s8 s9 s10 s11 s12 s13 s14 s15 s16 s17 s18 : Slot) :
    mapM' (compF F (.nm 17) (.cmp .eq (.comp (.nm 16) (.dat (.var 5)) (.cmp .nin (.bin .mul (.tup (.cons (.var 17) .nil)) (.idx (.var 16) (.ki 0))) (.idx (.var 16) (.ki 1))) (.var 16) [("_law_own", 16)]) (.lst .nil)) (.var 17) [("_law_v", 17)] [s0, s1, s2, s3, s4, .v (.d (.tuple (b.kinds.map enc))), s6, s7, s8, s9, s10, s11, s12, s13, s14, s15, s16, s17, s18]) ((List.range b.many).map fun v : Nat => MV.d (.int (v : Int))) m = .ok ((constL b).map enc) m := by
  rw [mapM'_filter (c := fun v => b.kinds.all fun k => isConst k v) (g := fun v : Nat => enc v)]
  · rfl
  · intro v hv
    have z0 : (0 : Nat) ≤ sizeLine := by decide
    have z1 : (1 : Nat) ≤ sizeLine := by decide
    have hmm := map_d b.kinds
    have e1 : ∀ s16, mapM' (compF F (.nm 16) (.cmp .nin (.bin .mul (.tup (.cons (.var 17) .nil)) (.idx (.var 16) (.ki 0))) (.idx (.var 16) (.ki 1))) (.var 16) [("_law_own", 16)] [s0, s1, s2, s3, s4, .v (.d (.tuple (b.kinds.map enc))), s6, s7, s8, s9, s10, s11, s12, s13, s14, s15, s16, .v (.d (.int (v : Int))), s18]) (b.kinds.map fun k => MV.d (enc k)) m = .ok ((b.kinds.filter fun k => !isConst k v).map enc) m := fun s16 => by
      rw [mapM'_filter (c := fun k => !isConst k v) (g := fun k : Kd => enc k)]
      intro k hk
      have hko := hb.kinds k hk
      have e2 := replT v k.1 hko.w1 hko.w3
      have e3 := cmp_nin (List.replicate k.1 v) k.2 (by decide)
      simp only [enc_list] at e3
      unfold isConst
      by_cases q : List.replicate k.1 v ∈ k.2
      · simp only [q, decide_true, Bool.not_true] at e3
        simp [compF, e2, e3, z1, q, -List.map_replicate]
      · simp only [q, decide_false, Bool.not_false] at e3
        simp [compF, e2, e3, z1, q, -List.map_replicate]
    have e4 := eqNil' (plain_lst (b.kinds.filter fun k => !isConst k v) (by decide))
    have hd : decide ((b.kinds.filter fun k => !isConst k v).map (enc : Kd → D) = []) = b.kinds.all fun k => isConst k v := by
      rw [Bool.eq_iff_iff, decide_eq_true_iff, List.map_eq_nil_iff, List.filter_eq_nil_iff, List.all_eq_true]
      simp
    rw [hd] at e4
    generalize (b.kinds.filter fun k => !isConst k v).map (enc : Kd → D) = Q at *
    generalize (b.kinds.all fun k => isConst k v) = q at *
    simp [compF, -List.map_map, hmm, e1, e4, z0, -enc_pair, -enc_list]
    cases q <;> simp
theorem singC (F : Calls) (s0 s1 s2 s3 s4 s5 s6 s7 s8 s9 s10 s11 s12 s13 s14 s15 s16 s17 s18 : Slot) :
    mapM' (compF F (.nm 17) (.kb true) (.tup (.cons (.ki 1) (.cons (.tup (.cons (.tup (.cons (.var 17) .nil)) .nil)) .nil))) [("_law_v", 17)] [s0, s1, s2, s3, s4, s5, s6, s7, s8, s9, s10, s11, s12, s13, s14, s15, s16, s17, s18]) ((List.range b.many).map fun v : Nat => MV.d (.int (v : Int))) m = .ok ((List.range b.many).map fun v => enc ((1, [[v]]) : Kd)) m := by
  have z1 : (1 : Nat) ≤ sizeLine := by decide
  have z2 : (2 : Nat) ≤ sizeLine := by decide
  rw [mapM'_all (g := fun v => enc ((1, [[v]]) : Kd))]
  intro v _
  simp [compF, z1, z2]
/-! ### the pairs that are due -/
def bFar : CSs := .cons (.asg 13 (.bin .add (.var 13) (.comp (.nm 18) (.rg2 (.bin .add (.var 14) (.ki 1)) (.var 3)) (.call 58 (.cons (.var 0) (.cons (.var 14) (.cons (.var 18) .nil)))) (.tup (.cons (.var 14) (.cons (.var 18) .nil))) [("_law_far", 18)]))) .nil
theorem farTurn (hb : BkOk b) (i : Nat) (hi : i < b.many) (A : List D) (hA : A.length ≤ 2000) (s1 s2 s4 s5 s6 s7 s8 s9 s10 s11 s12 s14 s15 s16 s17 s18 : Slot) :
    forF (callF Fs (n + 1)) (.nm 14) bFar (MV.d (.int (i : Int))) [.v (.d (eB b)), s1, s2, .v (.d (.int (b.many : Int))), s4, s5, s6, s7, s8, s9, s10, s11, s12, .v (.d (.list A)), s14, s15, s16, s17, s18] m =
      .nx [.v (.d (eB b)), s1, s2, .v (.d (.int (b.many : Int))), s4, s5, s6, s7, s8, s9, s10, s11, s12, .v (.d (.list (A ++ (pairs1 b i).map enc))), .v (.d (.int (i : Int))), s15, s16, s17, s18] m := by
  have hm3 : b.many ≤ 3 := by rcases hb.many with h | h <;> omega
  have hr := rg2N hi (by omega) m
  have z2 : (2 : Nat) ≤ sizeLine := by decide
  have e1 : ∀ s18, mapM' (compF (callF Fs (n + 1)) (.nm 18) (.call 58 (.cons (.var 0) (.cons (.var 14) (.cons (.var 18) .nil)))) (.tup (.cons (.var 14) (.cons (.var 18) .nil))) [("_law_far", 18)] [.v (.d (eB b)), s1, s2, .v (.d (.int (b.many : Int))), s4, s5, s6, s7, s8, s9, s10, s11, s12, .v (.d (.list A)), .v (.d (.int (i : Int))), s15, s16, s17, s18]) ((fars b.many i).map fun j : Nat => MV.d (.int (j : Int))) m = .ok ((pairs1 b i).map enc) m := fun s18 => by
    rw [mapM'_filter (c := fun j => pB b i j) (g := fun j : Nat => enc (i, j))]
    · simp [pairs1]
    · intro j hj
      have e := swapped n m b hb i j
      rw [swap_eq hb] at e
      have e : callF Fs (n + 1) 58 [.d (eB b), .d (.int (i : Int)), .d (.int (j : Int))] m = .ok (.d (.bool (pB b i j))) m := e
      cases q : pB b i j <;> rw [q] at e <;> simp [compF, e, z2]
  have hpl : (pairs1 b i).length ≤ 3 := by
    have := List.length_filter_le (fun j => pB b i j) (fars b.many i)
    simp only [pairs1, fars, List.length_map, List.length_range] at *
    omega
  have ha : binD .add (.list A) (.list ((pairs1 b i).map enc)) = some (.list (A ++ (pairs1 b i).map enc)) := by
    have h1 : A.length + ((pairs1 b i).map (enc : Nat × Nat → D)).length ≤ sizeLine := by have : sizeLine = 2 ^ 24 := rfl; rw [List.length_map]; omega
    simp only [binD, h1, if_true]
  generalize (pairs1 b i).map (enc : Nat × Nat → D) = Q at *
  simp only [forF, tgt_nm]
  simp [bFar, -rg2M_i, hr, e1, ha]
end
end L02

set_option maxRecDepth 100000
set_option linter.all false
set_option Elab.async false
namespace L02
open Mp PySem PySem.Spec PyProof.Rows L2
open Enc (enc)
theorem sameL (n : Nat) (m : Mem) {x : D} (h : fineD 12 x) : callF Fs (n + 13) 3 [.d x, .d x] m = .ok (.d (.bool true)) m := same_ok h3 n m x x rfl h.2 h.1
theorem fS (s : Str) (h : (PyData.str s).canLay0 = true) (d : Nat) : fineD d (.str s) := ⟨h, by simp [PyData.depth]⟩
theorem fI (d : Nat) (i : Int) : fineD d (.int i) := (fineD_int i).mono (by omega)
theorem fB (d : Nat) (i : Bool) : fineD d (.bool i) := (fineD_bool i).mono (by omega)
theorem f2 {d : Nat} {a b : D} (h : fineD d a) (h' : fineD d b) : ∀ x ∈ [a, b], fineD d x := by simpa using ⟨h, h'⟩
theorem f3 {d : Nat} {a b c : D} (h : fineD d a) (h' : fineD d b) (h2 : fineD d c) : ∀ x ∈ [a, b, c], fineD d x := by simpa using ⟨h, h', h2⟩
theorem f4 {d : Nat} {a b c e : D} (h : fineD d a) (h' : fineD d b) (h2 : fineD d c) (h3 : fineD d e) : ∀ x ∈ [a, b, c, e], fineD d x := by simpa using ⟨h, h', h2, h3⟩
theorem f5 {d : Nat} {a b c e g : D} (h : fineD d a) (h' : fineD d b) (h2 : fineD d c) (h3 : fineD d e) (h4 : fineD d g) : ∀ x ∈ [a, b, c, e, g], fineD d x := by simpa using ⟨h, h', h2, h3, h4⟩
theorem fE {α : Type} [Enc α] {d : Nat} (a : α) (h : Enc.dep α ≤ d) : fineD d (enc a) := (fineD_enc a).mono h
theorem fM {α : Type} [Enc α] {d : Nat} (l : List α) (h : Enc.dep α ≤ d) : ∀ x ∈ l.map enc, fineD d x := fun x hx => by
  obtain ⟨a, _, rfl⟩ := List.mem_map.mp hx
  exact fE a h
theorem fBk (b : Bk) (d : Nat) (h : 5 ≤ d) : fineD d (eB b) := (fine_eB' b).mono h
theorem fCols (k : Kd) : fineD 8 (colsD k) := (fineD.tup (d := 5) fun x hx => by
  obtain ⟨c, _, rfl⟩ := List.mem_map.mp hx
  exact fE (colL k c) (by decide)).mono (by omega)
theorem fKind (i : Int) : fineD 8 (kindD i) := (fineD.lst (f3 (fS "kind" (by decide +kernel) 5) (fI _ _) (fB _ _))).mono (by omega)
theorem fWh (b : Bk) (vs : List Nat) : fineD 8 (whoutD b vs) := by
  unfold whoutD
  split
  · exact (fineD.lst (f3 (fS "value" (by decide +kernel) 5) (fI _ _) (fB _ _))).mono (by omega)
  · split
    · exact (fineD.lst (f2 (fS "unfit" (by decide +kernel) 5) (fB _ _))).mono (by omega)
    · exact fBk _ _ (by omega)
section
variable (n : Nat) (m : Mem)
theorem caseRight (b : Bk) (hb : BkOk b) (hl : b.kinds.length ≤ 1000) (t : List Nat) (htn : t.Nodup) (htl : t.length = b.many) (vs : List Nat) :
    callF Fs (n + 14) 59 [.d (eB b), .d (.tuple (t.map enc)), .d (.tuple (vs.map enc))] m = .ok (.d (.bool true)) m := by
  have hm3 : b.many ≤ 3 := by rcases hb.many with h | h <;> omega
  have hm2 : 2 ≤ b.many := by rcases hb.many with h | h <;> omega
  have zs : sizeLine = 2 ^ 24 := rfl
  have z0 : (0 : Nat) ≤ sizeLine := by decide
  have z1 : (1 : Nat) ≤ sizeLine := by decide
  have z2 : (2 : Nat) ≤ sizeLine := by decide
  have z3 : (3 : Nat) ≤ sizeLine := by decide
  have z4 : (4 : Nat) ≤ sizeLine := by decide
  have z5 : (5 : Nat) ≤ sizeLine := by decide
  have hE : eB b = .tuple [.int (b.many : Int), .bool b.tell, .tuple (b.kinds.map enc)] := rfl
  have hlist : ∀ c : Bk, callF Fs (n + 13) 4 [.d (eB c)] m = .ok (.d (lay true (eB c))) m := fun c => by
    have h := fine_eB' c
    exact lists_spec h4 12 (eB c) (Nat.le_trans h.2 (by omega)) h.1 n m
  have a1 := hlist b
  have a2 := hlist (turnBk b t)
  have hmm := map_d b.kinds
  have hrk := rgN (m := m) (show b.kinds.length ≤ 10000 by omega)
  have hrm := rgN (m := m) (show b.many ≤ 10000 by omega)
  have hh : ∀ i : Nat, callF Fs (n + 13) 54 [.d (eB b), .d (.int (i : Int)), .d .none] m = .ok (.d (headD b i)) m := fun i => heardC (n + 8) m b false hb i
  have hk1 : callF Fs (n + 13) 54 [.d (lay true (eB b)), .d (.int (b.kinds.length : Int)), .d .none] m = .ok (.d (kindD (b.kinds.length : Int))) m := by
    have e := heardC (n + 8) m b true hb (b.kinds.length : Int)
    unfold headD at e
    rw [if_neg (by omega)] at e
    exact e
  have hw : callF Fs (n + 13) 54 [.d (lay true (eB b)), .d (.int 0), .d (.tuple (vs.map enc))] m = _ := heardW (n + 2) m b true hb hl 0 vs
  have q1 : callF Fs (n + 13) 44 [.d (lay true (eB b))] m = _ := constants (n + 3) m true b hb
  have q2 : callF Fs (n + 13) 45 [.d (lay true (eB b))] m = _ := single (n + 3) m true b hb hl
  have q3 : callF Fs (n + 13) 48 [.d (lay true (eB b)), .d (.tuple (t.map enc))] m = _ := turned (n + 9) m true b hb t htl
  have q4 : callF Fs (n + 13) 55 [.d (eB b), .d (.tuple (t.map enc))] m = _ := lawTurned (n + 12) m b hb hl t htl
  rw [turn_eq hb htn htl] at q4
  have q5 : callF Fs (n + 13) 57 [.d (eB b), .d (.tuple (vs.map enc))] m = _ := lawWithout (n + 12) m b hb hl vs
  have q6 : callF Fs (n + 13) 52 [.d (lay true (eB b))] m = _ := alike (n + 3) m true b hb
  have q7 : callF Fs (n + 13) 50 [.d (lay true (eB b))] m = _ := turnsOf (n + 2) m true b hb
  have q8 : callF Fs (n + 13) 49 [.d (lay true (eB b)), .d (lay true (eB (turnBk b t)))] m = _ := into (n + 3) m true b hb true (turnBk b t)
  have q9 : callF Fs (n + 13) 49 [.d (eB b), .d (.tuple [.int (5 - (b.many : Int)), .bool b.tell, .tuple []])] m = .ok (.d (.list [])) m := by
    have e := into (n + 3) m false b hb false ⟨5 - b.many, b.tell, []⟩
    have h : intoL b ⟨5 - b.many, b.tell, []⟩ = [] := if_neg (by rintro ⟨z, _⟩; simp only at z; rcases hb.many with h | h <;> rw [h] at z <;> simp at z)
    rw [h] at e
    have hc : (5 : Int) - (b.many : Int) = ((5 - b.many : Nat) : Int) := by omega
    rw [hc]
    exact e
  have q10 : callF Fs (n + 13) 49 [.d (eB b), .d (.tuple [.int (b.many : Int), .bool (!b.tell), .tuple (b.kinds.map enc)])] m = .ok (.d (.list [])) m := by
    have e := into (n + 3) m false b hb false ⟨b.many, !b.tell, b.kinds⟩
    have h : intoL b ⟨b.many, !b.tell, b.kinds⟩ = [] := if_neg (by rintro ⟨_, z⟩; simp only at z; cases h : b.tell <;> rw [h] at z <;> simp at z)
    rw [h] at e
    exact e
  have q11 : callF Fs (n + 13) 56 [.d (eB b), .d (eB b)] m = _ := lawTurns (n + 10) m b hb hl b rfl rfl
  have q12 : callF Fs (n + 13) 56 [.d (eB b), .d (eB (turnBk b t))] m = _ := lawTurns (n + 10) m b hb hl (turnBk b t) rfl rfl
  -- the columns
  have cols : (List.range b.kinds.length).map (fun (i : Nat) => headD b (i : Int)) = b.kinds.map colsD := by
    refine List.ext_getElem (by simp) fun i h1 h2 => ?_
    simp only [List.getElem_map, List.getElem_range]
    unfold headD
    have hi : i < b.kinds.length := by simpa using h1
    rw [if_pos ⟨by omega, by omega⟩]
    rw [show ((i : Nat) : Int).toNat = i from rfl]
    unfold Bk.kd
    rw [List.getD_eq_getElem?_getD, List.getElem?_eq_getElem hi]
    rfl
  obtain ⟨r1, d1, u8, u9, u10, rfl⟩ := forS_grow (f := forF (callF Fs (n + 13)) (.tp (.cons (.nm 8) (.cons (.nm 9) .nil))) bDue) (m := m) (fun k : Kd => MV.d (enc k)) (fun k => [colsD k]) 1500
    (fun A r => ∃ u8 u9 u10 : Slot, r = [.v (.d (eB b)), .v (.d (.tuple (t.map enc))), .v (.d (.tuple (vs.map enc))), .v (.d (.int (b.many : Int))), .v (.d (.bool b.tell)), .v (.d (.tuple (b.kinds.map enc))), .v (.d (lay true (eB b))), .own A, u8, u9, u10, .un, .un, .un, .un, .un, .un, .un, .un]) b.kinds [] [.v (.d (eB b)), .v (.d (.tuple (t.map enc))), .v (.d (.tuple (vs.map enc))), .v (.d (.int (b.many : Int))), .v (.d (.bool b.tell)), .v (.d (.tuple (b.kinds.map enc))), .v (.d (lay true (eB b))), .own [], .un, .un, .un, .un, .un, .un, .un, .un, .un, .un, .un] ⟨_, _, _, rfl⟩ (by
      rw [← List.map_eq_flatMap, List.length_map]; simp; omega) (by
      rintro k hk A r ⟨u8, u9, u10, rfl⟩ hA
      exact ⟨_, dueTurn m (callF Fs (n + 13)) k (hb.kinds k hk) A (by omega) _ _ _ _ _ _ _ u8 u9 u10 _ _ _ _ _ _ _ _, _, _, _, rfl⟩)
  rw [← List.map_eq_flatMap, List.nil_append] at d1
  have d2 : ∀ s7 s14, mapM' (compF (callF Fs (n + 13)) (.nm 14) (.kb true) (.call 54 (.cons (.var 0) (.cons (.var 14) (.cons .kn .nil)))) [("_law_k", 14)] [.v (.d (eB b)), .v (.d (.tuple (t.map enc))), .v (.d (.tuple (vs.map enc))), .v (.d (.int (b.many : Int))), .v (.d (.bool b.tell)), .v (.d (.tuple (b.kinds.map enc))), .v (.d (lay true (eB b))), s7, u8, u9, u10, .un, .un, .un, s14, .un, .un, .un, .un]) ((List.range b.kinds.length).map fun v : Nat => MV.d (.int (v : Int))) m = .ok (b.kinds.map colsD) m := fun s7 s14 => by
    rw [mapM'_all (g := fun i : Nat => headD b (i : Int)), cols]
    intro i _
    simp [compF, hh]
  have hcl : (b.kinds.map colsD).length = b.kinds.length := by simp
  have fcols : ∀ x ∈ b.kinds.map colsD, fineD 8 x := fun x hx => by
    obtain ⟨k, _, rfl⟩ := List.mem_map.mp hx
    exact fCols k
  have s1 := sameL n m (x := .list (b.kinds.map colsD ++ [kindD (b.kinds.length : Int)])) ((fineD.lst fun x hx => by
    rcases List.mem_append.mp hx with hx | hx
    · exact fcols x hx
    · simp at hx; subst hx; exact fKind _).mono (by omega))
  have ad1 : ∀ X : D, binD .add (.list (b.kinds.map colsD)) (.list [X]) = some (.list (b.kinds.map colsD ++ [X])) := fun X => by
    have h1 : (b.kinds.map colsD).length + [X].length ≤ sizeLine := by rw [hcl]; simp; omega
    simp only [binD, h1, if_true]
  -- what keeps each kind, the single kinds
  have d3 := fun s6 s7 s8 s9 s10 s11 s12 s13 s14 s15 s16 s17 s18 => fineC m b (callF Fs (n + 13)) hb (.v (.d (eB b))) (.v (.d (.tuple (t.map enc)))) (.v (.d (.tuple (vs.map enc)))) (.v (.d (.int (b.many : Int)))) (.v (.d (.bool b.tell))) s6 s7 s8 s9 s10 s11 s12 s13 s14 s15 s16 s17 s18
  have d4 := fun s6 s7 s8 s9 s10 s11 s12 s13 s14 s15 s16 s17 s18 => singC m b (callF Fs (n + 13)) (.v (.d (eB b))) (.v (.d (.tuple (t.map enc)))) (.v (.d (.tuple (vs.map enc)))) (.v (.d (.int (b.many : Int)))) (.v (.d (.bool b.tell))) (.v (.d (.tuple (b.kinds.map enc)))) s6 s7 s8 s9 s10 s11 s12 s13 s14 s15 s16 s17 s18
  have ad2 : binD .add (.tuple (b.kinds.map enc)) (.tuple ((List.range b.many).map fun v => enc ((1, [[v]]) : Kd))) = some (.tuple (b.kinds.map enc ++ (List.range b.many).map fun v => enc ((1, [[v]]) : Kd))) := by
    have h1 : (b.kinds.map (enc : Kd → D)).length + ((List.range b.many).map fun v => (enc ((1, [[v]]) : Kd) : D)).length ≤ sizeLine := by simp; omega
    simp only [binD, h1, if_true]
  have hS : eB (singleB b) = .tuple [.int (b.many : Int), .bool false, if b.tell = true then .tuple (b.kinds.map enc ++ (List.range b.many).map fun v => enc ((1, [[v]]) : Kd)) else .tuple (b.kinds.map enc)] := by
    unfold singleB
    cases h : b.tell with
    | true =>
      rw [if_pos rfl, if_pos rfl]
      simp only [eB, List.map_append, List.map_map]; rfl
    | false =>
      rw [if_neg (by decide), if_neg (by decide)]
      simp only [eB, h]
  have s2 := sameL n m (x := .list [enc (constL b), eB (singleB b), eB (turnBk b t), whoutD b vs]) ((fineD.lst (f4 (fE _ (by decide)) (fBk _ 8 (by omega)) (fBk _ 8 (by omega)) (fWh b vs))).mono (by omega))
  -- the pairs
  have hpl := alike_len b hm3
  have d6 : ∀ u7 u8 u9 u10 u11 u12, ∃ u14 u18 : Slot, forS (forF (callF Fs (n + 13)) (.nm 14) bFar) ((List.range b.many).map fun v : Nat => MV.d (.int (v : Int))) [.v (.d (eB b)), .v (.d (.tuple (t.map enc))), .v (.d (.tuple (vs.map enc))), .v (.d (.int (b.many : Int))), .v (.d (.bool b.tell)), .v (.d (.tuple (b.kinds.map enc))), .v (.d (lay true (eB b))), u7, u8, u9, u10, u11, u12, .v (.d (.list [])), .un, .un, .un, .un, .un] m = .nx [.v (.d (eB b)), .v (.d (.tuple (t.map enc))), .v (.d (.tuple (vs.map enc))), .v (.d (.int (b.many : Int))), .v (.d (.bool b.tell)), .v (.d (.tuple (b.kinds.map enc))), .v (.d (lay true (eB b))), u7, u8, u9, u10, u11, u12, .v (.d (.list ((alikeL b).map enc))), u14, .un, .un, .un, u18] m := fun u7 u8 u9 u10 u11 u12 => by
    obtain ⟨r', e, u14, u18, rfl⟩ := forS_grow (f := forF (callF Fs (n + 13)) (.nm 14) bFar) (m := m) (fun i : Nat => MV.d (.int (i : Int))) (fun i => (pairs1 b i).map enc) 90
      (fun A r => ∃ u14 u18 : Slot, r = [.v (.d (eB b)), .v (.d (.tuple (t.map enc))), .v (.d (.tuple (vs.map enc))), .v (.d (.int (b.many : Int))), .v (.d (.bool b.tell)), .v (.d (.tuple (b.kinds.map enc))), .v (.d (lay true (eB b))), u7, u8, u9, u10, u11, u12, .v (.d (.list A)), u14, .un, .un, .un, u18]) (List.range b.many) [] [.v (.d (eB b)), .v (.d (.tuple (t.map enc))), .v (.d (.tuple (vs.map enc))), .v (.d (.int (b.many : Int))), .v (.d (.bool b.tell)), .v (.d (.tuple (b.kinds.map enc))), .v (.d (lay true (eB b))), u7, u8, u9, u10, u11, u12, .v (.d (.list [])), .un, .un, .un, .un, .un] ⟨_, _, rfl⟩ (by
        rw [← List.map_flatMap, List.length_map]
        simp only [List.length_nil]
        have hq : ((List.range b.many).flatMap (pairs1 b)).length ≤ 9 := hpl
        exact Nat.le_trans (Nat.le_of_eq (Nat.zero_add _)) (Nat.le_trans hq (by omega))) (by
        rintro i hi A r ⟨u14, u18, rfl⟩ hA
        exact ⟨_, farTurn (n + 12) m b hb i (List.mem_range.mp hi) A (by omega) _ _ _ _ _ _ _ _ _ _ _ _ _ _ _ _, _, _, rfl⟩)
    rw [← List.map_flatMap, List.nil_append] at e
    exact ⟨u14, u18, e⟩
  have s3 := sameL n m (x := .list [enc (alikeL b), .list ((intoL b b).map enc), .list ((intoL b (turnBk b t)).map enc), .list [], .list []]) ((fineD.lst (f5 (fE (alikeL b) (by decide)) (fineD.lst (d := 7) (fM _ (by decide))) (fineD.lst (d := 7) (fM _ (by decide))) (fineD.lst (d := 7) (by simp)) (fineD.lst (d := 7) (by simp)))).mono (by omega))
  have ad3 : ∀ x y z u v : D, binD .add (.list [x, y, z]) (.list [u, v]) = some (.list [x, y, z, u, v]) := fun x y z u v => by
    have h1 : ([x, y, z] : List D).length + [u, v].length ≤ sizeLine := by simpa using z5
    simp only [binD, h1, if_true]
    rfl
  rw [callF_at h59 _ _ _ rfl]
  have hbd : d59.body = (.cons (.asgT (.cons (.nm 3) (.cons (.nm 4) (.cons (.nm 5) .nil))) (.var 0)) (.cons (.par [6, 7] [false, true] (.cons (.call 4 (.cons (.var 0) .nil)) (.cons (.lst .nil) .nil))) (.cons (.for_ (.tp (.cons (.nm 8) (.cons (.nm 9) .nil))) (.dat (.var 5)) bDue) (.cons (.asg 10 (.bin .add (.comp (.nm 14) (.rg1 (.b1 .len (.var 5))) (.kb true) (.call 54 (.cons (.var 0) (.cons (.var 14) (.cons .kn .nil)))) [("_law_k", 14)]) (.lst (.cons (.call 54 (.cons (.var 6) (.cons (.b1 .len (.var 5)) (.cons .kn .nil)))) .nil)))) (.frz 7 (.cons (.if_ (.not_ (.call 3 (.cons (.var 10) (.cons (.bin .add (.var 7) (.lst (.cons (.lst (.cons (.ks "kind") (.cons (.b1 .len (.var 5)) (.cons (.kb true) .nil)))) .nil))) .nil)))) (.cons (.ret (.kb false)) .nil) .nil) (.cons (.asg 11 (.comp (.nm 17) (.rg1 (.var 3)) (.cmp .eq (.comp (.nm 16) (.dat (.var 5)) (.cmp .nin (.bin .mul (.tup (.cons (.var 17) .nil)) (.idx (.var 16) (.ki 0))) (.idx (.var 16) (.ki 1))) (.var 16) [("_law_own", 16)]) (.lst .nil)) (.var 17) [("_law_v", 17)])) (.cons (.asg 12 (.tup (.cons (.var 3) (.cons (.kb false) (.cons (.ite (.var 4) (.bin .add (.var 5) (.b1 .tup (.comp (.nm 17) (.rg1 (.var 3)) (.kb true) (.tup (.cons (.ki 1) (.cons (.tup (.cons (.tup (.cons (.var 17) .nil)) .nil)) .nil))) [("_law_v", 17)]))) (.var 5)) .nil))))) (.cons (.asg 10 (.lst (.cons (.callk 44 .nil (.cons (.var 6) .nil) [0]) (.cons (.callk 45 .nil (.cons (.var 6) .nil) [0]) (.cons (.callk 48 .nil (.cons (.var 1) (.cons (.var 6) .nil)) [1, 0]) (.cons (.call 54 (.cons (.var 6) (.cons (.ki 0) (.cons (.var 2) .nil)))) .nil)))))) (.cons (.if_ (.not_ (.call 3 (.cons (.var 10) (.cons (.lst (.cons (.b1 .tup (.var 11)) (.cons (.var 12) (.cons (.call 55 (.cons (.var 0) (.cons (.var 1) .nil))) (.cons (.call 57 (.cons (.var 0) (.cons (.var 2) .nil))) .nil))))) .nil)))) (.cons (.ret (.kb false)) .nil) .nil) (.cons (.asg 13 (.lst .nil)) (.cons (.for_ (.nm 14) (.rg1 (.var 3)) bFar) (.cons (.asg 15 (.call 55 (.cons (.var 0) (.cons (.var 1) .nil)))) (.cons (.asg 10 (.lst (.cons (.callk 52 .nil (.cons (.var 6) .nil) [0]) (.cons (.callk 50 .nil (.cons (.var 6) .nil) [0]) (.cons (.callk 49 .nil (.cons (.call 4 (.cons (.var 15) .nil)) (.cons (.var 6) .nil)) [1, 0]) .nil))))) (.cons (.asg 10 (.bin .add (.var 10) (.lst (.cons (.call 49 (.cons (.var 0) (.cons (.tup (.cons (.bin .sub (.ki 5) (.var 3)) (.cons (.var 4) (.cons (.tup .nil) .nil)))) .nil))) (.cons (.call 49 (.cons (.var 0) (.cons (.tup (.cons (.var 3) (.cons (.not_ (.var 4)) (.cons (.var 5) .nil)))) .nil))) .nil))))) (.cons (.ret (.call 3 (.cons (.var 10) (.cons (.lst (.cons (.b1 .tup (.var 13)) (.cons (.call 56 (.cons (.var 0) (.cons (.var 0) .nil))) (.cons (.call 56 (.cons (.var 0) (.cons (.var 15) .nil))) (.cons (.lst .nil) (.cons (.lst .nil) .nil)))))) .nil)))) .nil)))))))))))))))) := rfl
  rw [hbd]
  rw [show (enc (constL b) : D) = .tuple ((constL b).map enc) from rfl] at q1 s2
  rw [show (enc (alikeL b) : D) = .tuple ((alikeL b).map enc) from rfl] at q6 s3
  rw [hS] at q2 s2
  generalize (constL b).map (enc : Nat → D) = CL at *
  generalize (alikeL b).map (enc : Nat × Nat → D) = AL at *
  generalize (intoL b b).map (enc : List Nat → D) = I1 at *
  generalize (intoL b (turnBk b t)).map (enc : List Nat → D) = I2 at *
  generalize eB (turnBk b t) = TB at *
  generalize whoutD b vs = WD at *
  generalize (List.range b.many).map (fun v => (enc ((1, [[v]]) : Kd) : D)) = SG at *
  generalize hKD : kindD (b.kinds.length : Int) = KD at *
  have hk2 : PyData.list [.str "kind", .int (b.kinds.length : Int), .bool true] = KD := hKD
  have hat : ∀ (c : CTs) (r : Env'), asgTM c r (.d (eB b)) m = nxO (tgts c [.int (b.many : Int), .bool b.tell, .tuple (b.kinds.map enc)] r) m := fun _ _ => rfl
  simp [d59, hat, a1, z0, -List.map_map, hmm, -enc_pair, -enc_list]
  rw [d1]
  simp [-rgM_i, hrk, d2, hk1, ad1, z1, z3, -List.map_map, -enc_pair, -enc_list]
  rw [hk2, s1]
  cases hbt : b.tell <;> simp only [hbt, Bool.not_true, Bool.not_false, if_true, Bool.false_eq_true, if_false, reduceIte] at d1 d2 d3 d4 d6 q2 q9 q10 s2
  · simp [-rgM_i, hrm, d3, z3, z4, q1, q2, q3, q4, q5, hw, s2, hbt, -List.map_map, -enc_pair, -enc_list]
    obtain ⟨u14, u18, e⟩ := d6 (.v (.d (.list (b.kinds.map colsD)))) u8 u9 (.v (.d (.list [.tuple CL, .tuple [.int (b.many : Int), .bool false, .tuple (b.kinds.map enc)], TB, WD]))) (.v (.d (.list CL))) (.v (.d (.tuple [.int (b.many : Int), .bool false, .tuple (b.kinds.map enc)])))
    rw [e]
    simp [q4, q6, q7, q8, a2, q9, q10, q11, q12, ad3, s3, z0, z2, z3, z5, -List.map_map, -enc_pair, -enc_list]
  · simp [-rgM_i, hrm, d3, d4, ad2, z3, z4, q1, q2, q3, q4, q5, hw, s2, hbt, -List.map_map, -enc_pair, -enc_list]
    obtain ⟨u14, u18, e⟩ := d6 (.v (.d (.list (b.kinds.map colsD)))) u8 u9 (.v (.d (.list [.tuple CL, .tuple [.int (b.many : Int), .bool false, .tuple (b.kinds.map enc ++ SG)], TB, WD]))) (.v (.d (.list CL))) (.v (.d (.tuple [.int (b.many : Int), .bool false, .tuple (b.kinds.map enc ++ SG)])))
    rw [e]
    simp [q4, q6, q7, q8, a2, q9, q10, q11, q12, ad3, s3, z0, z2, z3, z5, -List.map_map, -enc_pair, -enc_list]
end
end L02

set_option maxRecDepth 100000
set_option linter.all false
set_option Elab.async false
namespace L02
open Mp PySem PySem.Spec PyProof.Rows L2
open Enc (enc)
def bLap : CSs := (.cons (.asg 2 (.call 10 (.cons (.var 0) (.cons (.ki 3) .nil)))) (.cons (.asg 3 (.b1 .tup (.call 6 (.cons (.var 0) (.cons (.b1 .lrg (.idx (.var 2) (.ki 0))) .nil))))) (.cons (.asg 4 (.b1 .tup (.comp (.nm 5) (.rg1 (.bin .add (.idx (.var 2) (.ki 0)) (.ki 1))) (.cmp .eq (.call 2 (.cons (.var 0) (.cons (.ki 3) .nil))) (.ki 0)) (.var 5) [("_law_k", 5)]))) (.cons (.if_ (.not_ (.call 59 (.cons (.var 2) (.cons (.var 3) (.cons (.var 4) .nil))))) (.cons (.ret (.kb false)) .nil) .nil) .nil))))
theorem lapTurn (n : Nat) (m : Mem) (k N : Nat) (hB : BoxAt m k (N + 400)) (x : MV) (s1 s2 s3 s4 s5 : Slot) :
    ∃ (r' : Env') (m' : Mem), forF (callF Fs (n + 15)) (.nm 1) bLap x [.v (.c k), s1, s2, s3, s4, s5] m = .nx r' m' ∧ m'.length = m.length ∧ BoxAt m' k N ∧ ∃ s1 s2 s3 s4 s5 : Slot, r' = [.v (.c k), s1, s2, s3, s4, s5] := by
  obtain ⟨b, m1, e1, hb, hk1, hk2, l1, B1⟩ := book_spec h2 h5 h6 h7 h8 h9 h10 (n + 11) m k (N + 100) 3 (by omega) (by omega) hB
  have e1' : callF Fs (n + 15) 10 [.c k, .d (.int 3)] m = .ok (.d (eB b)) m1 := e1
  have hm3 : b.many ≤ 3 := by rcases hb.many with h | h <;> omega
  obtain ⟨ys, m2, e2, hp, l2, B2⟩ := mixed_spec h2 h6 (n + 13) m1 k (N + 50) ((List.range b.many).map (enc : Nat → D)) (by simp; omega) (B1.mono (by simp; omega))
  have e2' : callF Fs (n + 15) 6 [.c k, .d (.list ((List.range b.many).map enc))] m1 = .ok (.d (.list ys)) m2 := e2
  obtain ⟨t, rfl, htp⟩ := perm_map (enc : Nat → D) hp (List.range b.many) rfl
  have htn : t.Nodup := htp.nodup_iff.mpr List.nodup_range
  have htl : t.length = b.many := by rw [htp.length_eq]; simp
  obtain ⟨xs, vs, m3, e3, l3, B3, _, _⟩ := mapM'_drawSub (f := compF (callF Fs (n + 15)) (.nm 5) (.cmp .eq (.call 2 (.cons (.var 0) (.cons (.ki 3) .nil))) (.ki 0)) (.var 5) [("_law_k", 5)] [.v (.c k), .v x, .v (.d (eB b)), .v (.d (.tuple (t.map enc))), s4, s5])
    (k := k) (c := 1) (fun i : Nat => MV.d (.int (i : Int))) (fun v : Nat => enc v) (fun _ _ => True) (List.range (b.many + 1)) m2 N (B2.mono (by simp; omega)) (by
      intro y _ m N hB
      obtain ⟨d, m', e, dl, l, B⟩ := take_spec h2 (n + 14) m k N 3 hB (by omega) (by omega)
      have e' : callF Fs (n + 15) 2 [.c k, .d (.int 3)] m = .ok (.d (.int (d : Int))) m' := e
      refine ⟨m', l, B, ?_⟩
      by_cases q : d = 0
      · subst q
        exact .inr ⟨y, by simp [compF, e'], trivial⟩
      · exact .inl (by simp [compF, e', q]))
  have e6 := caseRight (n + 1) m3 b hb (by omega) t htn htl vs
  have e6' : callF Fs (n + 15) 59 [.d (eB b), .d (.tuple (t.map enc)), .d (.tuple (vs.map enc))] m3 = .ok (.d (.bool true)) m3 := e6
  have i0 := bh0 m1 b
  have j0 := bh0 m2 b
  have hr := rgN (m := m2) (show b.many + 1 ≤ 10000 by omega)
  have hrr := rgOk_nat (size_ge (show b.many ≤ 10000 by omega))
  have hd : rangeD 0 (b.many : Int) = (List.range b.many).map enc := rangeD_nat b.many
  have e5 : b1D .lrg (.int (b.many : Int)) = some (.list ((List.range b.many).map enc)) := by simp only [b1D, hrr, if_true, hd]
  have hci : (b.many : Int) + 1 = ((b.many + 1 : Nat) : Int) := by omega
  refine ⟨[.v (.c k), .v x, .v (.d (eB b)), .v (.d (.tuple (t.map enc))), .v (.d (.tuple (vs.map enc))), s5], m3, ?_, by omega, B3, _, _, _, _, _, rfl⟩
  simp only [enc_nat] at e3
  simp only [forF, tgt_nm]
  simp [bLap, e1', i0, e5, e2', j0, hci, -rgM_i, hr, e3, -List.map_map, -Int.natCast_add]
  have hvs : vs.map (fun v : Nat => PyData.int (v : Int)) = vs.map enc := rfl
  simp [hvs, e6']
theorem right_spec (n : Nat) (m : Mem) (k : Nat) (hB : BoxAt m k 10000) : ∃ m', callF Fs (n + 16) 62 [.c k] m = .ok (.d (.bool true)) m' ∧ m'.length = m.length := by
  have hr6 : rgOk 0 2 = true := by decide
  have hd6 : rangeD 0 2 = (List.range 2).map fun (i : Nat) => PyData.int (i : Int) := rangeD_nat 2
  obtain ⟨r', m4, e7, l4, B4, q1, q2, q3, q4, q5, rfl⟩ := forS_draw (f := forF (callF Fs (n + 15)) (.nm 1) bLap) (k := k) (c := 400)
    (fun i r => ∃ s1 s2 s3 s4 s5 : Slot, r = [.v (.c k), s1, s2, s3, s4, s5])
    (((List.range 2).map fun (i : Nat) => PyData.int (i : Int)).map MV.d) [.v (.c k), .un, .un, .un, .un, .un] m 0 ⟨_, _, _, _, _, rfl⟩ (hB.mono (by simp)) (by
      rintro j y r m N hj ⟨s1, s2, s3, s4, s5, rfl⟩ hB
      obtain ⟨r', m', e, l, B, h⟩ := lapTurn n m k N hB y s1 s2 s3 s4 s5
      exact ⟨r', m', e, l, B, h⟩)
  refine ⟨m4, ?_, l4⟩
  rw [callF_at h62 _ _ _ rfl]
  have : d62.body = .cons (.for_ (.nm 1) (.rg1 (.ki 2)) bLap) (.cons (.ret (.kb true)) .nil) := rfl
  rw [this]
  simp [d62, hr6, hd6, -List.map_map]
  rw [e7]
  simp [take_len' l4]
theorem hand_true : isOkR (callF Fs 59 60 [] []) = true := by decide +kernel
theorem law_true (ns : List Int) (h : ns.length ≤ 63) : isOkR (callF Fs 60 iLaw [.s ns] []) = true := by
  obtain ⟨mh, eh⟩ := isOkR_inv hand_true
  obtain ⟨cs, e1, c1, c3⟩ := cells_spec h0 58 mh ns h 3 (by omega) (by omega)
  have e1' : callF Fs 59 0 [.s ns, .d (.int 3)] mh = .ok (.d (.list (cs.map PyData.int))) mh := e1
  have hr := rgOk_nat (size_ge (show cs.length ≤ 10000 by omega))
  obtain ⟨m', e2⟩ := mapM'_any (f := compF (callF Fs 59) (.nm 2) (.kb true) (.call 62 (.cons (.call 1 (.cons (.var 1) (.cons (.var 2) .nil))) .nil)) [("_law_k", 2)] [.v (.s ns), .v (.d (.list (cs.map PyData.int))), .un]) (.bool true)
    (((List.range cs.length).map fun (i : Nat) => PyData.int (i : Int)).map MV.d) mh (by
      intro x hx m
      simp only [List.map_map, List.mem_map, List.mem_range] at hx
      obtain ⟨i, hi, rfl⟩ := hx
      obtain ⟨b0, b1, e⟩ := box_spec h1 58 m cs i hi
      obtain ⟨m2, e2, _⟩ := right_spec 43 (m ++ [[.int b0, .int b1, .int 0]]) m.length ((boxAt_new m b0 b1).mono (by decide))
      exact ⟨m2, by simp [compF, e, e2]⟩)
  have hall : b1D .all (.list ((((List.range cs.length).map fun (i : Nat) => PyData.int (i : Int)).map MV.d).map fun _ => PyData.bool true)) = some (.bool true) := by
    rw [b1_all (fun _ => true)]; simp
  show isOkR (callF Fs (59 + 1) 63 [.s ns] []) = true
  rw [callF_at h63 _ _ _ rfl]
  simp [d63, b63, eh, e1', hr, rangeD_nat, -List.map_map]
  rw [e2]
  simp [-List.map_map, hall, isOkR]
end L02

namespace L02
open Mp PySem PySem.Spec PyProof.Rows L2
def top (i : Nat) : Stmt := PySem.Challenge.pw_blendworlds_k02_what_is_told_of_books.main.body.getD i (.Pass ⟨0, 0, 0, 0⟩)
def dd (x : Str) (i : Nat) : He.DefD := ⟨(x, none), x, x, defArgs (top i), defBody (top i), defScope (top i), [], []⟩
def DL : List He.DefD := [dd "_law_cells" 29, dd "_law_box" 27, dd "_law_take" 28, dd "_law_same" 30, dd "_law_lists" 31, dd "_law_of" 32, dd "_law_mixed" 33, dd "_law_tuples" 34, dd "_law_kind" 35, dd "_law_known" 36, dd "_law_book" 37, dd "_law_cells" 29, dd "_law_cells" 29, dd "_law_cells" 29, dd "is_number" 5, dd "is_below" 6, dd "tupled" 7, dd "_law_cells" 29, dd "is_row_below" 8, dd "set_of" 9, dd "_law_cells" 29, dd "_law_cells" 29, dd "_law_cells" 29, dd "all_rows" 10, dd "_law_cells" 29, dd "_law_cells" 29, dd "_law_cells" 29, dd "_law_cells" 29, dd "_law_cells" 29, dd "_law_cells" 29, dd "_law_cells" 29, dd "_law_cells" 29, dd "_law_cells" 29, dd "_law_cells" 29, dd "_law_cells" 29, dd "_law_cells" 29, dd "_law_cells" 29, dd "_law_cells" 29, dd "_law_cells" 29, dd "_law_cells" 29, dd "check_kind" 12, dd "check_values" 13, dd "with_kinds" 14, dd "columns" 15, dd "constants" 16, dd "single_kinds" 17, dd "is_turn" 18, dd "turned_rows" 19, dd "turned" 20, dd "turns_into" 21, dd "turns_of" 22, dd "can_stand_for" 23, dd "alike_values" 24, dd "without_values" 25, dd "_law_heard" 38, dd "_law_turned" 39, dd "_law_turns" 40, dd "_law_without" 41, dd "_law_swapped" 42, dd "_law_case_right" 43, dd "_law_by_hand_right" 44, dd "_law_more_right" 45, dd "_law_right" 46, dd "law" 47, dd "turns_of" 22, dd "turns_into" 21]
def fa : List He.Fa := T.fs.map (fun d => .glo d.name) ++ T.ks.map (fun p => .int p.1 p.2) ++ bnames.map fun x => .free x
theorem all_ok : allB T T.fs DL = true := by decide +kernel
theorem fa_ok : (T.fs.all fun d => fa.any fun z => match z with | .glo x => x == d.name | _ => false) = true := by decide +kernel
theorem fk_ok : (T.ks.all fun p => fa.any fun z => match z with | .int x i => x == p.1 && i == p.2 | _ => false) = true := by decide +kernel
theorem tp_ok : (T.tp.all fun i => match T.fs[i]?, DL[i]? with | some d, some g => tpB T d g | _, _ => false) = true := by decide +kernel
theorem fb_ok : (bnames.all fun y => fa.any fun z => match z with | .free x => x == y | _ => false) = true := by decide +kernel
abbrev R : PySem.W.OpenRow := PySem.W.OpenLaw.row PySem.Challenge.rw_blendworlds_k02_what_is_told_of_books
abbrev hk : PySem.W.Hook := Mp.hookE 6 fa DL PySem.Challenge.pw_blendworlds_k02_what_is_told_of_books T.xs T.fx T.zs T.ds
def ob (s : PySem.W.SharedT) : Mp.AlE := Mp.obsE 6 fa DL PySem.Challenge.pw_blendworlds_k02_what_is_told_of_books T.xs T.fx T.zs T.ds (HandSHeadRun.getT s)
theorem ob_eq (s : PySem.W.SharedT) : ob s = hk.obs s.abs := Mp.obsE_eq (HandSHeadRun.getT_eq s)
def loose : List Str := T.ks.map (·.1) ++ (["NoKind", "NoValue", "Unfit"] : List Str) ++ (T.fs.map (·.name)).take iLaw
theorem run (w : World) : HandSHeadRun.RunEq R (PySem.W.view R.prog [47]) hk ob 3000 loose w := by
  intro os
  kernel_rfl
theorem ok_of {z : Res MV} (h : isOkR z = true) : isOk z = true := by
  obtain ⟨m, rfl⟩ := isOkR_inv h
  rfl
end L02
open PySem PySem.W PySem.Calls PyProof.Rows
theorem PySem.Challenge.cw_blendworlds_k02_what_is_told_of_books_holds : PySem.Challenge.rw_blendworlds_k02_what_is_told_of_books.Holds := by
  w_on; o_law
  refine HandSHeadRun.head_any (r := OpenLaw.row PySem.Challenge.rw_blendworlds_k02_what_is_told_of_books) (q := view (OpenLaw.row PySem.Challenge.rw_blendworlds_k02_what_is_told_of_books).prog [47]) (H := L02.hk) (ob := L02.ob) (M := 3000) (loose := L02.loose) (d := HandSHeadRun.topDef (OpenLaw.row PySem.Challenge.rw_blendworlds_k02_what_is_told_of_books).prog 47) (kwd := []) L02.ob_eq
    (by kernel_rfl) (fun s => by kernel_rfl) L02.run (by kernel_rfl) (by kernel_rfl) (by kernel_rfl) (by rfl) (by first | assumption | decide +kernel) (by decide +kernel) ⟨rfl, rfl, rfl, rfl, rfl, by decide +kernel⟩ ?hw ?hc
  case hw => w_witness2
  case hc =>
    refine L2.walk_ofE (l := PySem.Challenge.rw_blendworlds_k02_what_is_told_of_books) (n := 63) (k := 60) (x := "_law_script") (CX := L2.CX0) rfl (by decide) (by kernel_rfl) ⟨rfl, by decide, by decide⟩ ?F (fun _ _ _ _ z => z)
    intro w mg fa h Y G hmg0
    obtain ⟨K, KX, c⟩ := Y
    have hmg : mg ("law" : PySem.Str) = some (.ref fa) := by
      have e : (HandSHeadRun.topDef (OpenLaw.row PySem.Challenge.rw_blendworlds_k02_what_is_told_of_books).prog 47).name = ("law" : PySem.Str) := by kernel_rfl
      rw [← e]
      exact hmg0
    obtain ⟨fd, hb, hF⟩ := Mp.facts (P := (PySem.Challenge.rw_blendworlds_k02_what_is_told_of_books).prog) (w := w) (k := 60) (i := L02.iLaw) (x := "_law_script") (d := L02.Fs[L02.iLaw]'(by decide)) KX G c.sd L02.all_ok L02.fa_ok L02.fk_ok L02.fb_ok c.sx c.sf c.sz c.sp c.sw L02.tp_ok (by rfl) hmg (by rfl)
    exact ⟨K, fd, _, KX, hb, fun H a ns hl _ hS => ⟨rfl, Mp.law_sp hS (L02.ok_of (L02.law_true ns hl))⟩, fun base h1 h2 => Mp.fnOk0 (hF base h1 h2)⟩

