import PyProof.Rows.All
import Wide.All
import OpenK.AllK
import Wide.FinOn
import HandS.ForMost
import HandS.ForExc
import HandS.IsInst
import HandS.TryMany
import HandS.Defaults
import HandS.Flow
import HandS.Wide
import HandS.Zip
import HandS.TupAny
import HandS.HeadEnd
import HandS.HeadHook2
import HandS.Head2
import HandS.Deep
import HandS.Style
import HandS.Conv
import HandS.NoneIn
import HandS.Walk
import HandS.WordsExc
import HandS.ExcOwn
import KE.KExcSuper
import KE.KSuper
import KE.KExcInit
import HandS.HeadHook1
import HandS.Ends
import PySem.Challenge.RW_lettersandnumbers_k10_whole_amounts_by_o
set_option Elab.async false
set_option linter.all false
set_option maxRecDepth 100000
/-! Tw: trees in the place of heaps. A value is a tree (T) or a list that may change (U.mu k, the k-th of the memory); an expression, a block means a function of the slots and the memory (D, DS); tE, tS are the readings that say so. -/
namespace Tw
open PySem PySem.Spec PyProof.Rows L2

/-! ### trees, memory, results -/
inductive Tn where
  | int | bool | str | tuple | list | none
  deriving DecidableEq
def Tn.s : Tn → String
  | .int => "int" | .bool => "bool" | .str => "str" | .tuple => "tuple" | .list => "list" | .none => "NoneType"
/-- scr: the script (read, never put together with others) -/
inductive T where
  | non | bl (b : Bool) | int (i : Int) | str (x : Str) | ty (n : Tn) | tup (xs : List T) | lst (xs : List T) | scr (ns : List Int)
inductive U where
  | p (t : T) | mu (k : Nat)
abbrev Mem := List (Option (List T))
structure Ex where
  name : Str
  num : Option Int
inductive R (α : Type) where
  | ok (a : α) (m : Mem) | exc (e : Ex) (m : Mem) | bad
def R.bind {α β : Type} (r : R α) (f : α → Mem → R β) : R β := match r with
  | .ok a m => f a m
  | .exc e m => .exc e m
  | .bad => .bad
abbrev En := List (Option U)
abbrev D := En → Mem → R U
abbrev DA := En → Mem → R (List U)
abbrev DB := En → Mem → R Bool
inductive RS where
  | next (e : En) (m : Mem) | ret (u : U) (m : Mem) | brk (e : En) (m : Mem) | cont (e : En) (m : Mem) | exc (x : Ex) (e : En) (m : Mem) | bad
abbrev DS := En → Mem → RS

/-! ### what stands for a tree: S is the part of the heap that no one changes -/
/-- a tuple that no one changes: tracked, or of the module -/
def Tup (K : PySem.W.Frag) (S : Hp) (a : Addr) (vs : List V) : Prop :=
  S a = some (.tup vs) ∨ ∃ (o : Obj) (its : Array Value) (n : Nat), K.lookup a = some o ∧ o.cls = .type "tuple" ∧ o.data = .seq its n ∧ its.size ≤ sizeLine ∧ Vals vs its.toList
mutual
inductive Rep (K : PySem.W.Frag) (S : Hp) : V → T → Prop where
  | non : Rep K S .non .non
  | bl (b : Bool) : Rep K S (.bl b) (.bl b)
  | int (i : Int) : Rep K S (.int i) (.int i)
  | str (x : Str) : Rep K S (.str x) (.str x)
  | ty (n : Tn) : Rep K S (.ty n.s) (.ty n)
  | tup {a : Addr} {vs : List V} {ts : List T} : Tup K S a vs → Reps K S vs ts → Rep K S (.ref a) (.tup ts)
  | lst {a : Addr} {vs : List V} {ts : List T} : S a = some (.lst vs) → Reps K S vs ts → Rep K S (.ref a) (.lst ts)
  | scr {a : Addr} {ns : List Int} : SqL K S a (ns.map V.int) → Rep K S (.ref a) (.scr ns)
inductive Reps (K : PySem.W.Frag) (S : Hp) : List V → List T → Prop where
  | nil : Reps K S [] []
  | cons {v : V} {t : T} {vs : List V} {ts : List T} : Rep K S v t → Reps K S vs ts → Reps K S (v :: vs) (t :: ts)
end
def Le (S S' : Hp) : Prop := ∀ a o, S a = some o → S' a = some o
theorem Le.rfl {S : Hp} : Le S S := fun _ _ h => h
theorem Le.trans {S S1 S2 : Hp} (h : Le S S1) (k : Le S1 S2) : Le S S2 := fun a o e => k a o (h a o e)
theorem Le.rd {S S' : Hp} (h : Le S S') {a : Addr} {u : HO} (r : Rd S a u) : Rd S' a u := by
  rcases r with r | ⟨o, r⟩
  · exact .inl (h _ _ r)
  · exact .inr ⟨o, h _ _ r⟩
theorem Le.sqL {K : PySem.W.Frag} {S S' : Hp} (h : Le S S') {a : Addr} {vs : List V} (r : SqL K S a vs) : SqL K S' a vs := r.imp h.rd id
theorem Le.tup {K : PySem.W.Frag} {S S' : Hp} (h : Le S S') {a : Addr} {vs : List V} (r : Tup K S a vs) : Tup K S' a vs := r.imp (h _ _) id
theorem Le.sqT {K : PySem.W.Frag} {S S' : Hp} (h : Le S S') {a : Addr} {vs : List V} (r : Tup K S a vs) : SqT K S' a vs := r.imp (fun q => .inl (h _ _ q)) id
section
variable {K : PySem.W.Frag} {S S' : Hp}
mutual
theorem Rep.le (h : Le S S') : ∀ {v : V} {t : T}, Rep K S v t → Rep K S' v t
  | _, _, .non => .non
  | _, _, .bl b => .bl b
  | _, _, .int i => .int i
  | _, _, .str x => .str x
  | _, _, .ty n => .ty n
  | _, _, .tup q r => .tup (h.tup q) (Reps.le h r)
  | _, _, .lst q r => .lst (h _ _ q) (Reps.le h r)
  | _, _, .scr q => .scr (h.sqL q)
theorem Reps.le (h : Le S S') : ∀ {vs : List V} {ts : List T}, Reps K S vs ts → Reps K S' vs ts
  | _, _, .nil => .nil
  | _, _, .cons r q => .cons (Rep.le h r) (Reps.le h q)
end
theorem Reps.length : ∀ {vs : List V} {ts : List T}, Reps K S vs ts → vs.length = ts.length
  | _, _, .nil => rfl
  | _, _, .cons _ q => congrArg (· + 1) (Reps.length q)
theorem Reps.get : ∀ {vs : List V} {ts : List T} {i : Nat} {t : T}, Reps K S vs ts → ts[i]? = some t → ∃ v, vs[i]? = some v ∧ Rep K S v t
  | _, _, _, _, .nil, e => by simp at e
  | _, _, 0, _, .cons r _, e => by simp at e; subst e; exact ⟨_, by simp, r⟩
  | _, _, i + 1, t, .cons _ q, e => by
    obtain ⟨v, h1, h2⟩ := Reps.get (i := i) (t := t) q (by simpa using e)
    exact ⟨v, by simpa using h1, h2⟩
theorem Reps.getV : ∀ {vs : List V} {ts : List T} {i : Nat} {v : V}, Reps K S vs ts → vs[i]? = some v → ∃ t, ts[i]? = some t ∧ Rep K S v t
  | _, _, _, _, .nil, e => by simp at e
  | _, _, 0, _, .cons r _, e => by simp at e; subst e; exact ⟨_, by simp, r⟩
  | _, _, i + 1, v, .cons _ q, e => by
    obtain ⟨t, h1, h2⟩ := Reps.getV (i := i) (v := v) q (by simpa using e)
    exact ⟨t, by simpa using h1, h2⟩
theorem Reps.append : ∀ {vs ws : List V} {ts us : List T}, Reps K S vs ts → Reps K S ws us → Reps K S (vs ++ ws) (ts ++ us)
  | _, _, _, _, .nil, q => q
  | _, _, _, _, .cons r p, q => .cons r (Reps.append p q)
theorem Reps.take : ∀ {vs : List V} {ts : List T} (n : Nat), Reps K S vs ts → Reps K S (vs.take n) (ts.take n)
  | _, _, 0, _ => by simp; exact .nil
  | _, _, n + 1, .nil => by simp; exact .nil
  | _, _, n + 1, .cons r q => by simp; exact .cons r (Reps.take n q)
theorem Reps.drop : ∀ {vs : List V} {ts : List T} (n : Nat), Reps K S vs ts → Reps K S (vs.drop n) (ts.drop n)
  | _, _, 0, q => by simpa using q
  | _, _, n + 1, .nil => by simp; exact .nil
  | _, _, n + 1, .cons _ q => by simp; exact Reps.drop n q
theorem Reps.set {v : V} {t : T} (r : Rep K S v t) : ∀ {vs : List V} {ts : List T} (n : Nat), Reps K S vs ts → Reps K S (vs.set n v) (ts.set n t)
  | _, _, _, .nil => by simp; exact .nil
  | _, _, 0, .cons _ q => by simp; exact .cons r q
  | _, _, n + 1, .cons p q => by simp; exact .cons p (Reps.set r n q)
theorem Reps.reverse : ∀ {vs : List V} {ts : List T}, Reps K S vs ts → Reps K S vs.reverse ts.reverse
  | _, _, .nil => by simp; exact .nil
  | _, _, .cons r q => by simp; exact (Reps.reverse q).append (.cons r .nil)
end

/-- what stands for a value: a tree, or the k-th list of the memory -/
inductive RepU (K : PySem.W.Frag) (S : Hp) (A : List Addr) : V → U → Prop where
  | p {v : V} {t : T} : Rep K S v t → RepU K S A v (.p t)
  | mu {k : Nat} {a : Addr} : A[k]? = some a → RepU K S A (.ref a) (.mu k)
inductive RepUs (K : PySem.W.Frag) (S : Hp) (A : List Addr) : List V → List U → Prop where
  | nil : RepUs K S A [] []
  | cons {v : V} {u : U} {vs : List V} {us : List U} : RepU K S A v u → RepUs K S A vs us → RepUs K S A (v :: vs) (u :: us)
/-- the memory as it lies: its lists at the addresses A; H the whole heap, S what no one changes -/
structure MOk (K : PySem.W.Frag) (S H : Hp) (A : List Addr) (m : Mem) : Prop where
  nd : A.Nodup
  len : A.length = m.length
  sub : Le S H
  live : ∀ a ∈ A, ∃ o, H a = some o
  cell : ∀ (k : Nat) (ts : List T), m[k]? = some (some ts) → ∃ (a : Addr) (vs : List V), A[k]? = some a ∧ S a = none ∧ H a = some (.lst vs) ∧ Reps K S vs ts
/-- from one state to a later one -/
structure Ext (S H : Hp) (A : List Addr) (S' H' : Hp) (A' : List Addr) : Prop where
  sub : Le S S'
  pre : A <+: A'
  frm : ∀ a o, H a = some o → S a = none → a ∉ A → H' a = some o ∧ S' a = none ∧ a ∉ A'
theorem Ext.rfl {S H : Hp} {A : List Addr} : Ext S H A S H A := ⟨Le.rfl, List.prefix_rfl, fun _ _ h k n => ⟨h, k, n⟩⟩
theorem Ext.trans {S H S1 H1 S2 H2 : Hp} {A A1 A2 : List Addr} (x : Ext S H A S1 H1 A1) (y : Ext S1 H1 A1 S2 H2 A2) : Ext S H A S2 H2 A2 :=
  ⟨x.sub.trans y.sub, x.pre.trans y.pre, fun a o h k n => let ⟨h1, k1, n1⟩ := x.frm a o h k n; y.frm a o h1 k1 n1⟩
theorem pre_get {α : Type} {A A' : List α} (h : A <+: A') {k : Nat} {a : α} (e : A[k]? = some a) : A'[k]? = some a := by
  obtain ⟨B, rfl⟩ := h
  have := (List.getElem?_eq_some_iff.mp e).1
  rw [List.getElem?_append_left this]; exact e
section
variable {K : PySem.W.Frag} {S S' H H' : Hp} {A A' : List Addr} {m m' : Mem}
theorem RepU.ext {v : V} {u : U} (r : RepU K S A v u) (hs : Le S S') (ha : A <+: A') : RepU K S' A' v u := by
  cases r with
  | p q => exact .p (q.le hs)
  | mu e => exact .mu (pre_get ha e)
theorem RepUs.ext : ∀ {vs : List V} {us : List U}, RepUs K S A vs us → Le S S' → A <+: A' → RepUs K S' A' vs us
  | _, _, .nil, _, _ => .nil
  | _, _, .cons r q, hs, ha => .cons (r.ext hs ha) (RepUs.ext q hs ha)
theorem RepUs.length : ∀ {vs : List V} {us : List U}, RepUs K S A vs us → vs.length = us.length
  | _, _, .nil => rfl
  | _, _, .cons _ q => congrArg (· + 1) (RepUs.length q)
theorem RepUs.append : ∀ {vs ws : List V} {us xs : List U}, RepUs K S A vs us → RepUs K S A ws xs → RepUs K S A (vs ++ ws) (us ++ xs)
  | _, _, _, _, .nil, q => q
  | _, _, _, _, .cons r p, q => .cons r (RepUs.append p q)
theorem RepUs.get : ∀ {vs : List V} {us : List U} {i : Nat} {u : U}, RepUs K S A vs us → us[i]? = some u → ∃ v, vs[i]? = some v ∧ RepU K S A v u
  | _, _, _, _, .nil, e => by simp at e
  | _, _, 0, _, .cons r _, e => by simp at e; subst e; exact ⟨_, by simp, r⟩
  | _, _, i + 1, u, .cons _ q, e => by
    obtain ⟨v, h1, h2⟩ := RepUs.get (i := i) (u := u) q (by simpa using e)
    exact ⟨v, by simpa using h1, h2⟩
/-- the trees of values that are trees -/
def unU : List U → Option (List T)
  | [] => some []
  | .p t :: r => (unU r).map (t :: ·)
  | .mu _ :: _ => none
theorem RepUs.un : ∀ {vs : List V} {us : List U} {ts : List T}, RepUs K S A vs us → unU us = some ts → Reps K S vs ts
  | _, _, _, .nil, e => by cases e; exact .nil
  | _, _, ts, .cons (u := .p t) (us := us) (.p r) q, e => by
    unfold unU at e
    cases h : unU us with
    | none => rw [h] at e; cases e
    | some l => rw [h] at e; cases e; exact .cons r (RepUs.un q h)
  | _, _, _, .cons (u := .mu _) _ _, e => by cases e
/-- what was alive is alive -/
theorem Ext.alive (x : Ext S H A S' H' A') (o' : MOk K S' H' A' m') {a : Addr} {o : HO} (h : H a = some o) : ∃ u, H' a = some u := by
  cases hs : S a with
  | some u => exact ⟨u, o'.sub _ _ (x.sub _ _ hs)⟩
  | none =>
    by_cases hA : a ∈ A
    · exact o'.live a (x.pre.subset hA)
    · exact ⟨o, (x.frm a o h hs hA).1⟩
theorem Ext.fresh (x : Ext S H A S' H' A') (o' : MOk K S' H' A' m') {a : Addr} (h : H' a = none) : H a = none := by
  cases e : H a with
  | none => rfl
  | some o =>
    obtain ⟨u, q⟩ := x.alive o' e
    rw [h] at q; cases q
theorem MOk.notA (o : MOk K S H A m) {a : Addr} (h : H a = none) : a ∉ A := fun q => by
  obtain ⟨u, e⟩ := o.live a q
  rw [h] at e; cases e
theorem MOk.freshS (o : MOk K S H A m) {a : Addr} (h : H a = none) : S a = none := by
  cases e : S a with
  | none => rfl
  | some u => have := o.sub _ _ e; rw [h] at this; cases this
theorem upd_some {H : Hp} {a b : Addr} {o u : HO} (h : H b = some u) (hn : H a = none) : upd H a o b = some u := by
  rw [upd_ne (ne_of_none h hn)]; exact h
/-- a new object that no one will change -/
theorem Ext.new (hn : H a = none) (ho : MOk K S H A m) (o : HO) : Ext S H A (upd S a o) (upd H a o) A :=
  ⟨fun b u e => upd_some e (ho.freshS hn), List.prefix_rfl, fun b u h k n => ⟨upd_some h hn, by rw [upd_ne (ne_of_none h hn)]; exact k, n⟩⟩
theorem MOk.new (ho : MOk K S H A m) {a : Addr} (hn : H a = none) (o : HO) : MOk K (upd S a o) (upd H a o) A m := by
  have le : Le S (upd S a o) := fun b u e => upd_some e (ho.freshS hn)
  refine ⟨ho.nd, ho.len, fun b u e => ?_, fun b hb => ?_, fun k ts e => ?_⟩
  · by_cases h : b = a
    · subst h; rw [upd_same] at e ⊢; exact e
    · rw [upd_ne h] at e ⊢; exact ho.sub _ _ e
  · obtain ⟨u, q⟩ := ho.live b hb
    exact ⟨u, upd_some q hn⟩
  · obtain ⟨b, vs, h1, h2, h3, h4⟩ := ho.cell k ts e
    exact ⟨b, vs, h1, by rw [upd_ne (ne_of_none h3 hn)]; exact h2, upd_some h3 hn, h4.le le⟩
/-- a new object at H alone (someone else's for a while) -/
theorem MOk.other (ho : MOk K S H A m) {a : Addr} (hn : H a = none) (o : HO) : MOk K S (upd H a o) A m := by
  refine ⟨ho.nd, ho.len, fun b u e => upd_some (ho.sub _ _ e) hn, fun b hb => ?_, fun k ts e => ?_⟩
  · obtain ⟨u, q⟩ := ho.live b hb
    exact ⟨u, upd_some q hn⟩
  · obtain ⟨b, vs, h1, h2, h3, h4⟩ := ho.cell k ts e
    exact ⟨b, vs, h1, h2, upd_some h3 hn, h4⟩
/-- a new list of the memory -/
theorem MOk.newMu (ho : MOk K S H A m) {a : Addr} (hn : H a = none) {vs : List V} {ts : List T} (r : Reps K S vs ts) : MOk K S (upd H a (.lst vs)) (A ++ [a]) (m ++ [some ts]) := by
  have o1 := ho.other hn (.lst vs)
  refine ⟨?_, by simp [ho.len], o1.sub, fun b hb => ?_, fun k us e => ?_⟩
  · rw [List.nodup_append]
    refine ⟨ho.nd, by simp, fun x hx y hy => ?_⟩
    simp at hy; subst hy
    exact fun q => ho.notA hn (q ▸ hx)
  · rcases List.mem_append.mp hb with h | h
    · exact o1.live b h
    · simp at h; subst h; exact ⟨_, upd_same⟩
  · by_cases hk : k < m.length
    · rw [List.getElem?_append_left hk] at e
      obtain ⟨b, ws, h1, h2, h3, h4⟩ := o1.cell k us e
      exact ⟨b, ws, pre_get (List.prefix_append A [a]) h1, h2, h3, h4⟩
    · rw [List.getElem?_append_right (by omega)] at e
      have : k = m.length := by
        cases hz : k - m.length with
        | zero => omega
        | succ z => rw [hz] at e; simp at e
      subst this
      simp at e; subst e
      refine ⟨a, vs, ?_, ho.freshS hn, upd_same, r⟩
      rw [← ho.len, List.getElem?_append_right (Nat.le_refl _)]; simp
theorem Ext.newMu (ho : MOk K S H A m) {a : Addr} (hn : H a = none) (o : HO) : Ext S H A S (upd H a o) (A ++ [a]) :=
  ⟨Le.rfl, List.prefix_append A [a], fun b u h k n => ⟨upd_some h hn, k, fun q => by
    rcases List.mem_append.mp q with q | q
    · exact n q
    · simp at q; subst q; rw [hn] at h; cases h⟩⟩
/-- a list of the memory changes -/
theorem MOk.put (ho : MOk K S H A m) {k : Nat} {a : Addr} (ha : A[k]? = some a) (hs : S a = none) {vs : List V} {ts : List T} (r : Reps K S vs ts) : MOk K S (upd H a (.lst vs)) A (m.set k (some ts)) := by
  have hk := (List.getElem?_eq_some_iff.mp ha).1
  refine ⟨ho.nd, by simp [ho.len], fun b u e => ?_, fun b hb => ?_, fun j us e => ?_⟩
  · rw [upd_ne (ne_of_none e hs)]; exact ho.sub _ _ e
  · by_cases h : b = a
    · subst h; exact ⟨_, upd_same⟩
    · obtain ⟨u, q⟩ := ho.live b hb
      exact ⟨u, by rw [upd_ne h]; exact q⟩
  · by_cases hj : j = k
    · subst hj
      rw [List.getElem?_set_self (by rw [← ho.len]; exact hk)] at e
      cases e
      exact ⟨a, vs, ha, hs, upd_same, r⟩
    · rw [List.getElem?_set_ne (Ne.symm hj)] at e
      obtain ⟨b, ws, h1, h2, h3, h4⟩ := ho.cell j us e
      refine ⟨b, ws, h1, h2, ?_, h4⟩
      rw [upd_ne]; exact h3
      intro q; subst q
      have hj' := (List.getElem?_eq_some_iff.mp h1)
      have hk' := (List.getElem?_eq_some_iff.mp ha)
      exact hj ((List.getElem_inj ho.nd).mp (hj'.2.trans hk'.2.symm))
theorem Ext.put {k : Nat} {a : Addr} (ha : A[k]? = some a) (o : HO) : Ext S H A S (upd H a o) A :=
  ⟨Le.rfl, List.prefix_rfl, fun b u h q n => ⟨by rw [upd_ne]; exact h; intro z; subst z; exact n (List.mem_of_getElem? ha), q, n⟩⟩
/-- a list of the memory will not change any more -/
theorem MOk.freeze (ho : MOk K S H A m) {k : Nat} {a : Addr} {vs : List V} {ts : List T} (ha : A[k]? = some a) (hs : S a = none) (hH : H a = some (.lst vs)) : MOk K (upd S a (.lst vs)) H A (m.set k none) := by
  have le : Le S (upd S a (.lst vs)) := fun b u e => upd_some e hs
  refine ⟨ho.nd, by simp [ho.len], fun b u e => ?_, ho.live, fun j us e => ?_⟩
  · by_cases h : b = a
    · subst h; rw [upd_same] at e; cases e; exact hH
    · rw [upd_ne h] at e; exact ho.sub _ _ e
  · by_cases hj : j = k
    · subst hj
      have hk := (List.getElem?_eq_some_iff.mp ha).1
      rw [List.getElem?_set_self (by rw [← ho.len]; exact hk)] at e
      cases e
    · rw [List.getElem?_set_ne (Ne.symm hj)] at e
      obtain ⟨b, ws, h1, h2, h3, h4⟩ := ho.cell j us e
      refine ⟨b, ws, h1, ?_, h3, h4.le le⟩
      rw [upd_ne]; exact h2
      intro q; subst q
      have hj' := (List.getElem?_eq_some_iff.mp h1)
      have hk' := (List.getElem?_eq_some_iff.mp ha)
      exact hj ((List.getElem_inj ho.nd).mp (hj'.2.trans hk'.2.symm))
theorem Ext.freeze {k : Nat} {a : Addr} {vs : List V} (ha : A[k]? = some a) (hs : S a = none) : Ext S H A (upd S a (.lst vs)) H A :=
  ⟨fun b u e => upd_some e hs, List.prefix_rfl, fun b u h q n => ⟨h, by rw [upd_ne]; exact q; intro z; subst z; exact n (List.mem_of_getElem? ha), n⟩⟩
/-- what was made since is forgotten -/
theorem MOk.take (ho : MOk K S H A m) (n : Nat) : MOk K S H (A.take n) (m.take n) := by
  refine ⟨ho.nd.sublist (List.take_sublist _ _), by simp [ho.len], ho.sub, fun a h => ho.live a (List.mem_of_mem_take h), fun k ts e => ?_⟩
  have hk : k < n := by
    by_cases h : k < n
    · exact h
    · rw [List.getElem?_take_eq_none (by omega)] at e; cases e
  rw [List.getElem?_take_of_lt hk] at e
  obtain ⟨a, vs, h1, h2⟩ := ho.cell k ts e
  exact ⟨a, vs, by rw [List.getElem?_take_of_lt hk]; exact h1, h2⟩
theorem Ext.take (x : Ext S H A S' H' A') : Ext S H A S' H' (A'.take A.length) := by
  have e : A'.take A.length = A := by
    obtain ⟨B, rfl⟩ := x.pre
    simp
  rw [e]
  refine ⟨x.sub, List.prefix_rfl, fun a o h k n => ?_⟩
  obtain ⟨h1, k1, n1⟩ := x.frm a o h k n
  exact ⟨h1, k1, n⟩
end

/-! ### the slots -/
structure EOk (K : PySem.W.Frag) (S : Hp) (A : List Addr) (σ : L2.St) (e : En) : Prop where
  len : σ.length = e.length
  at_ : ∀ (i : Nat) (u : U), e[i]? = some (some u) → ∃ v, σ[i]? = some (some v) ∧ RepU K S A v u
section
variable {K : PySem.W.Frag} {S S' H H' : Hp} {A A' : List Addr} {σ : L2.St} {e : En}
theorem EOk.ext (o : EOk K S A σ e) (x : Ext S H A S' H' A') : EOk K S' A' σ e := ⟨o.len, fun i u h => let ⟨v, h1, r⟩ := o.at_ i u h; ⟨v, h1, r.ext x.sub x.pre⟩⟩
theorem EOk.set (o : EOk K S A σ e) {v : V} {u : U} (r : RepU K S A v u) (i : Nat) : EOk K S A (σ.set i (some v)) (e.set i (some u)) := by
  refine ⟨by simp [o.len], fun j w h => ?_⟩
  by_cases hj : j = i
  · subst hj
    by_cases hl : j < e.length
    · rw [List.getElem?_set_self hl] at h
      cases h
      exact ⟨v, by rw [List.getElem?_set_self (by rw [o.len]; exact hl)], r⟩
    · rw [List.getElem?_eq_none (by simp; omega)] at h
      cases h
  · rw [List.getElem?_set_ne (Ne.symm hj)] at h ⊢
    exact o.at_ j w h
end

/-! ### readings -/
def ExR (mg : Str → Option Value) (x : Ex) (cls : Value) (dd : Option Addr) (H : Hp) : Prop :=
  ∃ C : Addr, mg x.name = some (.ref C) ∧ cls = .ref C ∧ ∀ i, x.num = some i → ∃ d, dd = some d ∧ H d = some (.xd [(("number" : Str), .int i)])
/-- what is wanted behind a result -/
def okG {α β : Type} (rel : Hp → List Addr → β → α → Prop) (K : PySem.W.Frag) (mg : Str → Option Value) (W : Value → Option Addr → Hp → Prop) (S H : Hp) (A : List Addr) (Q : β → Hp → Prop) : R α → Prop
  | .ok t m' => ∀ v S' H' A', Ext S H A S' H' A' → MOk K S' H' A' m' → rel S' A' v t → Q v H'
  | .exc e m' => ∀ cls dd S' H' A', Ext S H A S' H' A' → MOk K S' H' A' m' → ExR mg e cls dd H' → W cls dd H'
  | .bad => False
section
variable {α β γ δ : Type} {rel : Hp → List Addr → β → α → Prop} {rel' : Hp → List Addr → δ → γ → Prop} {K : PySem.W.Frag} {mg : Str → Option Value} {W : Value → Option Addr → Hp → Prop} {S H S1 H1 : Hp} {A A1 : List Addr} {Q : β → Hp → Prop} {Q' : δ → Hp → Prop} {r : R α} {f : α → Mem → R γ}
theorem okG_ext (x : Ext S H A S1 H1 A1) (h : okG rel K mg W S H A Q r) : okG rel K mg W S1 H1 A1 Q r := by
  cases r with
  | ok t m => exact fun v S' H' A' y => h v S' H' A' (x.trans y)
  | exc e m => exact fun c d S' H' A' y => h c d S' H' A' (x.trans y)
  | bad => exact h
theorem okG_bind (h : okG rel' K mg W S H A Q' (r.bind f))
    (k : ∀ t m1 v S1 H1 A1, r = .ok t m1 → Ext S H A S1 H1 A1 → MOk K S1 H1 A1 m1 → rel S1 A1 v t → okG rel' K mg W S1 H1 A1 Q' (f t m1) → Q v H1) : okG rel K mg W S H A Q r := by
  cases r with
  | ok t m => exact fun v S' H' A' x o rr => k t m v S' H' A' rfl x o rr (okG_ext x h)
  | exc e m => exact h
  | bad => exact h
theorem okG_ok {t : α} {m : Mem} (h : okG rel K mg W S H A Q (.ok t m)) {v : β} (o : MOk K S H A m) (rr : rel S A v t) : Q v H := h v S H A Ext.rfl o rr
theorem okG_imp {Q2 : β → Hp → Prop} (h : okG rel K mg W S H A Q r) (k : ∀ v H', Q v H' → Q2 v H') : okG rel K mg W S H A Q2 r := by
  cases r with
  | ok t m => exact fun v S' H' A' x o rr => k _ _ (h v S' H' A' x o rr)
  | exc e m => exact h
  | bad => exact h
end
/-- an expression's reading by its meaning -/
def tE (K : PySem.W.Frag) (mg : Str → Option Value) (W : WX) (d : D) : TE := fun σ H Q => ∃ S A e m, EOk K S A σ e ∧ MOk K S H A m ∧ okG (fun S A => RepU K S A) K mg (fun c dd H' => W c dd σ H') S H A Q (d e m)
def tA (K : PySem.W.Frag) (mg : Str → Option Value) (W : WX) (d : DA) : TA := fun σ H Q => ∃ S A e m, EOk K S A σ e ∧ MOk K S H A m ∧ okG (fun S A => RepUs K S A) K mg (fun c dd H' => W c dd σ H') S H A Q (d e m)
def tB (K : PySem.W.Frag) (mg : Str → Option Value) (W : WX) (d : DB) : TT := fun σ H Q => ∃ S A e m, EOk K S A σ e ∧ MOk K S H A m ∧ okG (fun _ _ (b c : Bool) => b = c) K mg (fun c dd H' => W c dd σ H') S H A Q (d e m)
/-- a block's -/
def okS (K : PySem.W.Frag) (mg : Str → Option Value) (W : WX) (S H : Hp) (A : List Addr) (Dn : Ends) : RS → Prop
  | .next e m => ∀ σ' S' H' A', Ext S H A S' H' A' → MOk K S' H' A' m → EOk K S' A' σ' e → Dn.nx σ' H'
  | .ret u m => ∀ v S' H' A', Ext S H A S' H' A' → MOk K S' H' A' m → RepU K S' A' v u → Dn.rt v H'
  | .brk e m => ∀ σ' S' H' A', Ext S H A S' H' A' → MOk K S' H' A' m → EOk K S' A' σ' e → Dn.bk σ' H'
  | .cont e m => ∀ σ' S' H' A', Ext S H A S' H' A' → MOk K S' H' A' m → EOk K S' A' σ' e → Dn.ct σ' H'
  | .exc x e m => ∀ σ' cls dd S' H' A', Ext S H A S' H' A' → MOk K S' H' A' m → EOk K S' A' σ' e → ExR mg x cls dd H' → W cls dd σ' H'
  | .bad => False
def tS (K : PySem.W.Frag) (mg : Str → Option Value) (W : WX) (d : DS) : TS := fun Dn σ H => ∃ S A e m, EOk K S A σ e ∧ MOk K S H A m ∧ okS K mg W S H A Dn (d e m)
theorem okS_ext {K : PySem.W.Frag} {mg : Str → Option Value} {W : WX} {S H S1 H1 : Hp} {A A1 : List Addr} {Dn : Ends} {r : RS} (x : Ext S H A S1 H1 A1) (h : okS K mg W S H A Dn r) : okS K mg W S1 H1 A1 Dn r := by
  cases r with
  | next e m => exact fun σ S' H' A' y => h σ S' H' A' (x.trans y)
  | ret e m => exact fun σ S' H' A' y => h σ S' H' A' (x.trans y)
  | brk e m => exact fun σ S' H' A' y => h σ S' H' A' (x.trans y)
  | cont e m => exact fun σ S' H' A' y => h σ S' H' A' (x.trans y)
  | exc e e' m => exact fun σ c d S' H' A' y => h σ c d S' H' A' (x.trans y)
  | bad => exact h
end Tw

namespace Tw
open PySem PySem.Spec PyProof.Rows L2
/-! ### weaker readings -/
theorem weakE {X : Cx} {e : Expr} {t t' : TE} (h : PE X e t) (k : ∀ σ H Q, t' σ H Q → t σ H Q) : PE X e t' := ⟨fun pins s σ H Q I q => h.run pins s σ H Q I (k σ H Q q)⟩
theorem weakT {X : Cx} {e : Expr} {t t' : TT} (h : PT X e t) (k : ∀ σ H Q, t' σ H Q → t σ H Q) : PT X e t' := ⟨fun pins s σ H Q I q => h.run pins s σ H Q I (k σ H Q q)⟩
theorem weakW {X : Cx} {e : Expr} {t t' : TT} (h : PW X e t) (k : ∀ σ H Q, t' σ H Q → t σ H Q) : PW X e t' := ⟨fun wh pins s σ H Q I q => h.run wh pins s σ H Q I (k σ H Q q)⟩
theorem weakA {X : Cx} {es : List Expr} {t t' : TA} (h : PA X es t) (k : ∀ σ H Q, t' σ H Q → t σ H Q) : PA X es t' := ⟨fun pos pins s σ H Q I q => h.run pos pins s σ H Q I (k σ H Q q)⟩
theorem weakS {X : Cx} {st : Stmt} {t t' : TS} (h : PS X st t) (k : ∀ Dn σ H, t' Dn σ H → t Dn σ H) : PS X st t' := ⟨fun pins s σ H Dn I q => h.run pins s σ H Dn I (k Dn σ H q)⟩
theorem weakSs {X : Cx} {st : List Stmt} {t t' : TS} (h : PSs X st t) (k : ∀ Dn σ H, t' Dn σ H → t Dn σ H) : PSs X st t' := ⟨fun pins s σ H Dn I q => h.run pins s σ H Dn I (k Dn σ H q)⟩

/-! ### what lies at a value -/
/-- the items of a list (a tree, or of the memory), of a tuple -/
def lstOf (m : Mem) : U → Option (List T)
  | .p (.lst ts) => some ts
  | .mu k => m[k]?.join
  | _ => none
def seqOf (m : Mem) : U → Option (List T)
  | .p (.lst ts) => some ts
  | .p (.tup ts) => some ts
  | .p (.scr ns) => some (ns.map T.int)
  | .mu k => m[k]?.join
  | _ => none
section
variable {K : PySem.W.Frag} {S H : Hp} {A : List Addr} {m : Mem}
theorem join_some {m : Mem} {k : Nat} {ts : List T} (h : m[k]?.join = some ts) : m[k]? = some (some ts) := by
  cases e : m[k]? with
  | none => rw [e] at h; cases h
  | some o =>
    rw [e] at h
    cases o with
    | none => cases h
    | some l => cases h; rfl
theorem Reps.ints : ∀ ns : List Int, Reps K S (ns.map V.int) (ns.map T.int)
  | [] => .nil
  | n :: r => .cons (.int n) (Reps.ints r)
theorem lst_at (o : MOk K S H A m) {v : V} {u : U} {ts : List T} (r : RepU K S A v u) (h : lstOf m u = some ts) : ∃ a vs, v = .ref a ∧ H a = some (.lst vs) ∧ Reps K S vs ts := by
  cases r with
  | p q =>
    cases q with
    | lst q r => cases h; exact ⟨_, _, rfl, o.sub _ _ q, r⟩
    | _ => cases h
  | mu e =>
    obtain ⟨a, vs, h1, h2, h3, h4⟩ := o.cell _ _ (join_some h)
    rw [e] at h1; cases h1
    exact ⟨_, vs, rfl, h3, h4⟩
theorem seq_at (o : MOk K S H A m) {v : V} {u : U} {ts : List T} (r : RepU K S A v u) (h : seqOf m u = some ts) : ∃ a vs, v = .ref a ∧ (SqL K H a vs ∨ SqT K H a vs) ∧ Reps K S vs ts := by
  cases r with
  | p q =>
    cases q with
    | lst q r => cases h; exact ⟨_, _, rfl, .inl (SqL.of (o.sub _ _ q)), r⟩
    | tup q r => cases h; exact ⟨_, _, rfl, .inr (o.sub.sqT q), r⟩
    | scr q => cases h; exact ⟨_, _, rfl, .inl (o.sub.sqL q), Reps.ints _⟩
    | _ => cases h
  | mu e =>
    obtain ⟨a, vs, h1, h2, h3, h4⟩ := o.cell _ _ (join_some h)
    rw [e] at h1; cases h1
    exact ⟨_, vs, rfl, .inl (SqL.of h3), h4⟩
end
/-- truth -/
def truU (m : Mem) : U → Option Bool
  | .p .non => some false
  | .p (.bl b) => some b
  | .p (.int i) => some (i != 0)
  | .p (.str x) => if x.length ≤ 16777216 then some ((x.length : Int) != 0) else none
  | .p (.ty _) => none
  | u => (seqOf m u).map fun ts => !ts.isEmpty
theorem reps_empty {K : PySem.W.Frag} {S : Hp} {vs : List V} {ts : List T} (r : Reps K S vs ts) : vs.isEmpty = ts.isEmpty := by cases r <;> rfl
theorem line_eq : (sizeLine : Nat) = 16777216 := sizeLine_eq
theorem tru_at {K : PySem.W.Frag} {S H : Hp} {A : List Addr} {m : Mem} (o : MOk K S H A m) {v : V} {u : U} {b : Bool} (r : RepU K S A v u) (h : truU m u = some b) : TruV K v H b := by
  have sq : ∀ {v : V} {u : U}, RepU K S A v u → (seqOf m u).map (fun ts => !ts.isEmpty) = some b → TruV K v H b := fun {v u} r h => by
    cases e : seqOf m u with
    | none => rw [e] at h; cases h
    | some ts =>
      rw [e] at h
      obtain ⟨a, vs, rfl, hs, rr⟩ := seq_at o r e
      have hb : b = !vs.isEmpty := by rw [reps_empty rr]; exact (Option.some.inj h).symm
      rcases hs with hs | hs
      · exact .inl ⟨vs, hs, hb⟩
      · exact .inr (.inl ⟨vs, hs, hb⟩)
  cases r with
  | p q =>
    cases q with
    | non => cases h; rfl
    | bl c => cases h; rfl
    | int i => cases h; rfl
    | str x =>
      have h' : (if x.length ≤ 16777216 then some ((x.length : Int) != 0) else none) = some b := h
      by_cases hx : x.length ≤ 16777216
      · rw [if_pos hx] at h'; exact ⟨by rw [line_eq]; exact hx, (Option.some.inj h').symm⟩
      · rw [if_neg hx] at h'; cases h'
    | ty n => cases h
    | tup q r => exact sq (.p (.tup q r)) h
    | lst q r => exact sq (.p (.lst q r)) h
    | scr q => exact sq (.p (.scr q)) h
  | mu e => exact sq (.mu e) h

/-! ### trees as data -/
mutual
def T.toD : T → PyData
  | .non => .none | .bl b => .bool b | .int i => .int i | .str x => .str x | .ty _ => .dict [] | .scr ns => .list (ns.map PyData.int)
  | .tup ts => .tuple (T.toDs ts) | .lst ts => .list (T.toDs ts)
def T.toDs : List T → List PyData
  | [] => []
  | t :: r => t.toD :: T.toDs r
end
def datU (m : Mem) : U → Option PyData
  | .p t => some t.toD
  | .mu k => m[k]?.join.map fun ts => .list (T.toDs ts)
section
variable {K : PySem.W.Frag} {S H : Hp} {A : List Addr} {m : Mem}
theorem dp_ints {K : PySem.W.Frag} {H : Hp} : ∀ ns : List Int, DpAll K H (ns.map V.int) (ns.map PyData.int)
  | [] => .nil
  | n :: r => .cons (.int n) (dp_ints r)
mutual
theorem Rep.dp (h : Le S H) : ∀ {v : V} {t : T}, Rep K S v t → t.toD.canLay0 = true → Dp K H v t.toD
  | _, _, .non, _ => .non
  | _, _, .bl b, _ => .bl b
  | _, _, .int i, _ => .int i
  | _, _, .str x, _ => .str x
  | _, _, .ty n, e => by cases e
  | _, _, .tup q r, e => .tup (h.sqT q) (Reps.dp h r (by simpa [T.toD, PyData.canLay0] using e))
  | _, _, .lst q r, e => .lst (SqL.of (h _ _ q)) (Reps.dp h r (by simpa [T.toD, PyData.canLay0] using e))
  | _, _, .scr (ns := ns) q, _ => .lst (h.sqL q) (dp_ints ns)
theorem Reps.dp (h : Le S H) : ∀ {vs : List V} {ts : List T}, Reps K S vs ts → PyData.canLayAll0 (T.toDs ts) = true → DpAll K H vs (T.toDs ts)
  | _, _, .nil, _ => .nil
  | _, _, .cons r q, e => by
    simp only [T.toDs, PyData.canLayAll0, Bool.and_eq_true] at e
    exact .cons (Rep.dp h r e.1) (Reps.dp h q e.2)
end
theorem dat_at (o : MOk K S H A m) {v : V} {u : U} {d : PyData} (r : RepU K S A v u) (h : datU m u = some d) (sh : SeqAt.shaped d = true) : Dp K H v d := by
  have lay : d.canLay0 = true := by
    unfold SeqAt.shaped at sh
    exact (Bool.and_eq_true_iff.mp sh).1
  cases r with
  | p q =>
    cases h
    exact q.dp o.sub lay
  | mu e =>
    rename_i k a
    have h' : m[k]?.join.map (fun ts => PyData.list (T.toDs ts)) = some d := h
    cases ej : m[k]?.join with
    | none => rw [ej] at h'; cases h'
    | some ts =>
      rw [ej] at h'
      cases h'
      obtain ⟨b, vs, h1, h2, h3, h4⟩ := o.cell _ _ (join_some ej)
      rw [e] at h1; cases h1
      exact .lst (SqL.of h3) (h4.dp o.sub (by simpa [PyData.canLay0] using lay))
end

/-! ### operations on values -/
abbrev F2 := U → U → Mem → R U
abbrev FN := List U → Mem → R U
def OpS (K : PySem.W.Frag) (g : R2) (f : F2) : Prop := ∀ (mg : Str → Option Value) (W : Value → Option Addr → Hp → Prop) (S H : Hp) (A : List Addr) (m : Mem) (x y : V) (u w : U) (Q : VK), MOk K S H A m → RepU K S A x u → RepU K S A y w →
  okG (fun S A => RepU K S A) K mg W S H A Q (f u w m) → g x y H Q
def CallS (K : PySem.W.Frag) (g : List V → Hp → VK → Prop) (f : FN) : Prop := ∀ (mg : Str → Option Value) (W : Value → Option Addr → Hp → Prop) (S H : Hp) (A : List Addr) (m : Mem) (xs : List V) (us : List U) (Q : VK), MOk K S H A m → RepUs K S A xs us →
  okG (fun S A => RepU K S A) K mg W S H A Q (f us m) → g xs H Q
theorem OpR.or {X : Cx} {f : Value → Value → Sem Value} {r r' : R2} (h : OpR X f r) (h' : OpR X f r') : OpR X f (fun x y H Q => r x y H Q ∨ r' x y H Q) := by
  intro pins s σ H x y v u Q I rx ry q
  rcases q with q | q
  · exact h pins s σ H x y v u Q I rx ry q
  · exact h' pins s σ H x y v u Q I rx ry q
theorem CallR.or {X : Cx} {f : Value} {r r' : List V → Hp → VK → Prop} (h : CallR X f r) (h' : CallR X f r') : CallR X f (fun x H Q => r x H Q ∨ r' x H Q) := by
  intro pins s σ H x us Q I rx q
  rcases q with q | q
  · exact h pins s σ H x us Q I rx q
  · exact h' pins s σ H x us Q I rx q
def dBin (f : F2) (da db : D) : D := fun e m => (da e m).bind fun x m1 => (db e m1).bind fun y m2 => f x y m2
section
variable {X : Cx} {W : WX} {a b c : Expr} {pos : Pos} {da db dc : D}
theorem bin_use {K : PySem.W.Frag} {mg : Str → Option Value} {W : WX} {g : R2} {f : F2} (hf : OpS K g f) {σ : L2.St} {H : Hp} {Q : VK} (h : tE K mg W (dBin f da db) σ H Q) : tOp g (tE K mg W da) (tE K mg W db) σ H Q := by
  obtain ⟨S, A, e, m, eo, mo, h⟩ := h
  exact ⟨S, A, e, m, eo, mo, okG_bind h fun x m1 v S1 H1 A1 _ x1 mo1 r1 h1 =>
    ⟨S1, A1, e, m1, eo.ext x1, mo1, okG_bind h1 fun y m2 w S2 H2 A2 _ x2 mo2 r2 h2 => hf _ _ _ _ _ _ _ _ _ _ _ mo2 (r1.ext x2.sub x2.pre) r2 h2⟩⟩
theorem tr_op {op : Operator} {g : R2} {f : F2} (hg : OpR X (binaryOp op) g) (hf : OpS X.K g f) (ha : PE X a (tE X.K X.mg W da)) (hb : PE X b (tE X.K X.mg W db)) : PE X (.BinOp a op b pos) (tE X.K X.mg W (dBin f da db)) :=
  weakE (pe_op hg ha hb) fun _ _ _ h => bin_use hf h
theorem tr_cmp {op : CmpOp} {g : R2} {f : F2} (hg : OpR X (compareOp op) g) (hf : OpS X.K g f) (ha : PE X a (tE X.K X.mg W da)) (hb : PE X b (tE X.K X.mg W db)) (hm : behindInMarks op b = false) : PE X (.Compare a [op] [b] pos) (tE X.K X.mg W (dBin f da db)) :=
  weakE (pe_cmpR hg ha hb hm) fun _ _ _ h => bin_use hf h
/-- a value that is a truth value, as a test -/
def dAsB (d : D) : DB := fun e m => (d e m).bind fun u m1 => match u with
  | .p (.bl b) => .ok b m1
  | _ => .bad
theorem asB_use {K : PySem.W.Frag} {mg : Str → Option Value} {W : WX} {d : D} {σ : L2.St} {H : Hp} {Q : Bool → Hp → Prop} (h : tB K mg W (dAsB d) σ H Q) : tE K mg W d σ H (fun x H' => ∃ k, x = .bl k ∧ Q k H') := by
  obtain ⟨S, A, e, m, eo, mo, h⟩ := h
  refine ⟨S, A, e, m, eo, mo, okG_bind h fun x m1 v S1 H1 A1 _ x1 mo1 r1 h1 => ?_⟩
  cases r1 with
  | p q =>
    cases q with
    | bl b => exact ⟨b, rfl, okG_ok h1 mo1 rfl⟩
    | _ => exact False.elim h1
  | mu _ => exact False.elim h1
theorem tr_cmpT {op : CmpOp} {g : R2} {f : F2} (hg : OpR X (compareOp op) g) (hf : OpS X.K g f) (ha : PE X a (tE X.K X.mg W da)) (hb : PE X b (tE X.K X.mg W db)) (hm : behindInMarks op b = false) : PT X (.Compare a [op] [b] pos) (tB X.K X.mg W (dAsB (dBin f da db))) :=
  weakT (pt_cmpR hg ha hb hm) fun _ _ _ h => by
    obtain ⟨S, A, e, m, eo, mo, h⟩ := asB_use h
    exact bin_use hf ⟨S, A, e, m, eo, mo, h⟩
/-- any value by its truth, as a test -/
def dTru (d : D) : DB := fun e m => (d e m).bind fun u m1 => match truU m1 u with
  | some b => .ok b m1
  | none => .bad
theorem tru_use {K : PySem.W.Frag} {mg : Str → Option Value} {W : WX} {d : D} {σ : L2.St} {H : Hp} {Q : Bool → Hp → Prop} (h : tB K mg W (dTru d) σ H Q) : tE K mg W d σ H (fun x H' => ∃ k, TruV K x H' k ∧ Q k H') := by
  obtain ⟨S, A, e, m, eo, mo, h⟩ := h
  refine ⟨S, A, e, m, eo, mo, okG_bind h fun u m1 v S1 H1 A1 _ x1 mo1 r1 h1 => ?_⟩
  cases ht : truU m1 u with
  | none => rw [ht] at h1; exact False.elim h1
  | some b => rw [ht] at h1; exact ⟨b, tru_at mo1 r1 ht, okG_ok h1 mo1 rfl⟩
theorem tr_tru (ha : PE X a (tE X.K X.mg W da)) (he : ∀ whole, isTrue a X.env whole = (do let v ← whole; standAt a.pos; holding [v] (truthy v)) := by intro _; rfl) : PT X a (tB X.K X.mg W (dTru da)) :=
  weakT (pt_truth ha he) fun _ _ _ h => tru_use h

/-! ### and, or, not, if -/
def dAndB (d f : DB) : DB := fun e m => (d e m).bind fun b m1 => match b with
  | true => f e m1
  | false => .ok false m1
def dOrB (d f : DB) : DB := fun e m => (d e m).bind fun b m1 => match b with
  | true => .ok true m1
  | false => f e m1
def dNotB (d : DB) : DB := fun e m => (d e m).bind fun b m1 => .ok (!b) m1
variable {rest : List Expr} {ta tb : DB}
theorem tr_and1 (ha : PT X a (tB X.K X.mg W ta)) : PW X (.BoolOp .And [a] pos) (tB X.K X.mg W ta) := pw_and1 ha
theorem tr_or1 (ha : PT X a (tB X.K X.mg W ta)) : PW X (.BoolOp .Or [a] pos) (tB X.K X.mg W ta) := pw_or1 ha
theorem tr_andB (ha : PT X a (tB X.K X.mg W ta)) (hb : PW X (.BoolOp .And (b :: rest) pos) (tB X.K X.mg W tb)) : PW X (.BoolOp .And (a :: b :: rest) pos) (tB X.K X.mg W (dAndB ta tb)) :=
  weakW (pw_and ha hb) fun σ H Q h => by
    obtain ⟨S, A, e, m, eo, mo, h⟩ := h
    refine ⟨S, A, e, m, eo, mo, okG_bind h fun u m1 v S1 H1 A1 _ x1 mo1 r1 h1 => ?_⟩
    subst r1
    cases v with
    | true => exact iteT ⟨S1, A1, e, m1, eo.ext x1, mo1, h1⟩
    | false => exact iteF (okG_ok h1 mo1 rfl)
theorem tr_orB (ha : PT X a (tB X.K X.mg W ta)) (hb : PW X (.BoolOp .Or (b :: rest) pos) (tB X.K X.mg W tb)) : PW X (.BoolOp .Or (a :: b :: rest) pos) (tB X.K X.mg W (dOrB ta tb)) :=
  weakW (pw_or ha hb) fun σ H Q h => by
    obtain ⟨S, A, e, m, eo, mo, h⟩ := h
    refine ⟨S, A, e, m, eo, mo, okG_bind h fun u m1 v S1 H1 A1 _ x1 mo1 r1 h1 => ?_⟩
    subst r1
    cases v with
    | true => exact iteT (okG_ok h1 mo1 rfl)
    | false => exact iteF ⟨S1, A1, e, m1, eo.ext x1, mo1, h1⟩
theorem tr_notB (ha : PT X a (tB X.K X.mg W ta)) : PT X (.UnaryOp .Not a pos) (tB X.K X.mg W (dNotB ta)) :=
  weakT (pt_not ha) fun σ H Q h => by
    obtain ⟨S, A, e, m, eo, mo, h⟩ := h
    exact ⟨S, A, e, m, eo, mo, okG_bind h fun u m1 v S1 H1 A1 _ x1 mo1 r1 h1 => by subst r1; exact okG_ok h1 mo1 rfl⟩
/-- as values, by truth -/
def dAnd (d f : D) : D := fun e m => (d e m).bind fun u m1 => match truU m1 u with
  | some true => f e m1
  | some false => .ok u m1
  | none => .bad
def dOr (d f : D) : D := fun e m => (d e m).bind fun u m1 => match truU m1 u with
  | some true => .ok u m1
  | some false => f e m1
  | none => .bad
def dNot (d : D) : D := fun e m => (d e m).bind fun u m1 => match truU m1 u with
  | some b => .ok (.p (.bl (!b))) m1
  | none => .bad
theorem tr_one {op : BoolOp} (h : PE X a (tE X.K X.mg W da)) : PE X (.BoolOp op [a] pos) (tE X.K X.mg W da) := pe_one h
theorem tr_and (ha : PE X a (tE X.K X.mg W da)) (hb : PE X (.BoolOp .And (b :: rest) pos) (tE X.K X.mg W db)) : PE X (.BoolOp .And (a :: b :: rest) pos) (tE X.K X.mg W (dAnd da db)) :=
  weakE (pe_andT ha hb) fun σ H Q h => by
    obtain ⟨S, A, e, m, eo, mo, h⟩ := h
    refine ⟨S, A, e, m, eo, mo, okG_bind h fun u m1 v S1 H1 A1 _ x1 mo1 r1 h1 => ?_⟩
    cases ht : truU m1 u with
    | none => rw [ht] at h1; exact False.elim h1
    | some k =>
      rw [ht] at h1
      refine ⟨k, tru_at mo1 r1 ht, ?_⟩
      cases k with
      | true => exact iteT ⟨S1, A1, e, m1, eo.ext x1, mo1, h1⟩
      | false => exact iteF (okG_ok h1 mo1 r1)
theorem tr_or (ha : PE X a (tE X.K X.mg W da)) (hb : PE X (.BoolOp .Or (b :: rest) pos) (tE X.K X.mg W db)) : PE X (.BoolOp .Or (a :: b :: rest) pos) (tE X.K X.mg W (dOr da db)) :=
  weakE (pe_orT ha hb) fun σ H Q h => by
    obtain ⟨S, A, e, m, eo, mo, h⟩ := h
    refine ⟨S, A, e, m, eo, mo, okG_bind h fun u m1 v S1 H1 A1 _ x1 mo1 r1 h1 => ?_⟩
    cases ht : truU m1 u with
    | none => rw [ht] at h1; exact False.elim h1
    | some k =>
      rw [ht] at h1
      refine ⟨k, tru_at mo1 r1 ht, ?_⟩
      cases k with
      | true => exact iteT (okG_ok h1 mo1 r1)
      | false => exact iteF ⟨S1, A1, e, m1, eo.ext x1, mo1, h1⟩
theorem tr_not (ha : PE X a (tE X.K X.mg W da)) : PE X (.UnaryOp .Not a pos) (tE X.K X.mg W (dNot da)) :=
  weakE (pe_notT ha) fun σ H Q h => by
    obtain ⟨S, A, e, m, eo, mo, h⟩ := h
    refine ⟨S, A, e, m, eo, mo, okG_bind h fun u m1 v S1 H1 A1 _ x1 mo1 r1 h1 => ?_⟩
    cases ht : truU m1 u with
    | none => rw [ht] at h1; exact False.elim h1
    | some k =>
      rw [ht] at h1
      exact ⟨k, tru_at mo1 r1 ht, okG_ok h1 mo1 (.p (.bl _))⟩
def dIf (c : DB) (d f : D) : D := fun e m => (c e m).bind fun b m1 => match b with
  | true => d e m1
  | false => f e m1
theorem tr_if {c : Expr} (hc : PT X c (tB X.K X.mg W ta)) (ha : PE X a (tE X.K X.mg W da)) (hb : PE X b (tE X.K X.mg W db)) : PE X (.IfExp c a b pos) (tE X.K X.mg W (dIf ta da db)) :=
  weakE (pe_ifExp hc ha hb) fun σ H Q h => by
    obtain ⟨S, A, e, m, eo, mo, h⟩ := h
    refine ⟨S, A, e, m, eo, mo, okG_bind h fun u m1 v S1 H1 A1 _ x1 mo1 r1 h1 => ?_⟩
    subst r1
    cases v with
    | true => exact iteT ⟨S1, A1, e, m1, eo.ext x1, mo1, h1⟩
    | false => exact iteF ⟨S1, A1, e, m1, eo.ext x1, mo1, h1⟩

/-! ### names, constants -/
def dVar (i : Nat) : D := fun e m => match e[i]? with
  | some (some u) => .ok u m
  | _ => .bad
theorem tr_var (i : Nat) {x : Str} (hN : X.N[i]? = some x := by rfl) (hv : Vis X.env.scope x := by first | exact Or.inl rfl | exact Or.inr (Or.inl rfl) | exact Or.inr (Or.inr rfl))
    (hd : (x == ("__debug__" : Str)) = false := by decide) (hcd : (x == ("__classdict__" : Str)) = false := by decide) : PE X (.Name x pos) (tE X.K X.mg W (dVar i)) :=
  weakE (pe_var hN hv hd hcd) fun σ H Q h => by
    obtain ⟨S, A, e, m, eo, mo, h⟩ := h
    unfold dVar at h
    cases he : e[i]? with
    | none => rw [he] at h; exact False.elim h
    | some o =>
      cases o with
      | none => rw [he] at h; exact False.elim h
      | some u =>
        rw [he] at h
        obtain ⟨v, h1, r⟩ := eo.at_ i u he
        exact ⟨v, h1, okG_ok h mo r⟩
def dC (t : T) : D := fun _ m => .ok (.p t) m
theorem c_use {K : PySem.W.Frag} {mg : Str → Option Value} {W : WX} {t : T} {v : V} (r : ∀ S, Rep K S v t) {σ : L2.St} {H : Hp} {Q : VK} (h : tE K mg W (dC t) σ H Q) : tC v σ H Q := by
  obtain ⟨S, A, e, m, eo, mo, h⟩ := h
  exact okG_ok h mo (.p (r S))
theorem tr_int {i : Int} {j : Nat} : PE X (.Constant (.int i) j pos) (tE X.K X.mg W (dC (.int i))) := weakE pe_int fun _ _ _ h => c_use (fun _ => .int i) h
theorem tr_bl {i : Bool} {j : Nat} : PE X (.Constant (.bool i) j pos) (tE X.K X.mg W (dC (.bl i))) := weakE pe_bl fun _ _ _ h => c_use (fun _ => .bl i) h
theorem tr_non {j : Nat} : PE X (.Constant .none j pos) (tE X.K X.mg W (dC .non)) := weakE pe_non fun _ _ _ h => c_use (fun _ => .non) h
theorem tr_str {x : Str} {j : Nat} : PE X (.Constant (.str x) j pos) (tE X.K X.mg W (dC (.str x))) := weakE pe_str fun _ _ _ h => c_use (fun _ => .str x) h
/-- a built-in class as a value -/
theorem tr_ty {x : Str} (n : Tn) (hg : Gl X x) (hm : X.mg x = none) (hv : bootBuiltins x = some (.type n.s)) (hn : x ≠ "__name__" := by decide) (hd : (x == ("__debug__" : Str)) = false := by decide) : PE X (.Name x pos) (tE X.K X.mg W (dC (.ty n))) :=
  weakE (pe_bltn (v := .ty n.s) hg hm hv rfl hn hd) fun _ _ _ h => c_use (fun _ => .ty n) h
/-- a constant of the module -/
theorem tr_glob {x : Str} {v : V} {u : Value} {t : T} (hg : Gl X x) (hm : X.mg x = some u) (r : RelV v u) (hr : ∀ S, Rep X.K S v t) (hd : (x == ("__debug__" : Str)) = false := by decide) : PE X (.Name x pos) (tE X.K X.mg W (dC t)) :=
  weakE (pe_glob hg hm r hd) fun _ _ _ h => c_use hr h

/-! ### argument lists, displays -/
variable {e : Expr} {es : List Expr} {ds : DA}
def dNil : DA := fun _ m => .ok [] m
def dCons (d : D) (r : DA) : DA := fun e m => (d e m).bind fun u m1 => (r e m1).bind fun us m2 => .ok (u :: us) m2
theorem tr_nil : PA X [] (tA X.K X.mg W dNil) := weakA pa_nil fun σ H Q h => by
  obtain ⟨S, A, e, m, eo, mo, h⟩ := h
  exact okG_ok h mo .nil
theorem tr_cons (ha : PE X e (tE X.K X.mg W da)) (hr : PA X es (tA X.K X.mg W ds)) (hs : starEach (e :: es) X.env = (false, eval e X.env) :: starEach es X.env := by rfl) : PA X (e :: es) (tA X.K X.mg W (dCons da ds)) :=
  weakA (pa_cons ha hr hs) fun σ H Q h => by
    obtain ⟨S, A, e, m, eo, mo, h⟩ := h
    exact ⟨S, A, e, m, eo, mo, okG_bind h fun x m1 v S1 H1 A1 _ x1 mo1 r1 h1 =>
      ⟨S1, A1, e, m1, eo.ext x1, mo1, okG_bind h1 fun y m2 w S2 H2 A2 _ x2 mo2 r2 h2 => okG_ok h2 mo2 (.cons (r1.ext x2.sub x2.pre) r2)⟩⟩
section
variable {K : PySem.W.Frag} {mg : Str → Option Value} {W0 : Value → Option Addr → Hp → Prop} {S H : Hp} {A : List Addr} {m : Mem} {Q : VK} {vs : List V} {ts : List T}
theorem new_tup (h : okG (fun S A => RepU K S A) K mg W0 S H A Q (.ok (.p (.tup ts)) m)) (o : MOk K S H A m) (r : Reps K S vs ts) (p : Addr) (hp : H p = none) : Q (.ref p) (upd H p (.tup vs)) :=
  h _ _ _ _ (Ext.new hp o _) (o.new hp _) (.p (.tup (.inl upd_same) (r.le (Ext.new hp o _).sub)))
theorem new_lst (h : okG (fun S A => RepU K S A) K mg W0 S H A Q (.ok (.p (.lst ts)) m)) (o : MOk K S H A m) (r : Reps K S vs ts) (p : Addr) (hp : H p = none) : Q (.ref p) (upd H p (.lst vs)) :=
  h _ _ _ _ (Ext.new hp o _) (o.new hp _) (.p (.lst upd_same (r.le (Ext.new hp o _).sub)))
/-- a new list that may change: the memory's next -/
theorem new_mu (h : okG (fun S A => RepU K S A) K mg W0 S H A Q (.ok (.mu m.length) (m ++ [some ts]))) (o : MOk K S H A m) (r : Reps K S vs ts) (p : Addr) (hp : H p = none) : Q (.ref p) (upd H p (.lst vs)) :=
  h _ _ _ _ (Ext.newMu o hp _) (o.newMu hp r) (.mu (by rw [← o.len, List.getElem?_append_right (Nat.le_refl _)]; simp))
end
/-- how a new list is taken: as a tree, as one of the memory -/
inductive Nw where | tree | mu
def newL (n : Nw) (ts : List T) (m : Mem) : R U := match n with
  | .tree => .ok (.p (.lst ts)) m
  | .mu => .ok (.mu m.length) (m ++ [some ts])
theorem new_l {K : PySem.W.Frag} {mg : Str → Option Value} {W0 : Value → Option Addr → Hp → Prop} {S H : Hp} {A : List Addr} {m : Mem} {Q : VK} {vs : List V} {ts : List T} {n : Nw} (h : okG (fun S A => RepU K S A) K mg W0 S H A Q (newL n ts m)) (o : MOk K S H A m) (r : Reps K S vs ts) (p : Addr) (hp : H p = none) : Q (.ref p) (upd H p (.lst vs)) := by
  cases n with
  | tree => exact new_lst h o r p hp
  | mu => exact new_mu h o r p hp
def dTup (ds : DA) : D := fun e m => (ds e m).bind fun us m1 => match unU us with
  | some ts => if ts.length ≤ 16777216 then .ok (.p (.tup ts)) m1 else .bad
  | none => .bad
def dLst (n : Nw) (ds : DA) : D := fun e m => (ds e m).bind fun us m1 => match unU us with
  | some ts => if ts.length ≤ 16777216 then newL n ts m1 else .bad
  | none => .bad
theorem tr_tup {k : Nat} (h : PA X es (tA X.K X.mg W ds)) : PE X (.Tuple es k pos) (tE X.K X.mg W (dTup ds)) :=
  weakE (pe_tup h) fun σ H Q h => by
    obtain ⟨S, A, e, m, eo, mo, h⟩ := h
    refine ⟨S, A, e, m, eo, mo, okG_bind h fun us m1 v S1 H1 A1 _ x1 mo1 r1 h1 => ?_⟩
    cases hu : unU us with
    | none => rw [hu] at h1; exact False.elim h1
    | some ts =>
      rw [hu] at h1
      by_cases hl : ts.length ≤ 16777216
      · have r := r1.un hu
        simp only [hl, if_true] at h1
        exact ⟨by rw [line_eq, r.length]; exact hl, new_tup h1 mo1 r⟩
      · simp only [hl, if_false] at h1; exact False.elim h1
theorem tr_lst (n : Nw) (h : PA X es (tA X.K X.mg W ds)) : PE X (.List es pos) (tE X.K X.mg W (dLst n ds)) :=
  weakE (pe_lst h) fun σ H Q h => by
    obtain ⟨S, A, e, m, eo, mo, h⟩ := h
    refine ⟨S, A, e, m, eo, mo, okG_bind h fun us m1 v S1 H1 A1 _ x1 mo1 r1 h1 => ?_⟩
    cases hu : unU us with
    | none => rw [hu] at h1; exact False.elim h1
    | some ts =>
      rw [hu] at h1
      by_cases hl : ts.length ≤ 16777216
      · have r := r1.un hu
        simp only [hl, if_true] at h1
        exact ⟨by rw [line_eq, r.length]; exact hl, new_l h1 mo1 r⟩
      · simp only [hl, if_false] at h1; exact False.elim h1

/-! ### calls of built-ins -/
def dCall (f : FN) (ds : DA) : D := fun e m => (ds e m).bind fun us m1 => f us m1
theorem call_use {K : PySem.W.Frag} {mg : Str → Option Value} {W : WX} {g : List V → Hp → VK → Prop} {f : FN} (hf : CallS K g f) {σ : L2.St} {H : Hp} {Q : VK} (h : tE K mg W (dCall f ds) σ H Q) : tCB g (tA K mg W ds) σ H Q := by
  obtain ⟨S, A, e, m, eo, mo, h⟩ := h
  exact ⟨S, A, e, m, eo, mo, okG_bind h fun us m1 v S1 H1 A1 _ x1 mo1 r1 h1 => hf _ _ _ _ _ _ _ _ _ mo1 r1 h1⟩
theorem tr_callB {x : Str} {p : Pos} {id : String} {g : List V → Hp → VK → Prop} {f : FN} (hc : CallR X (.builtin id) g) (hf : CallS X.K g f) (hg : Gl X x) (hm : X.mg x = none) (hv : bootBuiltins x = some (.builtin id)) (ha : PA X (e :: es) (tA X.K X.mg W ds)) (hn : x ≠ "__name__" := by decide) (hdb : (x == ("__debug__" : Str)) = false := by decide)
    (he : starEach (e :: es) X.env = (false, eval e X.env) :: starEach es X.env := by rfl) (hpl : (backTo pos (starEach es X.env)).any (·.1) = false := by rfl) : PE X (.Call (.Name x p) (e :: es) [] pos) (tE X.K X.mg W (dCall f ds)) :=
  weakE (pe_callB hc hg hm hv ha hn hdb he hpl) fun _ _ _ h => call_use hf h
theorem tr_callTy {x : Str} {p : Pos} {T : String} {g : List V → Hp → VK → Prop} {f : FN} (hc : CallR X (.type T) g) (hf : CallS X.K g f) (hg : Gl X x) (hm : X.mg x = none) (hv : bootBuiltins x = some (.type T)) (ha : PA X (e :: es) (tA X.K X.mg W ds)) (hn : x ≠ "__name__" := by decide) (hdb : (x == ("__debug__" : Str)) = false := by decide)
    (he : starEach (e :: es) X.env = (false, eval e X.env) :: starEach es X.env := by rfl) (hpl : (backTo pos (starEach es X.env)).any (·.1) = false := by rfl) : PE X (.Call (.Name x p) (e :: es) [] pos) (tE X.K X.mg W (dCall f ds)) :=
  weakE (pe_callTy hc hg hm hv ha hn hdb he hpl) fun _ _ _ h => call_use hf h
end
end Tw

namespace Tw
open PySem PySem.Spec PyProof.Rows L2
/-! ### + - * // % ** - -/
def fAdd (n : Nw) : F2 := fun u w m => match u, w with
  | .p (.int i), .p (.int j) => .ok (.p (.int (i + j))) m
  | .p (.str x), .p (.str y) => if x.length + y.length ≤ 16777216 then .ok (.p (.str (x ++ y))) m else .bad
  | .p (.tup xs), .p (.tup ys) => if xs.length + ys.length ≤ 16777216 then .ok (.p (.tup (xs ++ ys))) m else .bad
  | u, w => match lstOf m u, lstOf m w with
    | some xs, some ys => if xs.length + ys.length ≤ 16777216 then newL n (xs ++ ys) m else .bad
    | _, _ => .bad
def gAdd (K : PySem.W.Frag) : R2 := fun x y H Q => (∃ i j, x = .int i ∧ y = .int j ∧ Q (.int (i + j)) H) ∨ (∃ i j, x = .str i ∧ y = .str j ∧ i.length + j.length ≤ sizeLine ∧ Q (.str (i ++ j)) H) ∨ rCatA K x y H Q ∨ rCat x y H Q
theorem oAdd {X : Cx} : OpR X (binaryOp .Add) (gAdd X.K) := OpR.or op_add (OpR.or op_add_str (OpR.or op_catA op_cat))
theorem sAdd {K : PySem.W.Frag} (n : Nw) : OpS K (gAdd K) (fAdd n) := by
  intro mg W S H A m x y u w Q o r1 r2 h
  have lists : (match lstOf m u, lstOf m w with
      | some xs, some ys => if xs.length + ys.length ≤ 16777216 then newL n (xs ++ ys) m else .bad
      | _, _ => .bad) = fAdd n u w m → gAdd K x y H Q := fun e => by
    rw [← e] at h
    cases h1 : lstOf m u with
    | none => rw [h1] at h; exact False.elim h
    | some xs =>
      cases h2 : lstOf m w with
      | none => rw [h1, h2] at h; exact False.elim h
      | some ys =>
        rw [h1, h2] at h
        obtain ⟨a, vs, rfl, ha, ra⟩ := lst_at o r1 h1
        obtain ⟨b, ws, rfl, hb, rb⟩ := lst_at o r2 h2
        by_cases hl : xs.length + ys.length ≤ 16777216
        · simp only [hl, if_true] at h
          exact .inr (.inr (.inr ⟨a, b, vs, ws, rfl, rfl, ha, hb, by rw [line_eq, ra.length, rb.length]; exact hl, new_l h o (ra.append rb)⟩))
        · simp only [hl, if_false] at h; exact False.elim h
  cases r1 with
  | mu e => exact lists rfl
  | p q1 =>
    cases q1 with
    | lst e r => exact lists (by cases r2 with
      | mu _ => rfl
      | p q2 => cases q2 <;> rfl)
    | int i =>
      cases r2 with
      | mu e => exact False.elim h
      | p q2 =>
        cases q2 with
        | int j => exact .inl ⟨i, j, rfl, rfl, okG_ok h o (.p (.int _))⟩
        | _ => exact False.elim h
    | str i =>
      cases r2 with
      | mu e => exact False.elim h
      | p q2 =>
        cases q2 with
        | str j =>
          have h' : okG (fun S A => RepU K S A) K mg W S H A Q (if i.length + j.length ≤ 16777216 then .ok (.p (.str (i ++ j))) m else .bad) := h
          by_cases hl : i.length + j.length ≤ 16777216
          · rw [if_pos hl] at h'
            exact .inr (.inl ⟨i, j, rfl, rfl, by rw [line_eq]; exact hl, okG_ok h' o (.p (.str _))⟩)
          · rw [if_neg hl] at h'; exact False.elim h'
        | _ => exact False.elim h
    | @tup a vs xs ha ra =>
      cases r2 with
      | mu e => exact False.elim h
      | p q2 =>
        cases q2 with
        | @tup b ws ys hb rb =>
          have h' : okG (fun S A => RepU K S A) K mg W S H A Q (if xs.length + ys.length ≤ 16777216 then .ok (.p (.tup (xs ++ ys))) m else .bad) := h
          by_cases hl : xs.length + ys.length ≤ 16777216
          · rw [if_pos hl] at h'
            refine .inr (.inr (.inl ⟨a, b, vs, ws, rfl, rfl, o.sub.sqT ha, o.sub.sqT hb, by rw [line_eq, ra.length, rb.length]; exact hl, fun e => ?_, fun _ e => ?_, fun _ _ => new_tup h' o (ra.append rb)⟩))
            · subst e
              cases ra
              exact okG_ok h' o (.p (.tup hb rb))
            · subst e
              cases rb
              rw [List.append_nil] at h'
              exact okG_ok h' o (.p (.tup ha ra))
          · rw [if_neg hl] at h'; exact False.elim h'
        | _ => exact False.elim h
    | _ => exact False.elim h
/-- two ints, a condition, an int -/
def fInt (C : Int → Int → Bool) (g : Int → Int → T) : F2 := fun u w m => match u, w with
  | .p (.int i), .p (.int j) => if C i j = true then .ok (.p (g i j)) m else .bad
  | _, _ => .bad
theorem sInt {K : PySem.W.Frag} {C : Int → Int → Bool} {P : Int → Int → Prop} {g : Int → Int → T} {g' : Int → Int → V} (hC : ∀ i j, C i j = true → P i j) (hg : ∀ S i j, Rep K S (g' i j) (g i j)) : OpS K (rI P g') (fInt C g) := by
  intro mg W S H A m x y u w Q o r1 r2 h
  cases r1 with
  | mu e => exact False.elim h
  | p q1 =>
    cases q1 with
    | int i =>
      cases r2 with
      | mu e => exact False.elim h
      | p q2 =>
        cases q2 with
        | int j =>
          have h' : okG (fun S A => RepU K S A) K mg W S H A Q (if C i j = true then .ok (.p (g i j)) m else .bad) := h
          by_cases hc : C i j = true
          · rw [if_pos hc] at h'
            exact ⟨i, j, rfl, rfl, hC i j hc, okG_ok h' o (.p (hg S i j))⟩
          · rw [if_neg hc] at h'; exact False.elim h'
        | _ => exact False.elim h
    | _ => exact False.elim h
theorem sInt0 {K : PySem.W.Frag} {g : Int → Int → T} {g' : Int → Int → V} (hg : ∀ S i j, Rep K S (g' i j) (g i j)) : OpS K (rI0 g') (fInt (fun _ _ => true) g) := by
  intro mg W S H A m x y u w Q o r1 r2 h
  obtain ⟨i, j, h1, h2, _, q⟩ := sInt (K := K) (C := fun _ _ => true) (P := fun _ _ => True) (g := g) (g' := g') (fun _ _ _ => trivial) hg mg W S H A m x y u w Q o r1 r2 h
  exact ⟨i, j, h1, h2, q⟩
def fSub : F2 := fInt (fun _ _ => true) fun i j => .int (i - j)
theorem sSub {K : PySem.W.Frag} : OpS K (rI0 fun i j => .int (i - j)) fSub := sInt0 fun _ _ _ => .int _
/-- the product, where both are not too great -/
def mulC (i j : Int) : Bool := decide (i.natAbs < 18446744073709551616) || decide (j.natAbs < 18446744073709551616) || decide (i.natAbs.log2 + j.natAbs.log2 < 1000000)
def mulP (i j : Int) : Prop := CMul i j ∨ CMulW i j
theorem mulC_ok {i j : Int} (h : mulC i j = true) : mulP i j := by
  unfold mulC at h
  simp only [Bool.or_eq_true, decide_eq_true_eq] at h
  rcases h with (h | h) | h
  · exact .inl (.inl ⟨by omega, by omega⟩)
  · exact .inl (.inr ⟨by omega, by omega⟩)
  · exact .inr h
theorem oMul {X : Cx} : OpR X (binaryOp .Mult) (rI mulP fun i j => .int (i * j)) := opI fun _ _ _ _ _ _ _ hc q => mul_int q (by rcases hc with h | h; exact h.ok; exact h.ok)
def fMul : F2 := fInt mulC fun i j => .int (i * j)
theorem sMul {K : PySem.W.Frag} : OpS K (rI mulP fun i j => .int (i * j)) fMul := sInt (fun _ _ => mulC_ok) fun _ _ _ => .int _
/-- // by any number but 0 that is not too great -/
def divC (_ j : Int) : Bool := decide (j ≠ 0) && decide (j.natAbs.log2 < 9000)
def divP (_ j : Int) : Prop := j ≠ 0 ∧ j.natAbs.log2 < 9000
theorem oDiv {X : Cx} : OpR X (binaryOp .FloorDiv) (rI divP fun i j => .int (i.fdiv j)) := opI fun _ _ _ _ _ _ _ hc q => floordiv_int hc.1 q (.inl (PyProof.noPylong_of_log2 hc.2))
def fDiv : F2 := fInt divC fun i j => .int (i.fdiv j)
theorem sDiv {K : PySem.W.Frag} : OpS K (rI divP fun i j => .int (i.fdiv j)) fDiv := sInt (fun i j h => by unfold divC at h; simpa [divP] using h) fun _ _ _ => .int _
def fMod : F2 := fInt (fun _ j => decide (j ≠ 0)) fun i j => .int (i.fmod j)
theorem sMod {K : PySem.W.Frag} : OpS K (rI (fun _ j => j ≠ 0) fun i j => .int (i.fmod j)) fMod := sInt (fun i j h => by simpa using h) fun _ _ _ => .int _
def fPow : F2 := fInt (fun i j => decide (0 ≤ j) && decide (j ≤ 1000000) && decide (i.natAbs < 2 ^ 64)) fun i j => .int (i ^ j.toNat)
theorem sPow {K : PySem.W.Frag} : OpS K (rI CPow fun i j => .int (i ^ j.toNat)) fPow := sInt (fun i j h => by
  simp only [Bool.and_eq_true, decide_eq_true_eq] at h
  exact ⟨h.1.1, h.1.2, h.2⟩) fun _ _ _ => .int _
def dNeg (d : D) : D := fun e m => (d e m).bind fun u m1 => match u with
  | .p (.int i) => .ok (.p (.int (-i))) m1
  | _ => .bad
theorem tr_neg {X : Cx} {W : WX} {a : Expr} {pos : Pos} {da : D} (ha : PE X a (tE X.K X.mg W da)) : PE X (.UnaryOp .USub a pos) (tE X.K X.mg W (dNeg da)) :=
  weakE (pe_un un_neg ha) fun σ H Q h => by
    obtain ⟨S, A, e, m, eo, mo, h⟩ := h
    refine ⟨S, A, e, m, eo, mo, okG_bind h fun u m1 v S1 H1 A1 _ x1 mo1 r1 h1 => ?_⟩
    cases r1 with
    | mu _ => exact False.elim h1
    | p q =>
      cases q with
      | int i => exact ⟨i, rfl, okG_ok h1 mo1 (.p (.int _))⟩
      | _ => exact False.elim h1

/-! ### comparisons -/
def fCmp (p : Int → Int → Bool) : F2 := fInt (fun _ _ => true) fun i j => .bl (p i j)
theorem sCmp {K : PySem.W.Frag} (p : Int → Int → Bool) : OpS K (rI0 fun i j => .bl (p i j)) (fCmp p) := sInt0 fun _ _ _ => .bl _
abbrev fLt : F2 := fCmp fun i j => decide (i < j)
abbrev fLe : F2 := fCmp fun i j => decide (i ≤ j)
abbrev fGt : F2 := fCmp fun i j => decide (j < i)
abbrev fGe : F2 := fCmp fun i j => decide (j ≤ i)
/-- == as data; neg: != -/
def fEq (neg : Bool) : F2 := fun u w m => match datU m u, datU m w with
  | some d, some e => if (SeqAt.shaped d && SeqAt.shaped e) = true then .ok (.p (.bl (if neg then !PyData.eqv d e else PyData.eqv d e))) m else .bad
  | _, _ => .bad
theorem sEqN {K : PySem.W.Frag} (neg : Bool) {mg : Str → Option Value} {W : Value → Option Addr → Hp → Prop} {S H : Hp} {A : List Addr} {m : Mem} {x y : V} {u w : U} {Q : VK} (o : MOk K S H A m) (r1 : RepU K S A x u) (r2 : RepU K S A y w)
    (h : okG (fun S A => RepU K S A) K mg W S H A Q (fEq neg u w m)) : ∃ d e, Dp K H x d ∧ Dp K H y e ∧ SeqAt.shaped d = true ∧ SeqAt.shaped e = true ∧ Q (.bl (if neg then !PyData.eqv d e else PyData.eqv d e)) H := by
  unfold fEq at h
  cases h1 : datU m u with
  | none => rw [h1] at h; exact False.elim h
  | some d =>
    cases h2 : datU m w with
    | none => rw [h1, h2] at h; exact False.elim h
    | some e =>
      rw [h1, h2] at h
      by_cases hs : (SeqAt.shaped d && SeqAt.shaped e) = true
      · simp only [hs, if_true] at h
        obtain ⟨s1, s2⟩ := Bool.and_eq_true_iff.mp hs
        exact ⟨d, e, dat_at o r1 h1 s1, dat_at o r2 h2 s2, s1, s2, okG_ok h o (.p (.bl _))⟩
      · simp only [hs, if_false] at h; exact False.elim h
theorem sEq {K : PySem.W.Frag} : OpS K (rEqD K) (fEq false) := fun _ _ _ _ _ _ _ _ _ _ _ o r1 r2 h => sEqN false o r1 r2 h
theorem sNe {K : PySem.W.Frag} : OpS K (rNeD K) (fEq true) := fun _ _ _ _ _ _ _ _ _ _ _ o r1 r2 h => sEqN true o r1 r2 h
/-- x in a list, a tuple -/
def datsU (m : Mem) (u : U) : Option (Bool × List PyData) := match datU m u with
  | some (.list ds) => some (false, ds)
  | some (.tuple ds) => some (true, ds)
  | _ => none
def fIn (neg : Bool) : F2 := fun u w m => match datU m u, datsU m w with
  | some d, some (b, ds) => if (SeqAt.shaped d && SeqAt.shaped (if b then .tuple ds else .list ds)) = true then .ok (.p (.bl (if neg then !ds.any fun z => PyData.eqv z d else ds.any fun z => PyData.eqv z d))) m else .bad
  | _, _ => .bad
def rInT (K : PySem.W.Frag) : R2 := fun x y H Q => ∃ d ds, Dp K H x d ∧ Dp K H y (.tuple ds) ∧ SeqAt.shaped d = true ∧ SeqAt.shaped (.tuple ds) = true ∧ Q (.bl (ds.any fun z => PyData.eqv z d)) H
def rNotInT (K : PySem.W.Frag) : R2 := fun x y H Q => ∃ d ds, Dp K H x d ∧ Dp K H y (.tuple ds) ∧ SeqAt.shaped d = true ∧ SeqAt.shaped (.tuple ds) = true ∧ Q (.bl (!ds.any fun z => PyData.eqv z d)) H
theorem lay_tup {ds : List PyData} (h : SeqAt.shaped (.tuple ds) = true) : PyData.canLayAll0 ds = true := by
  have := SeqAt.canLay_of_shaped h
  simpa [PyData.canLay0] using this
theorem op_inT {X : Cx} (hu : X.A.units + 65 < cLine) : OpR X (compareOp .In) (rInT X.K) := by
  rintro pins s σ H x y v u Q I rx ry ⟨d, ds, hd, he, sd, se, q⟩
  obtain ⟨as, r1⟩ := Dp.reads I d x v hd rx
  obtain ⟨bs, r2⟩ := Dp.reads I (.tuple ds) y u he ry
  exact SeqAt.in_tuple_reads r2 r1 (lay_tup se) (SeqAt.canLay_of_shaped sd) (room_in_shaped sd hu) ⟨.bl _, H, I, rfl, q⟩
theorem op_notInT {X : Cx} (hu : X.A.units + 65 < cLine) : OpR X (compareOp .NotIn) (rNotInT X.K) := by
  rintro pins s σ H x y v u Q I rx ry ⟨d, ds, hd, he, sd, se, q⟩
  obtain ⟨as, r1⟩ := Dp.reads I d x v hd rx
  obtain ⟨bs, r2⟩ := Dp.reads I (.tuple ds) y u he ry
  exact SeqAt.notIn_tuple_reads r2 r1 (lay_tup se) (SeqAt.canLay_of_shaped sd) (room_in_shaped sd hu) ⟨.bl _, H, I, rfl, q⟩
def gIn (K : PySem.W.Frag) : R2 := fun x y H Q => rInD K x y H Q ∨ rInT K x y H Q
def gNotIn (K : PySem.W.Frag) : R2 := fun x y H Q => rNotInD K x y H Q ∨ rNotInT K x y H Q
theorem oIn {X : Cx} (hu : X.A.units + 65 < cLine) : OpR X (compareOp .In) (gIn X.K) := OpR.or (op_inD hu) (op_inT hu)
theorem oNotIn {X : Cx} (hu : X.A.units + 65 < cLine) : OpR X (compareOp .NotIn) (gNotIn X.K) := OpR.or (op_notInD hu) (op_notInT hu)
theorem sInN {K : PySem.W.Frag} (neg : Bool) {mg : Str → Option Value} {W : Value → Option Addr → Hp → Prop} {S H : Hp} {A : List Addr} {m : Mem} {x y : V} {u w : U} {Q : VK} (o : MOk K S H A m) (r1 : RepU K S A x u) (r2 : RepU K S A y w)
    (h : okG (fun S A => RepU K S A) K mg W S H A Q (fIn neg u w m)) : ∃ d ds, (Dp K H y (.list ds) ∧ SeqAt.shaped (.list ds) = true ∨ Dp K H y (.tuple ds) ∧ SeqAt.shaped (.tuple ds) = true) ∧ Dp K H x d ∧ SeqAt.shaped d = true ∧ Q (.bl (if neg then !ds.any fun z => PyData.eqv z d else ds.any fun z => PyData.eqv z d)) H := by
  unfold fIn datsU at h
  cases h1 : datU m u with
  | none => rw [h1] at h; exact False.elim h
  | some d =>
    cases h2 : datU m w with
    | none => rw [h1, h2] at h; exact False.elim h
    | some e =>
      rw [h1, h2] at h
      cases e with
      | list ds =>
        by_cases hs : (SeqAt.shaped d && SeqAt.shaped (.list ds)) = true
        · simp only [Bool.false_eq_true, if_false, hs, if_true] at h
          obtain ⟨s1, s2⟩ := Bool.and_eq_true_iff.mp hs
          exact ⟨d, ds, .inl ⟨dat_at o r2 h2 s2, s2⟩, dat_at o r1 h1 s1, s1, okG_ok h o (.p (.bl _))⟩
        · simp only [Bool.false_eq_true, if_false, hs] at h; exact False.elim h
      | tuple ds =>
        by_cases hs : (SeqAt.shaped d && SeqAt.shaped (.tuple ds)) = true
        · simp only [if_true, hs] at h
          obtain ⟨s1, s2⟩ := Bool.and_eq_true_iff.mp hs
          exact ⟨d, ds, .inr ⟨dat_at o r2 h2 s2, s2⟩, dat_at o r1 h1 s1, s1, okG_ok h o (.p (.bl _))⟩
        · simp only [if_true, hs] at h; exact False.elim h
      | _ => exact False.elim h
theorem sIn {K : PySem.W.Frag} : OpS K (gIn K) (fIn false) := fun _ _ _ _ _ _ _ _ _ _ _ o r1 r2 h => by
  obtain ⟨d, ds, hy, hd, sd, q⟩ := sInN false o r1 r2 h
  rcases hy with ⟨hy, sy⟩ | ⟨hy, sy⟩
  · exact .inl ⟨d, ds, hd, hy, sd, sy, q⟩
  · exact .inr ⟨d, ds, hd, hy, sd, sy, q⟩
theorem sNotIn {K : PySem.W.Frag} : OpS K (gNotIn K) (fIn true) := fun _ _ _ _ _ _ _ _ _ _ _ o r1 r2 h => by
  obtain ⟨d, ds, hy, hd, sd, q⟩ := sInN true o r1 r2 h
  rcases hy with ⟨hy, sy⟩ | ⟨hy, sy⟩
  · exact .inl ⟨d, ds, hd, hy, sd, sy, q⟩
  · exact .inr ⟨d, ds, hd, hy, sd, sy, q⟩
/-- is, is not of truth values -/
def fIsB (neg : Bool) : F2 := fun u w m => match u, w with
  | .p (.bl a), .p (.bl b) => .ok (.p (.bl (if neg then !decide (a = b) else decide (a = b)))) m
  | _, _ => .bad
theorem sIsB {K : PySem.W.Frag} : OpS K rIsB (fIsB false) := by
  intro mg W S H A m x y u w Q o r1 r2 h
  cases r1 with
  | mu e => exact False.elim h
  | p q1 => cases q1 with
    | bl i => cases r2 with
      | mu e => exact False.elim h
      | p q2 => cases q2 with
        | bl j => exact ⟨i, j, rfl, rfl, okG_ok h o (.p (.bl _))⟩
        | _ => exact False.elim h
    | _ => exact False.elim h
theorem sNotB {K : PySem.W.Frag} : OpS K rNotB (fIsB true) := by
  intro mg W S H A m x y u w Q o r1 r2 h
  cases r1 with
  | mu e => exact False.elim h
  | p q1 => cases q1 with
    | bl i => cases r2 with
      | mu e => exact False.elim h
      | p q2 => cases q2 with
        | bl j => exact ⟨i, j, rfl, rfl, okG_ok h o (.p (.bl _))⟩
        | _ => exact False.elim h
    | _ => exact False.elim h
/-- is None, is not None -/
def U.isN : U → Bool
  | .p .non => true
  | _ => false
theorem isN_at {K : PySem.W.Frag} {S : Hp} {A : List Addr} {x : V} {u : U} (r : RepU K S A x u) : decide (x = .non) = u.isN := by
  cases r with
  | mu e => rfl
  | p q => cases q <;> rfl
def dIsN (neg : Bool) (d : D) : D := fun e m => (d e m).bind fun u m1 => .ok (.p (.bl (if neg then !u.isN else u.isN))) m1
section
variable {X : Cx} {W : WX} {a : Expr} {pos pos' : Pos} {da : D} {j : Nat}
theorem tr_isN (ha : PE X a (tE X.K X.mg W da)) : PE X (.Compare a [.Is] [.Constant .none j pos'] pos) (tE X.K X.mg W (dIsN false da)) :=
  weakE (pe_cmp (pc_isN ha) rfl) fun σ H Q h => by
    obtain ⟨S, A, e, m, eo, mo, h⟩ := h
    refine ⟨S, A, e, m, eo, mo, okG_bind h fun u m1 v S1 H1 A1 _ x1 mo1 r1 h1 => ?_⟩
    rw [isN_at r1]
    exact okG_ok h1 mo1 (.p (.bl _))
theorem tr_notN (ha : PE X a (tE X.K X.mg W da)) : PE X (.Compare a [.IsNot] [.Constant .none j pos'] pos) (tE X.K X.mg W (dIsN true da)) :=
  weakE (pe_cmp (pc_notN ha) rfl) fun σ H Q h => by
    obtain ⟨S, A, e, m, eo, mo, h⟩ := h
    refine ⟨S, A, e, m, eo, mo, okG_bind h fun u m1 v S1 H1 A1 _ x1 mo1 r1 h1 => ?_⟩
    rw [isN_at r1]
    exact okG_ok h1 mo1 (.p (.bl _))
/-- a comparison that is no operator's rule, as a test -/
theorem tr_isNT (ha : PE X a (tE X.K X.mg W da)) : PT X (.Compare a [.Is] [.Constant .none j pos'] pos) (tB X.K X.mg W (dAsB (dIsN false da))) :=
  weakT (pt_cmp (pc_isN ha) rfl) fun σ H Q h => by
    obtain ⟨S, A, e, m, eo, mo, h⟩ := asB_use h
    refine ⟨S, A, e, m, eo, mo, okG_bind h fun u m1 v S1 H1 A1 _ x1 mo1 r1 h1 => ?_⟩
    rw [isN_at r1]
    exact okG_ok h1 mo1 (.p (.bl _))
theorem tr_notNT (ha : PE X a (tE X.K X.mg W da)) : PT X (.Compare a [.IsNot] [.Constant .none j pos'] pos) (tB X.K X.mg W (dAsB (dIsN true da))) :=
  weakT (pt_cmp (pc_notN ha) rfl) fun σ H Q h => by
    obtain ⟨S, A, e, m, eo, mo, h⟩ := asB_use h
    refine ⟨S, A, e, m, eo, mo, okG_bind h fun u m1 v S1 H1 A1 _ x1 mo1 r1 h1 => ?_⟩
    rw [isN_at r1]
    exact okG_ok h1 mo1 (.p (.bl _))
end

/-! ### built-ins -/
section
variable {K : PySem.W.Frag}
theorem reps1 {S : Hp} {A : List Addr} {xs : List V} {u : U} (r : RepUs K S A xs [u]) : ∃ x, xs = [x] ∧ RepU K S A x u := by
  cases r with
  | cons r q => cases q; exact ⟨_, rfl, r⟩
theorem reps2 {S : Hp} {A : List Addr} {xs : List V} {u w : U} (r : RepUs K S A xs [u, w]) : ∃ x y, xs = [x, y] ∧ RepU K S A x u ∧ RepU K S A y w := by
  cases r with
  | cons r q => cases q with
    | cons r' q => cases q; exact ⟨_, _, rfl, r, r'⟩
def bLen : FN := fun us m => match us with
  | [.p (.str x)] => if x.length ≤ 16777216 then .ok (.p (.int x.length)) m else .bad
  | [u] => match seqOf m u with
    | some ts => .ok (.p (.int ts.length)) m
    | none => .bad
  | _ => .bad
theorem sLen : CallS K (fun xs H Q => ∃ x n, xs = [x] ∧ LenV K x H n ∧ Q (.int n) H) bLen := by
  intro mg W S H A m xs us Q o r h
  match us, h, r with
  | [u], h, r =>
    obtain ⟨x, rfl, rx⟩ := reps1 r
    have sq : okG (fun S A => RepU K S A) K mg W S H A Q (match seqOf m u with | some ts => .ok (.p (.int ts.length)) m | none => .bad) → ∃ x' n, [x] = [x'] ∧ LenV K x' H n ∧ Q (.int n) H := fun h => by
      cases e : seqOf m u with
      | none => rw [e] at h; exact False.elim h
      | some ts =>
        rw [e] at h
        obtain ⟨a, vs, rfl, hs, rr⟩ := seq_at o rx e
        refine ⟨_, vs.length, rfl, ?_, by rw [rr.length]; exact okG_ok h o (.p (.int _))⟩
        rcases hs with hs | hs
        · exact .inl ⟨vs, hs, rfl⟩
        · exact .inr ⟨vs, hs, rfl⟩
    cases rx with
    | mu e => exact sq h
    | p q =>
      cases q with
      | str y =>
        have h' : okG (fun S A => RepU K S A) K mg W S H A Q (if y.length ≤ 16777216 then .ok (.p (.int y.length)) m else .bad) := h
        by_cases hl : y.length ≤ 16777216
        · rw [if_pos hl] at h'
          exact ⟨_, y.length, rfl, ⟨by rw [line_eq]; exact hl, rfl⟩, okG_ok h' o (.p (.int _))⟩
        · rw [if_neg hl] at h'; exact False.elim h'
      | _ => exact sq h
  | .p t :: b :: c, h, _ => cases t <;> exact False.elim h
  | .mu k :: b :: c, h, _ => exact False.elim h
def bAbs : FN := fun us m => match us with
  | [.p (.int i)] => .ok (.p (.int (if i < 0 then -i else i))) m
  | _ => .bad
theorem sAbs : CallS K (fun xs H Q => ∃ i, xs = [.int i] ∧ Q (.int (if i < 0 then -i else i)) H) bAbs := by
  intro mg W S H A m xs us Q o r h
  match us, h, r with
  | [.p (.int i)], h, r =>
    obtain ⟨x, rfl, rx⟩ := reps1 r
    cases rx with
    | p q => cases q; exact ⟨i, rfl, okG_ok h o (.p (.int _))⟩
def bInt : FN := fun us m => match us with
  | [.p (.int i)] => .ok (.p (.int i)) m
  | [.p (.bl b)] => .ok (.p (.int (if b then 1 else 0))) m
  | _ => .bad
theorem sIntC : CallS K (fun xs H Q => (∃ i, xs = [.int i] ∧ Q (.int i) H) ∨ ∃ k, xs = [.bl k] ∧ Q (.int (if k then 1 else 0)) H) bInt := by
  intro mg W S H A m xs us Q o r h
  match us, h, r with
  | [.p (.int i)], h, r =>
    obtain ⟨x, rfl, rx⟩ := reps1 r
    cases rx with
    | p q => cases q; exact .inl ⟨i, rfl, okG_ok h o (.p (.int _))⟩
  | [.p (.bl i)], h, r =>
    obtain ⟨x, rfl, rx⟩ := reps1 r
    cases rx with
    | p q => cases q; exact .inr ⟨i, rfl, okG_ok h o (.p (.int _))⟩
def bTuple : FN := fun us m => match us with
  | [u] => match seqOf m u with
    | some ts => .ok (.p (.tup ts)) m
    | none => .bad
  | _ => .bad
theorem sTuple : CallS K (fun xs H Q => ∃ p ys, xs = [.ref p] ∧ ((SqL K H p ys ∧ ∀ l, H l = none → Q (.ref l) (upd H l (.tup ys))) ∨ (SqT K H p ys ∧ Q (.ref p) H))) bTuple := by
  intro mg W S H A m xs us Q o r h
  match us, h, r with
  | [u], h, r =>
    obtain ⟨x, rfl, rx⟩ := reps1 r
    have h' : okG (fun S A => RepU K S A) K mg W S H A Q (match seqOf m u with | some ts => .ok (.p (.tup ts)) m | none => .bad) := h
    have viaL : ∀ {a vs ts}, seqOf m u = some ts → SqL K H a vs → Reps K S vs ts → ∃ p ys, [V.ref a] = [.ref p] ∧ ((SqL K H p ys ∧ ∀ l, H l = none → Q (.ref l) (upd H l (.tup ys))) ∨ (SqT K H p ys ∧ Q (.ref p) H)) := fun {a vs ts} e hs rr => by
      rw [e] at h'
      exact ⟨_, vs, rfl, .inl ⟨hs, new_tup h' o rr⟩⟩
    cases rx with
    | mu e =>
      cases e2 : seqOf m (.mu _) with
      | none => rw [e2] at h'; exact False.elim h'
      | some ts =>
        obtain ⟨a, vs, ea, hs, rr⟩ := lst_at o (.mu e) (show lstOf m (.mu _) = some ts from e2)
        cases ea
        exact viaL e2 (SqL.of hs) rr
    | p q =>
      cases q with
      | tup hs rr => exact ⟨_, _, rfl, .inr ⟨o.sub.sqT hs, okG_ok h' o (.p (.tup hs rr))⟩⟩
      | lst hs rr => exact viaL rfl (SqL.of (o.sub _ _ hs)) rr
      | scr hs => exact viaL rfl (o.sub.sqL hs) (Reps.ints _)
      | _ => exact False.elim h'
def bList (n : Nw) : FN := fun us m => match us with
  | [u] => match seqOf m u with
    | some ts => newL n ts m
    | none => .bad
  | _ => .bad
theorem sList (n : Nw) : CallS K (fun xs H Q => ∃ p ys, xs = [.ref p] ∧ (SqL K H p ys ∨ SqT K H p ys) ∧ ∀ l, H l = none → Q (.ref l) (upd H l (.lst ys))) (bList n) := by
  intro mg W S H A m xs us Q o r h
  match us, h, r with
  | [u], h, r =>
    obtain ⟨x, rfl, rx⟩ := reps1 r
    have h' : okG (fun S A => RepU K S A) K mg W S H A Q (match seqOf m u with | some ts => newL n ts m | none => .bad) := h
    cases e : seqOf m u with
    | none => rw [e] at h'; exact False.elim h'
    | some ts =>
      rw [e] at h'
      obtain ⟨a, vs, rfl, hs, rr⟩ := seq_at o rx e
      exact ⟨a, vs, rfl, hs, new_l h' o rr⟩
/-- all, any of a list of truth values -/
def blsOf : List T → Option (List Bool)
  | [] => some []
  | .bl b :: r => (blsOf r).map (b :: ·)
  | _ :: _ => none
theorem bls_rep {S : Hp} : ∀ {vs : List V} {ts : List T} {bs : List Bool}, Reps K S vs ts → blsOf ts = some bs → vs = bs.map V.bl
  | _, _, _, .nil, e => by cases e; rfl
  | _, _, bs, .cons (t := .bl b) (ts := ts) (.bl _) q, e => by
    have e' : (blsOf ts).map (b :: ·) = some bs := e
    cases h : blsOf ts with
    | none => rw [h] at e'; cases e'
    | some l => rw [h] at e'; cases e'; simp [bls_rep q h]
  | _, _, _, .cons .non _, e => by cases e
  | _, _, _, .cons (.int _) _, e => by cases e
  | _, _, _, .cons (.str _) _, e => by cases e
  | _, _, _, .cons (.ty _) _, e => by cases e
  | _, _, _, .cons (.tup _ _) _, e => by cases e
  | _, _, _, .cons (.lst _ _) _, e => by cases e
  | _, _, _, .cons (.scr _) _, e => by cases e
def bAll (isAll : Bool) : FN := fun us m => match us with
  | [u] => match lstOf m u with
    | some ts => match blsOf ts with
      | some bs => .ok (.p (.bl (if isAll then bs.all id else bs.any id))) m
      | none => .bad
    | none => .bad
  | _ => .bad
theorem sAllN (k : Bool) {mg : Str → Option Value} {W : Value → Option Addr → Hp → Prop} {S H : Hp} {A : List Addr} {m : Mem} {xs : List V} {us : List U} {Q : VK} (o : MOk K S H A m) (r : RepUs K S A xs us)
    (h : okG (fun S A => RepU K S A) K mg W S H A Q (bAll k us m)) : ∃ (a : Addr) (bs : List Bool), xs = [V.ref a] ∧ SqL K H a (bs.map V.bl) ∧ Q (.bl (if k then bs.all id else bs.any id)) H := by
  match us, h, r with
  | [u], h, r =>
    obtain ⟨x, rfl, rx⟩ := reps1 r
    have h' : okG (fun S A => RepU K S A) K mg W S H A Q (match lstOf m u with | some ts => (match blsOf ts with | some bs => .ok (.p (.bl (if k then bs.all id else bs.any id))) m | none => .bad) | none => .bad) := h
    cases e : lstOf m u with
    | none => rw [e] at h'; exact False.elim h'
    | some ts =>
      rw [e] at h'
      obtain ⟨a, vs, rfl, hs, rr⟩ := lst_at o rx e
      have h2 : okG (fun S A => RepU K S A) K mg W S H A Q (match blsOf ts with | some bs => .ok (.p (.bl (if k then bs.all id else bs.any id))) m | none => .bad) := h'
      cases e2 : blsOf ts with
      | none => rw [e2] at h2; exact False.elim h2
      | some bs =>
        rw [e2] at h2
        have := bls_rep rr e2
        subst this
        exact ⟨a, bs, rfl, SqL.of hs, okG_ok h2 o (.p (.bl _))⟩
theorem sAll : CallS K (rAll K) (bAll true) := fun _ _ _ _ _ _ _ _ _ o r h => sAllN true o r h
theorem sAny : CallS K (rAny K) (bAll false) := fun _ _ _ _ _ _ _ _ _ o r h => sAllN false o r h
/-- isinstance -/
def tnU (m : Mem) : U → Option Tn
  | .p .non => some .none
  | .p (.bl _) => some .bool
  | .p (.int _) => some .int
  | .p (.str _) => some .str
  | .p (.tup _) => some .tuple
  | .p (.lst _) => some .list
  | .p (.ty _) => none
  | .p (.scr _) => none
  | .mu k => m[k]?.join.map fun _ => .list
def isTn (a b : Tn) : Bool := decide (a = b) || (decide (a = .bool) && decide (b = .int))
theorem kit_tn (a b : Tn) : kitB a.s b.s = some (isTn a b) := by cases a <;> cases b <;> decide +kernel
def tysOf : List T → Option (List Tn)
  | [] => some []
  | .ty n :: r => (tysOf r).map (n :: ·)
  | _ :: _ => none
theorem tys_rep {S : Hp} : ∀ {vs : List V} {ts : List T} {ns : List Tn}, Reps K S vs ts → tysOf ts = some ns → vs = ns.map (fun n => V.ty n.s)
  | _, _, _, .nil, e => by cases e; rfl
  | _, _, bs, .cons (t := .ty b) (ts := ts) (.ty _) q, e => by
    have e' : (tysOf ts).map (b :: ·) = some bs := e
    cases h : tysOf ts with
    | none => rw [h] at e'; cases e'
    | some l => rw [h] at e'; cases e'; simp [tys_rep q h]
  | _, _, _, .cons .non _, e => by cases e
  | _, _, _, .cons (.int _) _, e => by cases e
  | _, _, _, .cons (.str _) _, e => by cases e
  | _, _, _, .cons (.bl _) _, e => by cases e
  | _, _, _, .cons (.tup _ _) _, e => by cases e
  | _, _, _, .cons (.lst _ _) _, e => by cases e
  | _, _, _, .cons (.scr _) _, e => by cases e
def bIsi : FN := fun us m => match us with
  | [u, .p (.ty n)] => match tnU m u with
    | some a => .ok (.p (.bl (isTn a n))) m
    | none => .bad
  | [u, .p (.tup ts)] => match tnU m u, tysOf ts with
    | some a, some ns => .ok (.p (.bl (ns.any (isTn a)))) m
    | _, _ => .bad
  | _ => .bad
theorem tyx_at {S H : Hp} {A : List Addr} {m : Mem} {x : V} {u : U} {n : Tn} (o : MOk K S H A m) (r : RepU K S A x u) (h : tnU m u = some n) : TyX K H x (.type n.s) := by
  cases r with
  | mu e =>
    rename_i k a
    have h' : m[k]?.join.map (fun _ => Tn.list) = some n := h
    cases ej : m[k]?.join with
    | none => rw [ej] at h'; cases h'
    | some ts =>
      rw [ej] at h'
      cases h'
      obtain ⟨b, vs, h1, h2, h3, h4⟩ := o.cell _ _ (join_some ej)
      rw [e] at h1; cases h1
      exact .base (.lst h3)
  | p q =>
    cases q with
    | non => cases h; exact .base .non
    | bl b => cases h; exact .base (.bl b)
    | int i => cases h; exact .base (.int i)
    | str y => cases h; exact .base (.str y)
    | tup hs rr =>
      cases h
      rcases hs with hs | ⟨ob, its, k, h1, h2, _⟩
      · exact .base (.tup (o.sub _ _ hs))
      · exact .kTuple h1 h2
    | lst hs rr => cases h; exact .base (.lst (o.sub _ _ hs))
    | ty n => cases h
    | scr hs => cases h
theorem kit_any (a : Tn) : ∀ ns : List Tn, PySem.W.kitAny K (.type a.s) (ns.map fun n => Value.type n.s) = some (ns.any (isTn a))
  | [] => rfl
  | n :: r => kitAny_cons (kit_ty (kit_tn a n)) (fun hb => by rw [List.any_cons, hb, Bool.false_or]; exact kit_any a r) fun hb => by rw [List.any_cons, hb, Bool.true_or]
theorem cls_tys : ∀ ns : List Tn, Paired ClsV (ns.map fun n => V.ty n.s) (ns.map fun n => Value.type n.s)
  | [] => .nil
  | n :: r => .cons (.ty n.s) (cls_tys r)
def gIsi (K : PySem.W.Frag) : List V → Hp → VK → Prop := fun xs H Q => rIsi K xs H Q ∨ rIsiT K xs H Q ∨ rIsiK K xs H Q
theorem cIsi {X : Cx} : CallR X (.builtin "isinstance") (gIsi X.K) := CallR.or call_isi (CallR.or call_isiT call_isiK)
theorem sIsi : CallS K (gIsi K) bIsi := by
  intro mg W S H A m xs us Q o r h
  match us, h, r with
  | [u, .p (.ty n)], h, r =>
    obtain ⟨x, y, rfl, r1, r2⟩ := reps2 r
    have h' : okG (fun S A => RepU K S A) K mg W S H A Q (match tnU m u with | some a => .ok (.p (.bl (isTn a n))) m | none => .bad) := h
    cases e : tnU m u with
    | none => rw [e] at h'; exact False.elim h'
    | some a =>
      rw [e] at h'
      cases r2 with
      | p q => cases q; exact .inl ⟨x, _, _, _, isTn a n, rfl, .ty _, tyx_at o r1 e, kit_ty (kit_tn a n), okG_ok h' o (.p (.bl _))⟩
  | [u, .p (.tup ts)], h, r =>
    obtain ⟨x, y, rfl, r1, r2⟩ := reps2 r
    have h' : okG (fun S A => RepU K S A) K mg W S H A Q (match tnU m u, tysOf ts with | some a, some ns => .ok (.p (.bl (ns.any (isTn a)))) m | _, _ => .bad) := h
    cases e : tnU m u with
    | none => rw [e] at h'; exact False.elim h'
    | some a =>
      cases e2 : tysOf ts with
      | none => rw [e, e2] at h'; exact False.elim h'
      | some ns =>
        rw [e, e2] at h'
        cases r2 with
        | p q =>
          cases q with
          | tup hs rr =>
            have hv := tys_rep rr e2
            subst hv
            rcases hs with hs | ⟨⟨oc, od, dt, sl⟩, its, k, h1, h2, h3, _, hv⟩
            · exact .inr (.inl ⟨x, _, _, _, _, _, rfl, o.sub _ _ hs, cls_tys ns, tyx_at o r1 e, kit_any a ns, okG_ok h' o (.p (.bl _))⟩)
            · simp only at h2 h3
              subst h2 h3
              refine .inr (.inr ⟨x, _, od, ns.map fun n => Value.type n.s, k, sl, _, _, rfl, ?_, tyx_at o r1 e, kit_any a ns, okG_ok h' o (.p (.bl _))⟩)
              rw [h1, ← ClsV.all (cls_tys ns) hv]
end
end Tw

namespace Tw
open PySem PySem.Spec PyProof.Rows L2
/-! ### a[i], a[i:j] -/
theorem atI_rep {K : PySem.W.Frag} {S : Hp} {vs : List V} {ts : List T} {i : Int} {t : T} (r : Reps K S vs ts) (h : atI ts i = some t) : ∃ v, atI vs i = some v ∧ Rep K S v t := by
  unfold atI at h ⊢
  rw [r.length]
  cases e : ixN ts.length i with
  | none => rw [e] at h; cases h
  | some j => rw [e] at h; exact r.get h
def fIx : F2 := fun u w m => match w with
  | .p (.int i) => match u with
    | .p (.str x) => if x.length ≤ 16777216 then match atI x.cps.toList i with
      | some c => .ok (.p (.str ⟨#[c]⟩)) m
      | none => .bad
      else .bad
    | u => match seqOf m u with
      | some ts => match atI ts i with
        | some t => .ok (.p t) m
        | none => .bad
      | none => .bad
  | _ => .bad
theorem sIx {K : PySem.W.Frag} : OpS K (rIx K) fIx := by
  intro mg W S H A m x y u w Q o r1 r2 h
  cases r2 with
  | mu e => exact False.elim h
  | p q2 =>
    cases q2 with
    | int i =>
      have sq : okG (fun S A => RepU K S A) K mg W S H A Q (match seqOf m u with | some ts => (match atI ts i with | some t => .ok (.p t) m | none => .bad) | none => .bad) → rIx K x (.int i) H Q := fun h => by
        cases e : seqOf m u with
        | none => rw [e] at h; exact False.elim h
        | some ts =>
          rw [e] at h
          have h' : okG (fun S A => RepU K S A) K mg W S H A Q (match atI ts i with | some t => .ok (.p t) m | none => .bad) := h
          cases ea : atI ts i with
          | none => rw [ea] at h'; exact False.elim h'
          | some t =>
            rw [ea] at h'
            obtain ⟨a, vs, rfl, hs, rr⟩ := seq_at o r1 e
            obtain ⟨v, hv, rv⟩ := atI_rep rr ea
            have q := okG_ok h' o (.p rv)
            rcases hs with hs | hs
            · exact .inl ⟨a, vs, i, v, rfl, rfl, hs, hv, q⟩
            · exact .inr (.inl ⟨a, vs, i, v, rfl, rfl, hs, hv, q⟩)
      cases r1 with
      | mu e => exact sq h
      | p q1 =>
        cases q1 with
        | str z =>
          have h' : okG (fun S A => RepU K S A) K mg W S H A Q (if z.length ≤ 16777216 then (match atI z.cps.toList i with | some c => .ok (.p (.str ⟨#[c]⟩)) m | none => .bad) else .bad) := h
          by_cases hl : z.length ≤ 16777216
          · rw [if_pos hl] at h'
            cases ea : atI z.cps.toList i with
            | none => rw [ea] at h'; exact False.elim h'
            | some c => rw [ea] at h'; exact .inr (.inr ⟨z, i, c, rfl, rfl, by rw [line_eq]; exact hl, ea, okG_ok h' o (.p (.str _))⟩)
          · rw [if_neg hl] at h'; exact False.elim h'
        | _ => exact sq h
    | _ => exact False.elim h
section
variable {X : Cx} {W : WX} {a b e : Expr} {es : List Expr} {pos p2 : Pos} {da db d : D} {ds : DA}
theorem tr_ix (ha : PE X a (tE X.K X.mg W da)) (hb : PE X b (tE X.K X.mg W db)) (hs : PlainIx b := by exact fun _ _ => rfl) : PE X (.Subscript a b pos) (tE X.K X.mg W (dBin fIx da db)) :=
  weakE (pe_ix ix_seq ha hb hs) fun _ _ _ h => bin_use sIx h
def cut {α : Type} (xs : List α) (lo hi : Option Int) : List α := (xs.drop (HT.sIx xs.length 0 lo)).take (HT.sIx xs.length xs.length hi - HT.sIx xs.length 0 lo)
theorem Reps.cut {K : PySem.W.Frag} {S : Hp} {vs : List V} {ts : List T} (r : Reps K S vs ts) (lo hi : Option Int) : Reps K S (cutV vs lo hi) (cut ts lo hi) := by
  show Reps K S ((vs.drop (HT.sIx vs.length 0 lo)).take (HT.sIx vs.length vs.length hi - HT.sIx vs.length 0 lo)) _
  rw [r.length]
  exact (r.drop _).take _
theorem cut_all {α : Type} {xs : List α} {lo hi : Option Int} (h : HT.sIx xs.length 0 lo = 0 ∧ HT.sIx xs.length xs.length hi = xs.length) : cut xs lo hi = xs := by
  unfold cut
  rw [h.1, h.2]; simp
abbrev DO := En → Mem → R (Option Int)
def tO (K : PySem.W.Frag) (mg : Str → Option Value) (W : WX) (d : DO) : TO := fun σ H Q => ∃ S A e m, EOk K S A σ e ∧ MOk K S H A m ∧ okG (fun _ _ (b c : Option Int) => b = c) K mg (fun c dd H' => W c dd σ H') S H A Q (d e m)
def dNoP : DO := fun _ m => .ok none m
def dSoP (d : D) : DO := fun e m => (d e m).bind fun u m1 => match u with
  | .p (.int i) => .ok (some i) m1
  | _ => .bad
theorem weakO {X : Cx} {e : Option Expr} {t t' : TO} (h : PO X e t) (k : ∀ σ H Q, t' σ H Q → t σ H Q) : PO X e t' := ⟨fun pins s σ H Q I q => h.run pins s σ H Q I (k σ H Q q)⟩
theorem tr_noP : PO X none (tO X.K X.mg W dNoP) := weakO po_none fun σ H Q h => by
  obtain ⟨S, A, e, m, eo, mo, h⟩ := h
  exact okG_ok h mo rfl
theorem tr_soP (ha : PE X a (tE X.K X.mg W da)) : PO X (some a) (tO X.K X.mg W (dSoP da)) := weakO (po_some ha) fun σ H Q h => by
  obtain ⟨S, A, e, m, eo, mo, h⟩ := h
  refine ⟨S, A, e, m, eo, mo, okG_bind h fun x m1 v S1 H1 A1 _ x1 mo1 r1 h1 => ?_⟩
  cases r1 with
  | p q =>
    cases q with
    | int i => exact ⟨i, rfl, okG_ok h1 mo1 rfl⟩
    | _ => exact False.elim h1
  | mu _ => exact False.elim h1
def fSl (n : Nw) (u : U) (lo hi : Option Int) (m : Mem) : R U := match u with
  | .p (.str x) => if x.length ≤ 16777216 then .ok (.p (.str (cutS x lo hi))) m else .bad
  | .p (.tup ts) => .ok (.p (.tup (cut ts lo hi))) m
  | u => match seqOf m u with
    | some ts => newL n (cut ts lo hi) m
    | none => .bad
def gSl (K : PySem.W.Frag) : V → Option Int → Option Int → Hp → VK → Prop := fun x lo hi H Q => rSlL K x lo hi H Q ∨ rSlA K x lo hi H Q ∨ rSlS x lo hi H Q
theorem oSl : SlR X (gSl X.K) := by
  intro pins s σ H x v vl vu lo hi sl Q I rx hs pl pu h
  rcases h with h | h | h
  · exact sl_list pins s σ H x v vl vu lo hi sl Q I rx hs pl pu h
  · exact sl_tupA pins s σ H x v vl vu lo hi sl Q I rx hs pl pu h
  · exact sl_str pins s σ H x v vl vu lo hi sl Q I rx hs pl pu h
def dSl (n : Nw) (d : D) (dl du : DO) : D := fun e m => (d e m).bind fun u m1 => (dl e m1).bind fun lo m2 => (du e m2).bind fun hi m3 => fSl n u lo hi m3
theorem tr_sl (n : Nw) {lo hi : Option Expr} {dl du : DO} (ha : PE X a (tE X.K X.mg W da)) (hl : PO X lo (tO X.K X.mg W dl)) (hh : PO X hi (tO X.K X.mg W du)) : PE X (.Subscript a (.Slice lo hi none p2) pos) (tE X.K X.mg W (dSl n da dl du)) :=
  weakE (pe_slice oSl ha hl hh) fun σ H Q h => by
    obtain ⟨S, A, e, m, eo, mo, h⟩ := h
    refine ⟨S, A, e, m, eo, mo, okG_bind h fun u m1 v S1 H1 A1 _ x1 mo1 r1 h1 => ⟨S1, A1, e, m1, eo.ext x1, mo1, okG_bind h1 fun lo m2 lo' S2 H2 A2 _ x2 mo2 r2 h2 => ⟨S2, A2, e, m2, (eo.ext x1).ext x2, mo2, okG_bind h2 fun hi m3 hi' S3 H3 A3 _ x3 mo3 r3 h3 => ?_⟩⟩⟩
    subst r2 r3
    have r1 := (r1.ext x2.sub x2.pre).ext x3.sub x3.pre
    have viaL : ∀ {w : V} {ts : List T}, RepU X.K S3 A3 w u → seqOf m3 u = some ts → (∀ a vs, w = .ref a → Reps X.K S3 vs ts → SqT X.K H3 a vs → False) → okG (fun S A => RepU X.K S A) X.K X.mg (fun c dd H' => W c dd σ H') S3 H3 A3 Q (match seqOf m3 u with | some ts => newL n (cut ts lo' hi') m3 | none => .bad) → gSl X.K w lo' hi' H3 Q := fun {w ts} rr e no h => by
      rw [e] at h
      obtain ⟨a, vs, rfl, hs, r⟩ := seq_at mo3 rr e
      rcases hs with hs | hs
      · exact .inl ⟨a, vs, rfl, hs, new_l h mo3 (r.cut lo' hi')⟩
      · exact (no a vs rfl r hs).elim
    cases r1 with
    | mu ea =>
      have h3' : okG (fun S A => RepU X.K S A) X.K X.mg (fun c dd H' => W c dd σ H') S3 H3 A3 Q (match seqOf m3 (.mu _) with | some ts => newL n (cut ts lo' hi') m3 | none => .bad) := h3
      cases es : seqOf m3 (.mu _) with
      | none => rw [es] at h3'; exact False.elim h3'
      | some ts =>
        rw [es] at h3'
        obtain ⟨a, vs, e1, hs, r⟩ := lst_at mo3 (.mu ea) (show lstOf m3 (.mu _) = some ts from es)
        cases e1
        exact .inl ⟨_, vs, rfl, SqL.of hs, new_l h3' mo3 (r.cut lo' hi')⟩
    | p q =>
      cases q with
      | str z =>
        have h3' : okG (fun S A => RepU X.K S A) X.K X.mg (fun c dd H' => W c dd σ H') S3 H3 A3 Q (if z.length ≤ 16777216 then .ok (.p (.str (cutS z lo' hi'))) m3 else .bad) := h3
        by_cases hl : z.length ≤ 16777216
        · rw [if_pos hl] at h3'
          exact .inr (.inr ⟨z, rfl, by rw [line_eq]; exact hl, okG_ok h3' mo3 (.p (.str _))⟩)
        · rw [if_neg hl] at h3'; exact False.elim h3'
      | @tup a vs ts hs r =>
        refine .inr (.inl ⟨a, vs, rfl, mo3.sub.sqT hs, fun hw => ?_, fun _ => new_tup h3 mo3 (r.cut lo' hi')⟩)
        have h3' : okG (fun S A => RepU X.K S A) X.K X.mg (fun c dd H' => W c dd σ H') S3 H3 A3 Q (.ok (.p (.tup (cut ts lo' hi'))) m3) := h3
        rw [cut_all (by rw [← r.length]; exact hw)] at h3'
        exact okG_ok h3' mo3 (.p (.tup hs r))
      | lst hs r => exact .inl ⟨_, _, rfl, SqL.of (mo3.sub _ _ hs), new_l h3 mo3 (r.cut lo' hi')⟩
      | scr hs => exact .inl ⟨_, _, rfl, mo3.sub.sqL hs, new_l h3 mo3 ((Reps.ints _).cut lo' hi')⟩
      | _ => exact False.elim h3

/-! ### methods of lists -/
abbrev FM := U → List U → Mem → R U
def MtS (K : PySem.W.Frag) (g : V → List V → Hp → VK → Prop) (f : FM) : Prop := ∀ (mg : Str → Option Value) (W : Value → Option Addr → Hp → Prop) (S H : Hp) (A : List Addr) (m : Mem) (x : V) (u : U) (xs : List V) (us : List U) (Q : VK), MOk K S H A m → RepU K S A x u → RepUs K S A xs us →
  okG (fun S A => RepU K S A) K mg W S H A Q (f u us m) → g x xs H Q
def dMeth (f : FM) (d : D) (ds : DA) : D := fun e m => (d e m).bind fun u m1 => match lstOf m1 u with
  | some _ => (ds e m1).bind fun us m2 => f u us m2
  | none => .bad
theorem tr_meth {f : FM} {g : V → List V → Hp → VK → Prop} {o : Expr} {name : Str} {apos cpos : Pos} {id : String} (pa : PlainAttrs "list") (slot : Slot "list" name id) (hty : typeOf (.builtin id) = pure (.type "method_descriptor")) (hm : MtR X id g) (hf : MtS X.K g f) (ho : PE X o (tE X.K X.mg W d)) (ha : PA X (e :: es) (tA X.K X.mg W ds))
    (hbase : attributeBase o name X.env (eval o X.env) = eval o X.env := by rfl)
    (hfew : ((backTo cpos (starEach (e :: es) X.env)).all (fun x => !x.1) && (backToKw cpos (keywordEach [] X.env)).all (fun x => x.1.isSome)
      && decide ((e :: es).length + ([] : List Keyword).length + (if ([] : List Keyword).isEmpty then 0 else 1) < 30)) = true := by rfl)
    (hline : (apos.endLine == cpos.line) = true := by rfl) (hs : starEach (e :: es) X.env = (false, eval e X.env) :: starEach es X.env := by rfl) (hplain : (backTo cpos (starEach es X.env)).any (·.1) = false := by rfl) :
    PE X (.Call (.Attribute o name apos) (e :: es) [] cpos) (tE X.K X.mg W (dMeth f d ds)) :=
  weakE (pe_bm pa slot hty hm ho ha hbase hfew hline hs hplain) fun σ H Q h => by
    obtain ⟨S, A, en, m, eo, mo, h⟩ := h
    refine ⟨S, A, en, m, eo, mo, okG_bind h fun u m1 v S1 H1 A1 _ x1 mo1 r1 h1 => ?_⟩
    cases el : lstOf m1 u with
    | none => rw [el] at h1; exact False.elim h1
    | some ts =>
      rw [el] at h1
      obtain ⟨a, vs, rfl, hH, rr⟩ := lst_at mo1 r1 el
      exact ⟨.inl ⟨rfl, vs, SqL.of hH⟩, S1, A1, en, m1, eo.ext x1, mo1, okG_bind h1 fun us m2 ws S2 H2 A2 _ x2 mo2 r2 h2 => hf _ _ _ _ _ _ _ _ _ _ _ mo2 (r1.ext x2.sub x2.pre) r2 h2⟩
theorem tr_meth0 {f : FM} {g : V → List V → Hp → VK → Prop} {o : Expr} {name : Str} {apos cpos : Pos} {id : String} (pa : PlainAttrs "list") (slot : Slot "list" name id) (hty : typeOf (.builtin id) = pure (.type "method_descriptor")) (hm : MtR X id g) (hf : MtS X.K g f) (ho : PE X o (tE X.K X.mg W d))
    (hbase : attributeBase o name X.env (eval o X.env) = eval o X.env := by rfl) (hline : (apos.endLine == cpos.line) = true := by rfl) : PE X (.Call (.Attribute o name apos) [] [] cpos) (tE X.K X.mg W (dMeth f d dNil)) :=
  weakE (pe_bm0 pa slot hty hm ho hbase hline) fun σ H Q h => by
    obtain ⟨S, A, en, m, eo, mo, h⟩ := h
    refine ⟨S, A, en, m, eo, mo, okG_bind h fun u m1 v S1 H1 A1 _ x1 mo1 r1 h1 => ?_⟩
    cases el : lstOf m1 u with
    | none => rw [el] at h1; exact False.elim h1
    | some ts =>
      rw [el] at h1
      obtain ⟨a, vs, rfl, hH, rr⟩ := lst_at mo1 r1 el
      exact ⟨.inl ⟨rfl, vs, SqL.of hH⟩, hf _ _ _ _ _ _ _ _ _ _ _ mo1 r1 .nil h1⟩
/-- a change of a list of the memory -/
def muAt (m : Mem) (u : U) : Option (Nat × List T) := match u with
  | .mu k => m[k]?.join.map fun ts => (k, ts)
  | _ => none
theorem mu_at {K : PySem.W.Frag} {S H : Hp} {A : List Addr} {m : Mem} {v : V} {u : U} {k : Nat} {ts : List T} (o : MOk K S H A m) (r : RepU K S A v u) (h : muAt m u = some (k, ts)) :
    ∃ a vs, v = .ref a ∧ A[k]? = some a ∧ S a = none ∧ H a = some (.lst vs) ∧ Reps K S vs ts := by
  cases r with
  | p q => cases h
  | mu e =>
    rename_i j a
    have h' : m[j]?.join.map (fun ts => (j, ts)) = some (k, ts) := h
    cases ej : m[j]?.join with
    | none => rw [ej] at h'; cases h'
    | some l =>
      rw [ej] at h'
      cases h'
      obtain ⟨b, vs, h1, h2, h3, h4⟩ := o.cell _ _ (join_some ej)
      rw [e] at h1; cases h1
      exact ⟨a, vs, rfl, e, h2, h3, h4⟩
theorem put_ok {K : PySem.W.Frag} {mg : Str → Option Value} {W0 : Value → Option Addr → Hp → Prop} {S H : Hp} {A : List Addr} {m : Mem} {Q : VK} {k : Nat} {a : Addr} {v : V} {u : U} {vs : List V} {ts : List T} (h : okG (fun S A => RepU K S A) K mg W0 S H A Q (.ok u (m.set k (some ts)))) (o : MOk K S H A m) (ha : A[k]? = some a) (hs : S a = none)
    (r : Reps K S vs ts) (rv : RepU K S A v u) : Q v (upd H a (.lst vs)) := h _ _ _ _ (Ext.put ha _) (o.put ha hs r) rv
def fAppend : FM := fun u us m => match muAt m u, us with
  | some (k, ts), [.p t] => if ts.length < 16777216 then .ok (.p .non) (m.set k (some (ts ++ [t]))) else .bad
  | _, _ => .bad
theorem sAppend {K : PySem.W.Frag} : MtS K rAppend fAppend := by
  intro mg W S H A m x u xs us Q o r rs h
  unfold fAppend at h
  cases e : muAt m u with
  | none => rw [e] at h; exact False.elim h
  | some z =>
    obtain ⟨k, ts⟩ := z
    rw [e] at h
    match us, h, rs with
    | [.p t], h, rs =>
      obtain ⟨y, rfl, ry⟩ := reps1 rs
      have h' : okG (fun S A => RepU K S A) K mg W S H A Q (if ts.length < 16777216 then .ok (.p .non) (m.set k (some (ts ++ [t]))) else .bad) := h
      obtain ⟨a, vs, rfl, ha, hs, hH, rr⟩ := mu_at o r e
      by_cases hl : ts.length < 16777216
      · rw [if_pos hl] at h'
        cases ry with
        | p rt => exact ⟨a, vs, y, rfl, rfl, hH, by rw [line_eq, rr.length]; exact hl, put_ok h' o ha hs (rr.append (.cons rt .nil)) (.p .non)⟩
      · rw [if_neg hl] at h'; exact False.elim h'
/-- xs.pop(i), 0 ≤ i -/
def fPopAt : FM := fun u us m => match muAt m u, us with
  | some (k, ts), [.p (.int i)] => if 0 ≤ i ∧ i < ts.length ∧ ts.length ≤ 16777216 then match ts[i.toNat]? with
    | some t => .ok (.p t) (m.set k (some (ts.eraseIdx i.toNat)))
    | none => .bad
    else .bad
  | _, _ => .bad
theorem Reps.erase {K : PySem.W.Frag} {S : Hp} {vs : List V} {ts : List T} (r : Reps K S vs ts) (n : Nat) : Reps K S (vs.eraseIdx n) (ts.eraseIdx n) := by
  rw [List.eraseIdx_eq_take_drop_succ, List.eraseIdx_eq_take_drop_succ]
  exact (r.take n).append (r.drop (n + 1))
theorem sPopAt {K : PySem.W.Frag} : MtS K rPopAt fPopAt := by
  intro mg W S H A m x u xs us Q o r rs h
  unfold fPopAt at h
  cases e : muAt m u with
  | none => rw [e] at h; exact False.elim h
  | some z =>
    obtain ⟨k, ts⟩ := z
    rw [e] at h
    match us, h, rs with
    | [.p (.int i)], h, rs =>
      obtain ⟨y, rfl, ry⟩ := reps1 rs
      have h' : okG (fun S A => RepU K S A) K mg W S H A Q (if 0 ≤ i ∧ i < ts.length ∧ ts.length ≤ 16777216 then (match ts[i.toNat]? with | some t => .ok (.p t) (m.set k (some (ts.eraseIdx i.toNat))) | none => .bad) else .bad) := h
      obtain ⟨a, vs, rfl, ha, hs, hH, rr⟩ := mu_at o r e
      by_cases hl : 0 ≤ i ∧ i < ts.length ∧ ts.length ≤ 16777216
      · rw [if_pos hl] at h'
        cases et : ts[i.toNat]? with
        | none => rw [et] at h'; exact False.elim h'
        | some t =>
          rw [et] at h'
          obtain ⟨v, hv, rv⟩ := rr.get et
          cases ry with
          | p q =>
            cases q
            obtain ⟨h0, h1, h2⟩ := hl
            refine ⟨a, vs, i, i.toNat, v, rfl, rfl, hH, by omega, by omega, ?_, hv, put_ok h' o ha hs (rr.erase _) (.p rv)⟩
            exact seqIndex_of h0 (by rw [rr.length]; exact h1)
      · rw [if_neg hl] at h'; exact False.elim h'
def fPop : FM := fun u us m => match muAt m u, us with
  | some (k, ts), [] => match ts[ts.length - 1]? with
    | some t => .ok (.p t) (m.set k (some ts.dropLast))
    | none => .bad
  | _, _ => .bad
theorem sPop {K : PySem.W.Frag} : MtS K rPop fPop := by
  intro mg W S H A m x u xs us Q o r rs h
  unfold fPop at h
  cases e : muAt m u with
  | none => rw [e] at h; exact False.elim h
  | some z =>
    obtain ⟨k, ts⟩ := z
    rw [e] at h
    match us, h, rs with
    | [], h, rs =>
      cases rs
      have h' : okG (fun S A => RepU K S A) K mg W S H A Q (match ts[ts.length - 1]? with | some t => .ok (.p t) (m.set k (some ts.dropLast)) | none => .bad) := h
      obtain ⟨a, vs, rfl, ha, hs, hH, rr⟩ := mu_at o r e
      cases et : ts[ts.length - 1]? with
      | none => rw [et] at h'; exact False.elim h'
      | some t =>
        rw [et] at h'
        obtain ⟨v, hv, rv⟩ := rr.get et
        refine ⟨a, vs, v, rfl, rfl, hH, by rw [rr.length]; exact hv, put_ok h' o ha hs ?_ (.p rv)⟩
        rw [List.dropLast_eq_take, List.dropLast_eq_take, rr.length]
        exact rr.take _
def fExtend : FM := fun u us m => match muAt m u, us with
  | some (k, ts), [w] => match lstOf m w with
    | some ys => if ts.length + ys.length ≤ 16777216 then .ok (.p .non) (m.set k (some (ts ++ ys))) else .bad
    | none => .bad
  | _, _ => .bad
theorem sExtend {K : PySem.W.Frag} : MtS K rExtend fExtend := by
  intro mg W S H A m x u xs us Q o r rs h
  unfold fExtend at h
  cases e : muAt m u with
  | none => rw [e] at h; exact False.elim h
  | some z =>
    obtain ⟨k, ts⟩ := z
    rw [e] at h
    match us, h, rs with
    | [w], h, rs =>
      obtain ⟨y, rfl, ry⟩ := reps1 rs
      have h' : okG (fun S A => RepU K S A) K mg W S H A Q (match lstOf m w with | some ys => (if ts.length + ys.length ≤ 16777216 then .ok (.p .non) (m.set k (some (ts ++ ys))) else .bad) | none => .bad) := h
      obtain ⟨a, vs, rfl, ha, hs, hH, rr⟩ := mu_at o r e
      cases el : lstOf m w with
      | none => rw [el] at h'; exact False.elim h'
      | some ys =>
        rw [el] at h'
        obtain ⟨b, ws, rfl, hb, rb⟩ := lst_at o ry el
        by_cases hl : ts.length + ys.length ≤ 16777216
        · simp only [hl, if_true] at h'
          exact ⟨a, b, vs, ws, rfl, rfl, hH, hb, by rw [line_eq, rr.length, rb.length]; exact hl, put_ok h' o ha hs (rr.append rb) (.p .non)⟩
        · simp only [hl, if_false] at h'; exact False.elim h'
end

/-! ### targets -/
abbrev DG := U → En → Mem → R En
def tG (K : PySem.W.Frag) (mg : Str → Option Value) (W : WX) (g : DG) : TG := fun v σ H Q => ∃ S A e m u, EOk K S A σ e ∧ MOk K S H A m ∧ RepU K S A v u ∧ okG (fun S A => EOk K S A) K mg (fun c dd H' => W c dd σ H') S H A Q (g u e m)
def tGs (K : PySem.W.Frag) (mg : Str → Option Value) (W : WX) (g : List U → En → Mem → R En) : TGs := fun vs σ H Q => ∃ S A e m us, EOk K S A σ e ∧ MOk K S H A m ∧ RepUs K S A vs us ∧ okG (fun S A => EOk K S A) K mg (fun c dd H' => W c dd σ H') S H A Q (g us e m)
section
variable {X : Cx} {W : WX} {a b e : Expr} {es : List Expr} {pos p2 : Pos} {da db d : D} {g : DG} {gs : List U → En → Mem → R En}
theorem weakG {t t' : TG} (h : PG X e t) (k : ∀ v σ H Q, t' v σ H Q → t v σ H Q) : PG X e t' := ⟨fun pins s σ H v u Q I r q => h.run pins s σ H v u Q I r (k v σ H Q q)⟩
theorem weakGs {t t' : TGs} (h : PGs X es t) (k : ∀ v σ H Q, t' v σ H Q → t v σ H Q) : PGs X es t' := ⟨fun pins s σ H v u Q I r q => h.run pins s σ H v u Q I r (k v σ H Q q)⟩
def gNm (i : Nat) : DG := fun u e m => .ok (e.set i (some u)) m
theorem tr_gname (i : Nat) {x : Str} (hN : X.N.Nodup) (hi : X.N[i]? = some x := by rfl) (hx : Loc X.env.scope x := by first | exact .inl rfl | exact .inr rfl) (hf : X.fn x = true ∨ X.env.scope.names.lookup x = some .local := by first | exact .inl rfl | exact .inr rfl | assumption) : PG X (.Name x pos) (tG X.K X.mg W (gNm i)) :=
  weakG (pg_name hN hi hx hf) fun v σ H Q h => by
    obtain ⟨S, A, e, m, u, eo, mo, r, h⟩ := h
    exact okG_ok h mo (eo.set r i)
def gSb (d_o d_i : D) : DG := fun u e m => (d_o e m).bind fun o m1 => (d_i e m1).bind fun i m2 => match muAt m2 o, i, u with
  | some (k, ts), .p (.int j), .p t => match ixN ts.length j with
    | some n => .ok e (m2.set k (some (ts.set n t)))
    | none => .bad
  | _, _, _ => .bad
theorem tr_gsub (ho : PE X a (tE X.K X.mg W da)) (hi : PE X b (tE X.K X.mg W db))
    (ha : ∀ v, assign (.Subscript a b pos) X.env v = (do
      let ov ← holding [v] (eval a X.env)
      let iv ← holding [v, ov] (eval b X.env)
      standAt pos
      holding [v, ov, iv] (setItem ov iv v)
      release [v, ov, iv] []) := by intro _; rfl) : PG X (.Subscript a b pos) (tG X.K X.mg W (gSb da db)) :=
  weakG (pg_sub ho hi set_list ha) fun v σ H Q h => by
    obtain ⟨S, A, e, m, u, eo, mo, r, h⟩ := h
    refine ⟨S, A, e, m, eo, mo, okG_bind h fun o m1 ov S1 H1 A1 _ x1 mo1 r1 h1 => ⟨S1, A1, e, m1, eo.ext x1, mo1, okG_bind h1 fun i m2 iv S2 H2 A2 _ x2 mo2 r2 h2 => ?_⟩⟩
    have r1 := r1.ext x2.sub x2.pre
    have r := (r.ext x1.sub x1.pre).ext x2.sub x2.pre
    have eo := (eo.ext x1).ext x2
    cases em : muAt m2 o with
    | none => rw [em] at h2; exact False.elim h2
    | some z =>
      obtain ⟨k, ts⟩ := z
      rw [em] at h2
      cases r2 with
      | mu _ => exact False.elim h2
      | p q2 =>
        cases q2 with
        | int j =>
          cases r with
          | mu _ => exact False.elim h2
          | p rt =>
            rename_i t
            have h2' : okG (fun S A => EOk X.K S A) X.K X.mg (fun c dd H' => W c dd σ H') S2 H2 A2 Q (match ixN ts.length j with | some n => .ok e (m2.set k (some (ts.set n t))) | none => .bad) := h2
            cases ei : ixN ts.length j with
            | none => rw [ei] at h2'; exact False.elim h2'
            | some n =>
              rw [ei] at h2'
              obtain ⟨p, vs, rfl, hp, hs, hH, rr⟩ := mu_at mo2 r1 em
              exact ⟨p, vs, j, n, rfl, rfl, hH, by rw [rr.length]; exact ei, h2' _ _ _ _ (Ext.put hp _) (mo2.put hp hs (rr.set rt n)) eo⟩
        | _ => exact False.elim h2
def gsNil : List U → En → Mem → R En := fun us e m => match us with
  | [] => .ok e m
  | _ => .bad
def gsCons (g : DG) (r : List U → En → Mem → R En) : List U → En → Mem → R En := fun us e m => match us with
  | u :: us => (g u e m).bind fun e1 m1 => r us e1 m1
  | [] => .bad
theorem tr_gnil : PGs X [] (tGs X.K X.mg W gsNil) := weakGs pgs_nil fun vs σ H Q h => by
  obtain ⟨S, A, e, m, us, eo, mo, r, h⟩ := h
  cases r with
  | nil => exact ⟨rfl, okG_ok h mo eo⟩
  | cons _ _ => exact False.elim h
theorem tr_gcons (hW : ∀ c d σ σ' H, W c d σ H → W c d σ' H) (h1 : PG X e (tG X.K X.mg W g)) (h2 : PGs X es (tGs X.K X.mg W gs)) (hs : (assignEach (e :: es) X.env).map (·.2) = assign e X.env :: (assignEach es X.env).map (·.2) := by rfl) : PGs X (e :: es) (tGs X.K X.mg W (gsCons g gs)) :=
  weakGs (pgs_cons h1 h2 hs) fun vs σ H Q h => by
    obtain ⟨S, A, en, m, us, eo, mo, r, h⟩ := h
    cases r with
    | nil => exact False.elim h
    | cons r1 rr =>
      refine ⟨_, _, rfl, S, A, en, m, _, eo, mo, r1, okG_bind h fun e1 m1 σ1 S1 H1 A1 _ x1 mo1 eo1 h1 => ⟨S1, A1, e1, m1, _, eo1, mo1, rr.ext x1.sub x1.pre, ?_⟩⟩
      have h1' : okG (fun S A => EOk X.K S A) X.K X.mg (fun c dd H' => W c dd σ H') S1 H1 A1 Q (gs _ e1 m1) := h1
      cases hg : gs _ e1 m1 with
      | ok a b => rw [hg] at h1'; exact h1'
      | bad => rw [hg] at h1'; exact h1'
      | exc x m => rw [hg] at h1'; exact fun c d S' H' A' x o er => hW _ _ _ _ _ (h1' c d S' H' A' x o er)
/-- (a, b, ..) = a tuple -/
def gTp (n : Nat) (gs : List U → En → Mem → R En) : DG := fun u e m => match u with
  | .p (.tup ts) => if ts.length = n then gs (ts.map U.p) e m else .bad
  | _ => .bad
theorem reps_us {K : PySem.W.Frag} {S : Hp} {A : List Addr} : ∀ {vs : List V} {ts : List T}, Reps K S vs ts → RepUs K S A vs (ts.map U.p)
  | _, _, .nil => .nil
  | _, _, .cons r q => .cons (.p r) (reps_us q)
theorem tr_gtup {k n : Nat} (hc : X.calm = true) (h : PGs X es (tGs X.K X.mg W gs)) (hn : (assignEach es X.env).length = n := by rfl) (hst : (assignEach es X.env).findIdx? (·.1) = none := by rfl) : PG X (.Tuple es k pos) (tG X.K X.mg W (gTp n gs)) :=
  weakG (pg_tup hc h hn hst) fun v σ H Q h => by
    obtain ⟨S, A, e, m, u, eo, mo, r, h⟩ := h
    cases r with
    | mu _ => exact False.elim h
    | p q =>
      cases q with
      | @tup a vs ts hs rr =>
        have h' : okG (fun S A => EOk X.K S A) X.K X.mg (fun c dd H' => W c dd σ H') S H A Q (if ts.length = n then gs (ts.map U.p) e m else .bad) := h
        by_cases hl : ts.length = n
        · rw [if_pos hl] at h'
          exact ⟨a, vs, rfl, mo.sub.sqT hs, by rw [rr.length]; exact hl, S, A, e, m, _, eo, mo, reps_us rr, h'⟩
        · rw [if_neg hl] at h'; exact False.elim h'
      | _ => exact False.elim h
end
end Tw

namespace Tw
open PySem PySem.Spec PyProof.Rows L2
/-! ### what is walked -/
/-- J yields the trees ts, in new objects or in what no one changes -/
structure Yl (K : PySem.W.Frag) (J : It) (S0 : Hp) (ts : List T) : Prop where
  go : ∀ i S H A m, Le S0 S → MOk K S H A m → i < ts.length → J.go i H
  yld : ∀ i S H A m x H', Le S0 S → MOk K S H A m → i < ts.length → J.yld i H x H' → ∃ S' t, ts[i]? = some t ∧ Ext S H A S' H' A ∧ MOk K S' H' A m ∧ Rep K S' x t
  stop : ∀ i S H A m, Le S0 S → MOk K S H A m → ts.length ≤ i → J.stop i H
abbrev DI := En → Mem → R (List T)
def tI (K : PySem.W.Frag) (mg : Str → Option Value) (W : WX) (d : DI) : TI := fun σ H Q => ∃ S A e m, EOk K S A σ e ∧ MOk K S H A m ∧ okG (fun S _ J ts => Yl K J S ts) K mg (fun c dd H' => W c dd σ H') S H A Q (d e m)
theorem weakI {X : Cx} {tg e : Expr} {t t' : TI} (h : PI X tg e t) (k : ∀ σ H Q, t' σ H Q → t σ H Q) : PI X tg e t' := ⟨fun pins s σ H Q I q => h.run pins s σ H Q I (k σ H Q q)⟩
def rgT (lo : Int) (n : Nat) : List T := (List.range n).map fun i => T.int (lo + (i : Nat))
theorem rgT_length (lo : Int) (n : Nat) : (rgT lo n).length = n := by simp [rgT]
def prs (i : Nat) : List T → List T
  | [] => []
  | t :: r => .tup [.int (i : Nat), t] :: prs (i + 1) r
theorem prs_get : ∀ (ts : List T) (i j : Nat), (prs j ts)[i]? = ts[i]?.map fun t => T.tup [.int ((j + i : Nat) : Int), t]
  | [], i, j => by simp [prs]
  | t :: r, 0, j => by simp [prs]
  | t :: r, i + 1, j => by
    simp only [prs, List.getElem?_cons_succ]
    rw [prs_get r i (j + 1)]
    congr 1; funext t; congr 3; omega
theorem prs_length : ∀ (ts : List T) (j : Nat), (prs j ts).length = ts.length
  | [], _ => rfl
  | t :: r, j => by simp [prs, prs_length r]
def zpT : List T → List T → List T
  | t :: r, u :: q => .tup [t, u] :: zpT r q
  | _, _ => []
theorem zpT_get : ∀ (ts us : List T) (i : Nat), (zpT ts us)[i]? = (ts[i]?).bind fun t => us[i]?.map fun u => T.tup [t, u]
  | [], us, i => by simp [zpT]
  | t :: r, [], i => by cases h : (t :: r)[i]? <;> simp [zpT]
  | t :: r, u :: q, 0 => by simp [zpT]
  | t :: r, u :: q, i + 1 => by simp [zpT, zpT_get r q i]
theorem zpT_length : ∀ (ts us : List T), (zpT ts us).length = min ts.length us.length
  | [], us => by simp [zpT]
  | t :: r, [] => by simp [zpT]
  | t :: r, u :: q => by simp [zpT, zpT_length r q]
section
variable {K : PySem.W.Frag} {S : Hp} {a b : Addr} {vs ws : List V} {ts us : List T}
theorem yl_list (le : ∀ {S'}, Le S S' → SqL K S' a vs) (up : ∀ {S' H : Hp}, Le S' H → SqL K S' a vs → SqL K H a vs) (r : Reps K S vs ts) : Yl K (Itl K a) S ts where
  go := fun i S' H A m l o hi => by
    obtain ⟨v, hv, _⟩ := r.get (List.getElem?_eq_getElem hi)
    exact ⟨vs, v, up o.sub (le l), hv⟩
  yld := fun i S' H A m x H' l o _ y => by
    obtain ⟨rfl, y⟩ := y
    obtain ⟨t, ht, rt⟩ := r.getV (y vs (up o.sub (le l)))
    exact ⟨S', t, ht, Ext.rfl, o, rt.le l⟩
  stop := fun i S' H A m l o hi => ⟨vs, up o.sub (le l), by rw [r.length]; exact hi⟩
theorem yl_lst (hs : SqL K S a vs) (r : Reps K S vs ts) : Yl K (Itl K a) S ts := yl_list (fun l => l.sqL hs) (fun l => l.sqL) r
theorem yl_tup (hs : Tup K S a vs) (r : Reps K S vs ts) : Yl K (Itt K a) S ts where
  go := fun i S' H A m l o hi => by
    obtain ⟨v, hv, _⟩ := r.get (List.getElem?_eq_getElem hi)
    exact ⟨vs, v, o.sub.sqT (l.tup hs), hv⟩
  yld := fun i S' H A m x H' l o _ y => by
    obtain ⟨rfl, y⟩ := y
    obtain ⟨t, ht, rt⟩ := r.getV (y vs (o.sub.sqT (l.tup hs)))
    exact ⟨S', t, ht, Ext.rfl, o, rt.le l⟩
  stop := fun i S' H A m l o hi => ⟨vs, o.sub.sqT (l.tup hs), by rw [r.length]; exact hi⟩
theorem yl_rng (lo : Int) (n : Nat) : Yl K (Itr lo n) S (rgT lo n) where
  go := fun i S' H A m l o hi => by rw [rgT_length] at hi; exact hi
  yld := fun i S' H A m x H' l o hi y => by
    obtain ⟨rfl, rfl⟩ := y
    rw [rgT_length] at hi
    exact ⟨S', _, by simp [rgT, hi], Ext.rfl, o, .int _⟩
  stop := fun i S' H A m l o hi => by rw [rgT_length] at hi; exact hi
/-- a new pair -/
theorem pair_new {S' H : Hp} {A : List Addr} {m : Mem} (o : MOk K S' H A m) {p : Addr} (hp : H p = none) {x y : V} {t u : T} (r1 : Rep K S' x t) (r2 : Rep K S' y u) :
    ∃ S2, Ext S' H A S2 (upd H p (.tup [x, y])) A ∧ MOk K S2 (upd H p (.tup [x, y])) A m ∧ Rep K S2 (.ref p) (.tup [t, u]) :=
  ⟨_, Ext.new hp o _, o.new hp _, .tup (.inl upd_same) (.cons (r1.le (Ext.new hp o _).sub) (.cons (r2.le (Ext.new hp o _).sub) .nil))⟩
theorem yl_enum (hs : SqL K S a vs) (r : Reps K S vs ts) : Yl K (Ite K a) S (prs 0 ts) where
  go := fun i S' H A m l o hi => by
    rw [prs_length] at hi
    obtain ⟨v, hv, _⟩ := r.get (List.getElem?_eq_getElem hi)
    exact ⟨vs, v, o.sub.sqL (l.sqL hs), hv⟩
  yld := fun i S' H A m x H' l o hi y => by
    obtain ⟨p, z, rfl, hp, rfl, y⟩ := y
    obtain ⟨t, ht, rt⟩ := r.getV (y vs (o.sub.sqL (l.sqL hs)))
    obtain ⟨S2, x2, o2, r2⟩ := pair_new o hp (.int ((i : Nat) : Int)) (rt.le l)
    exact ⟨S2, _, by rw [prs_get, ht]; simp, x2, o2, r2⟩
  stop := fun i S' H A m l o hi => ⟨vs, o.sub.sqL (l.sqL hs), by rw [r.length]; rw [prs_length] at hi; exact hi⟩
theorem yl_zip (hs : SqL K S a vs) (r : Reps K S vs ts) (hs2 : SqL K S b ws) (r2 : Reps K S ws us) : Yl K (Itz K a b) S (zpT ts us) where
  go := fun i S' H A m l o hi => by
    rw [zpT_length] at hi
    obtain ⟨v, hv, _⟩ := r.get (List.getElem?_eq_getElem (i := i) (by omega))
    obtain ⟨w, hw, _⟩ := r2.get (List.getElem?_eq_getElem (i := i) (by omega))
    exact ⟨vs, ws, v, w, o.sub.sqL (l.sqL hs), o.sub.sqL (l.sqL hs2), hv, hw⟩
  yld := fun i S' H A m x H' l o hi y => by
    obtain ⟨p, z, z2, rfl, hp, rfl, y, y2⟩ := y
    obtain ⟨t, ht, rt⟩ := r.getV (y vs (o.sub.sqL (l.sqL hs)))
    obtain ⟨t2, ht2, rt2⟩ := r2.getV (y2 ws (o.sub.sqL (l.sqL hs2)))
    obtain ⟨S2, x2, o2, rr⟩ := pair_new o hp (rt.le l) (rt2.le l)
    exact ⟨S2, _, by rw [zpT_get, ht, ht2]; simp, x2, o2, rr⟩
  stop := fun i S' H A m l o hi => ⟨vs, ws, o.sub.sqL (l.sqL hs), o.sub.sqL (l.sqL hs2), by rw [r.length, r2.length]; rw [zpT_length] at hi; omega⟩
end
/-- the items of a list, a tuple (of the memory's lists: none, they may change) -/
def itemsU : U → Option (List T)
  | .p (.lst ts) => some ts
  | .p (.tup ts) => some ts
  | .p (.scr ns) => some (ns.map T.int)
  | _ => none
def iSeq (K : PySem.W.Frag) (tl : TE) : TI := fun σ H R => tl σ H fun x H1 => (∃ a xs, x = .ref a ∧ SqL K H1 a xs ∧ R (Itl K a) H1) ∨ ∃ a xs, x = .ref a ∧ SqT K H1 a xs ∧ R (Itt K a) H1
theorem pi_seq {X : Cx} {tg l : Expr} {tl : TE} (hl : PE X l tl) : PI X tg l (iSeq X.K tl) := by
  refine ⟨fun pins s σ H R I h => ?_⟩
  refine thn (hl.run pins s σ H _ I h) fun v s1 ⟨x, H1, I1, r1, q1⟩ => ?_
  have mk : ∀ {it' : Nat → Heap → Prop} {J : It} {a : Addr} {o : Obj}, Turn X.prog X.w X.K tg J [s1.heap.objs.size] s1.heap.objs.size it' → (it' 0 (s1.heap.push o)) → R J H1 →
      PIE X pins σ tg R (.ref s1.heap.objs.size) { s1 with heap := s1.heap.push o } := fun {it' J a o} tu h0 q => by
    refine ⟨s1.heap.objs.size, [s1.heap.objs.size], it', J, H1, rfl, I1.kept (t' := s1.toks) fun b u e => Heap.get?_push_of_some _ e, tu, h0, fun b hb => ?_, q⟩
    have e : b = s1.heap.objs.size := by simpa using hb
    subst e
    exact I1.fpOk (Nat.le_refl _) (I1.hok.fresh (Nat.le_refl _))
  rcases q1 with ⟨a, xs, rfl, hq, q⟩ | ⟨a, xs, rfl, hq, q⟩
  · cases r1
    obtain ⟨its, rv, p, hz⟩ := I1.list hq
    exact wpAny_pyIter_list p.isList (mk (a := a) (turn_list a _) ⟨_, Heap.get?_push_size _ rfl, rfl, rfl⟩ q)
  · cases r1
    obtain ⟨its, rv, p, hz⟩ := I1.tuple hq
    exact wpAny_pyIter_tuple (show s1.heap.IsTuple a its.toArray from p) (mk (a := a) (turn_tuple a _) ⟨_, Heap.get?_push_size _ rfl, rfl, rfl⟩ q)
section
variable {X : Cx} {W : WX} {tg a b e : Expr} {es : List Expr} {pos p : Pos} {da db d : D}
def dItems (d : D) : DI := fun e m => (d e m).bind fun u m1 => match itemsU u with
  | some ts => .ok ts m1
  | none => .bad
theorem tr_iseq (ha : PE X a (tE X.K X.mg W da)) : PI X tg a (tI X.K X.mg W (dItems da)) :=
  weakI (pi_seq ha) fun σ H Q h => by
    obtain ⟨S, A, e, m, eo, mo, h⟩ := h
    refine ⟨S, A, e, m, eo, mo, okG_bind h fun u m1 v S1 H1 A1 _ x1 mo1 r1 h1 => ?_⟩
    cases r1 with
    | mu _ => exact False.elim h1
    | p q =>
      cases q with
      | lst hs r => exact .inl ⟨_, _, rfl, SqL.of (mo1.sub _ _ hs), okG_ok h1 mo1 (yl_lst (SqL.of hs) r)⟩
      | tup hs r => exact .inr ⟨_, _, rfl, mo1.sub.sqT hs, okG_ok h1 mo1 (yl_tup hs r)⟩
      | scr hs => exact .inl ⟨_, _, rfl, mo1.sub.sqL hs, okG_ok h1 mo1 (yl_lst hs (Reps.ints _))⟩
      | _ => exact False.elim h1
def rgC (i : Int) : Bool := decide (-(2 ^ 62) ≤ i) && decide (i < 2 ^ 62)
def dRg1 (d : D) : DI := fun e m => (d e m).bind fun u m1 => match u with
  | .p (.int j) => if rgC j = true then .ok (rgT 0 j.toNat) m1 else .bad
  | _ => .bad
theorem tr_irg1 (hg : Gl X "range") (hm : X.mg "range" = none) (ha : PE X a (tE X.K X.mg W da)) (hs : starEach [a] X.env = [(false, eval a X.env)] := by rfl) : PI X tg (.Call (.Name "range" p) [a] [] pos) (tI X.K X.mg W (dRg1 da)) :=
  weakI (pi_range1 hg hm (pa_cons ha pa_nil hs) hs) fun σ H Q h => by
    obtain ⟨S, A, e, m, eo, mo, h⟩ := h
    refine ⟨S, A, e, m, eo, mo, okG_bind h fun u m1 v S1 H1 A1 _ x1 mo1 r1 h1 => ?_⟩
    cases r1 with
    | mu _ => exact False.elim h1
    | p q =>
      cases q with
      | int j =>
        have h1' : okG (fun S _ J ts => Yl X.K J S ts) X.K X.mg (fun c dd H' => W c dd σ H') S1 H1 A1 Q (if rgC j = true then .ok (rgT 0 j.toNat) m1 else .bad) := h1
        by_cases hc : rgC j = true
        · rw [if_pos hc] at h1'
          unfold rgC at hc
          simp only [Bool.and_eq_true, decide_eq_true_eq] at hc
          exact ⟨j, rfl, hc.1, hc.2, okG_ok h1' mo1 (yl_rng 0 j.toNat)⟩
        · rw [if_neg hc] at h1'; exact False.elim h1'
      | _ => exact False.elim h1
def dRg2 (da db : D) : DI := fun e m => (da e m).bind fun u m1 => (db e m1).bind fun w m2 => match u, w with
  | .p (.int i), .p (.int j) => if (rgC i && rgC j) = true then .ok (rgT i (j - i).toNat) m2 else .bad
  | _, _ => .bad
theorem tr_irg2 (hg : Gl X "range") (hm : X.mg "range" = none) (ha : PE X a (tE X.K X.mg W da)) (hb : PE X b (tE X.K X.mg W db)) (hs : starEach [a, b] X.env = [(false, eval a X.env), (false, eval b X.env)] := by rfl) (hs2 : starEach [b] X.env = [(false, eval b X.env)] := by rfl) : PI X tg (.Call (.Name "range" p) [a, b] [] pos) (tI X.K X.mg W (dRg2 da db)) :=
  weakI (pi_range2 hg hm (pa_cons ha (pa_cons hb pa_nil hs2) (by rw [hs, hs2])) hs hs2) fun σ H Q h => by
    obtain ⟨S, A, e, m, eo, mo, h⟩ := h
    refine ⟨S, A, e, m, eo, mo, okG_bind h fun u m1 v S1 H1 A1 _ x1 mo1 r1 h1 => ⟨S1, A1, e, m1, eo.ext x1, mo1, okG_bind h1 fun w m2 y S2 H2 A2 _ x2 mo2 r2 h2 => ?_⟩⟩
    cases r1 with
    | mu _ => exact False.elim h2
    | p q =>
      cases q with
      | int i =>
        cases r2 with
        | mu _ => exact False.elim h2
        | p q =>
          cases q with
          | int j =>
            have h2' : okG (fun S _ J ts => Yl X.K J S ts) X.K X.mg (fun c dd H' => W c dd σ H') S2 H2 A2 Q (if (rgC i && rgC j) = true then .ok (rgT i (j - i).toNat) m2 else .bad) := h2
            by_cases hc : (rgC i && rgC j) = true
            · rw [if_pos hc] at h2'
              unfold rgC at hc
              simp only [Bool.and_eq_true, decide_eq_true_eq] at hc
              exact ⟨i, j, rfl, ⟨hc.1.1, hc.1.2, hc.2.1, hc.2.2⟩, okG_ok h2' mo2 (yl_rng i _)⟩
            · rw [if_neg hc] at h2'; exact False.elim h2'
          | _ => exact False.elim h2
      | _ => exact False.elim h2
/-- enumerate(list) -/
def dEnum (d : D) : DI := fun e m => (d e m).bind fun u m1 => match u with
  | .p (.lst ts) => .ok (prs 0 ts) m1
  | .p (.scr ns) => .ok (prs 0 (ns.map T.int)) m1
  | _ => .bad
theorem tr_ienum {elts : List Expr} {kk : Nat} {tpos : Pos} (hg : Gl X "enumerate") (hm : X.mg "enumerate" = none) (ha : PE X a (tE X.K X.mg W da)) (hs : starEach [a] X.env = [(false, eval a X.env)] := by rfl) : PI X (.Tuple elts kk tpos) (.Call (.Name "enumerate" p) [a] [] pos) (tI X.K X.mg W (dEnum da)) :=
  weakI (pi_enum hg hm (pa_cons ha pa_nil hs) hs) fun σ H Q h => by
    obtain ⟨S, A, e, m, eo, mo, h⟩ := h
    refine ⟨S, A, e, m, eo, mo, okG_bind h fun u m1 v S1 H1 A1 _ x1 mo1 r1 h1 => ?_⟩
    cases r1 with
    | mu _ => exact False.elim h1
    | p q =>
      cases q with
      | lst hs r => exact ⟨_, _, rfl, SqL.of (mo1.sub _ _ hs), okG_ok h1 mo1 (yl_enum (SqL.of hs) r)⟩
      | scr hs => exact ⟨_, _, rfl, mo1.sub.sqL hs, okG_ok h1 mo1 (yl_enum hs (Reps.ints _))⟩
      | _ => exact False.elim h1

/-! ### list(range(..)), tuple(range(..)) -/
def dLrg (n : Nw) (d : D) : D := fun e m => (d e m).bind fun u m1 => match u with
  | .p (.int j) => if 0 ≤ j ∧ j ≤ 16777216 then newL n (rgT 0 j.toNat) m1 else .bad
  | _ => .bad
theorem rg_reps {K : PySem.W.Frag} {S : Hp} (lo : Int) (n : Nat) : Reps K S ((List.range n).map fun i => V.int (lo + (i : Nat))) (rgT lo n) := by
  unfold rgT
  generalize List.range n = l
  induction l with
  | nil => exact .nil
  | cons i r ih => exact .cons (.int _) ih
theorem tr_lrg (n : Nw) {p2 pos2 : Pos} (hc : X.calm = true) (hgl : Gl X "list") (hml : X.mg "list" = none) (hg : Gl X "range") (hm : X.mg "range" = none) (ha : PE X a (tE X.K X.mg W da)) (na : starEach [a] X.env = (false, eval a X.env) :: starEach [] X.env := by rfl)
    (na2 : starEach [.Call (.Name "range" p) [a] [] pos] X.env = (false, eval (.Call (.Name "range" p) [a] [] pos) X.env) :: starEach [] X.env := by rfl) : PE X (.Call (.Name "list" p2) [.Call (.Name "range" p) [a] [] pos] [] pos2) (tE X.K X.mg W (dLrg n da)) :=
  weakE (pe_listRg hc hgl hml (prg_1 hg hm ha na) na2) fun σ H Q h => by
    obtain ⟨S, A, e, m, eo, mo, h⟩ := h
    refine ⟨S, A, e, m, eo, mo, okG_bind h fun u m1 v S1 H1 A1 _ x1 mo1 r1 h1 => ?_⟩
    cases r1 with
    | mu _ => exact False.elim h1
    | p q =>
      cases q with
      | int j =>
        have h1' : okG (fun S A => RepU X.K S A) X.K X.mg (fun c dd H' => W c dd σ H') S1 H1 A1 Q (if 0 ≤ j ∧ j ≤ 16777216 then newL n (rgT 0 j.toNat) m1 else .bad) := h1
        by_cases hj : 0 ≤ j ∧ j ≤ 16777216
        · rw [if_pos hj] at h1'
          refine ⟨j, rfl, RgOk.of_le (Int.le_refl 0) hj.2 (by decide) hj.1, new_l h1' mo1 ?_⟩
          have e2 : (j - 0).toNat = j.toNat := by rw [Int.sub_zero]
          show Reps X.K S1 ((List.range (j - 0).toNat).map fun i => V.int (0 + (i : Nat))) _
          rw [e2]
          exact rg_reps 0 _
        · rw [if_neg hj] at h1'; exact False.elim h1'
      | _ => exact False.elim h1

/-! ### patterns: names, tuples of these -/
inductive Pt where
  | nm (i : Nat) | tp (ps : List Pt)
mutual
def Pt.raw (K : PySem.W.Frag) : Pt → TG
  | .nm i => gName i
  | .tp ps => gTup K ps.length (Pt.raws K ps)
def Pt.raws (K : PySem.W.Frag) : List Pt → TGs
  | [] => gNil
  | p :: r => gCons (p.raw K) (Pt.raws K r)
end
mutual
def Pt.den : Pt → T → En → Option En
  | .nm i, t, e => some (e.set i (some (.p t)))
  | .tp ps, .tup ts, e => Pt.dens ps ts e
  | .tp _, _, _ => none
def Pt.dens : List Pt → List T → En → Option En
  | [], [], e => some e
  | p :: r, t :: q, e => (p.den t e).bind fun e1 => Pt.dens r q e1
  | _, _, _ => none
end
mutual
def Pt.slots : Pt → List Nat
  | .nm i => [i]
  | .tp ps => Pt.slotss ps
def Pt.slotss : List Pt → List Nat
  | [] => []
  | p :: r => p.slots ++ Pt.slotss r
end
theorem wipe_set (σ : L2.St) (i : Nat) (v : Option V) : ∀ vs : List Nat, i ∈ vs → wipe (σ.set i v) vs = wipe σ vs
  | [], h => by cases h
  | j :: r, h => by
    unfold wipe
    by_cases hj : i ∈ r
    · rw [wipe_set σ i v r hj]
    · have e : i = j := by simpa [hj] using h
      subst e
      have key : ∀ (vs : List Nat), (wipe (σ.set i v) vs).set i none = (wipe σ vs).set i none := by
        intro vs
        induction vs with
        | nil => unfold wipe; rw [List.set_set]
        | cons k r ih =>
          unfold wipe
          by_cases hk : k = i
          · subst hk; rw [List.set_set, List.set_set, ih]
          · rw [List.set_comm _ _ hk, ih, List.set_comm _ _ hk]
      exact key r
mutual
theorem Pt.use {K : PySem.W.Frag} {S H : Hp} {A : List Addr} {m : Mem} (mo : MOk K S H A m) (own : List Nat) : ∀ (p : Pt) {t : T} {v : V} {σ : L2.St} {e e' : En} {Q : L2.St → Hp → Prop}, EOk K S A σ e → Rep K S v t → p.den t e = some e' → (∀ σ', EOk K S A σ' e' → (∀ i ∈ p.slots, i ∈ own) → wipe σ' own = wipe σ own → Q σ' H) → (∀ i ∈ p.slots, i ∈ own) → p.raw K v σ H Q
  | .nm i, t, v, σ, e, e', Q, eo, r, h, k, ho => by
    cases h
    exact k _ (eo.set (.p r) i) ho (wipe_set σ i _ own (ho i (by simp [Pt.slots])))
  | .tp ps, .tup ts, _, σ, e, e', Q, eo, .tup hs rr, h, k, ho => by
    have hl : ts.length = ps.length := Pt.dens_len ps ts h
    exact ⟨_, _, rfl, mo.sub.sqT hs, by rw [rr.length]; exact hl, Pt.uses mo own ps eo rr h (fun σ' a b => k σ' a ho b) ho⟩
theorem Pt.uses {K : PySem.W.Frag} {S H : Hp} {A : List Addr} {m : Mem} (mo : MOk K S H A m) (own : List Nat) : ∀ (ps : List Pt) {ts : List T} {vs : List V} {σ : L2.St} {e e' : En} {Q : L2.St → Hp → Prop}, EOk K S A σ e → Reps K S vs ts → Pt.dens ps ts e = some e' → (∀ σ', EOk K S A σ' e' → wipe σ' own = wipe σ own → Q σ' H) → (∀ i ∈ Pt.slotss ps, i ∈ own) → Pt.raws K ps vs σ H Q
  | [], [], _, σ, e, e', Q, eo, .nil, h, k, ho => by
    cases h
    exact ⟨rfl, k σ eo rfl⟩
  | p :: r, t :: q, _, σ, e, e', Q, eo, .cons r1 rr, h, k, ho => by
    have h' : ((p.den t e).bind fun e1 => Pt.dens r q e1) = some e' := h
    cases hd : p.den t e with
    | none => rw [hd] at h'; cases h'
    | some e1 =>
      rw [hd] at h'
      refine ⟨_, _, rfl, Pt.use mo own p eo r1 hd (fun σ1 eo1 _ w1 => Pt.uses mo own r eo1 rr h' (fun σ2 eo2 w2 => k σ2 eo2 (w2.trans w1)) fun i hi => ho i ?_) fun i hi => ho i ?_⟩
      · show i ∈ p.slots ++ Pt.slotss r
        exact List.mem_append_right _ hi
      · show i ∈ p.slots ++ Pt.slotss r
        exact List.mem_append_left _ hi
theorem Pt.dens_len : ∀ (ps : List Pt) (ts : List T) {e e' : En}, Pt.dens ps ts e = some e' → ts.length = ps.length
  | [], [], _, _, _ => rfl
  | [], _ :: _, _, _, h => by cases h
  | _ :: _, [], _, _, h => by cases h
  | p :: r, t :: q, e, e', h => by
    have h' : ((p.den t e).bind fun e1 => Pt.dens r q e1) = some e' := h
    cases hd : p.den t e with
    | none => rw [hd] at h'; cases h'
    | some e1 => rw [hd] at h'; simp [Pt.dens_len r q h']
end
end
end Tw

namespace Tw
open PySem PySem.Spec PyProof.Rows L2
/-- no exception is let out -/
def never : WX := fun _ _ _ _ => False
/-! ### comprehensions -/
def wipeE : En → List Nat → En
  | e, [] => e
  | e, i :: r => (wipeE e r).set i none
theorem wipe_ok {K : PySem.W.Frag} {S : Hp} {A : List Addr} {σ : L2.St} {e : En} (o : EOk K S A σ e) : ∀ own : List Nat, EOk K S A (wipe σ own) (wipeE e own)
  | [] => o
  | i :: r => by
    have ih := wipe_ok o r
    refine ⟨by unfold wipe wipeE; simp [ih.len], fun j u h => ?_⟩
    show ∃ v, ((wipe σ r).set i none)[j]? = some (some v) ∧ _
    have h : ((wipeE e r).set i none)[j]? = some (some u) := h
    by_cases hj : j = i
    · subst hj
      by_cases hl : j < (wipeE e r).length
      · rw [List.getElem?_set_self hl] at h; cases h
      · rw [List.getElem?_eq_none (by simp; omega)] at h; cases h
    · rw [List.getElem?_set_ne (Ne.symm hj)] at h ⊢
      exact ih.at_ j u h
/-- the walk of a comprehension: e the slots ahead of each turn -/
def lcL (pt : Pt) (tt : DB) (te : D) (e : En) : List T → List T → Mem → R (List T)
  | [], acc, m => .ok acc m
  | t :: r, acc, m => match pt.den t e with
    | none => .bad
    | some e1 => match tt e1 m with
      | .ok true m1 => match te e1 m1 with
        | .ok (.p y) m2 => if acc.length < 16777216 then lcL pt tt te e r (acc ++ [y]) m2 else .bad
        | _ => .bad
      | .ok false m1 => lcL pt tt te e r acc m1
      | _ => .bad
def dYes : DB := fun _ m => .ok true m
def dLc (n : Nw) (own : List Nat) (di : DI) (pt : Pt) (tt : DB) (te : D) : D := fun e m => (di e m).bind fun ts m1 => match lcL pt tt te (wipeE e own) ts [] m1 with
  | .ok ys m2 => newL n ys m2
  | _ => .bad
theorem wipe_get (σ : L2.St) (i : Nat) : ∀ vs : List Nat, (wipe σ vs)[i]? = if i ∈ vs then (σ[i]?).map (fun _ => none) else σ[i]?
  | [] => by simp [wipe]
  | j :: r => by
    unfold wipe
    by_cases hj : j = i
    · subst hj
      by_cases hl : j < (wipe σ r).length
      · rw [List.getElem?_set_self hl]
        rw [wipe_length] at hl
        simp [List.getElem?_eq_getElem hl]
      · rw [List.getElem?_eq_none (by simp; omega)]
        rw [wipe_length] at hl
        simp [List.getElem?_eq_none (Nat.le_of_not_lt hl)]
    · rw [List.getElem?_set_ne hj, wipe_get σ i r]
      by_cases hm : i ∈ r
      · simp [hm]
      · simp [hm, Ne.symm hj]
theorem wipe_wipe (σ : L2.St) (vs : List Nat) : wipe (wipe σ vs) vs = wipe σ vs := by
  apply List.ext_getElem?
  intro i
  rw [wipe_get, wipe_get]
  by_cases h : i ∈ vs
  · simp only [h, if_true, Option.map_map]
    rfl
  · simp [h]
section
variable {K : PySem.W.Frag} {S H S1 H1 : Hp} {A A1 : List Addr} {m : Mem} {Da : Addr}
theorem ne_mem {A : List Addr} {a b : Addr} (ha : a ∉ A) (hb : b ∈ A) : b ≠ a := fun z => ha (by rw [← z]; exact hb)
theorem MOk.alter (ho : MOk K S H A m) (hs : S Da = none) (ha : Da ∉ A) (o : HO) : MOk K S (upd H Da o) A m := by
  refine ⟨ho.nd, ho.len, fun b u e => ?_, fun b hb => ?_, fun k ts e => ?_⟩
  · rw [upd_ne (ne_of_none e hs)]; exact ho.sub _ _ e
  · obtain ⟨u, q⟩ := ho.live b hb
    exact ⟨u, by rw [upd_ne (ne_mem ha hb)]; exact q⟩
  · obtain ⟨b, vs, h1, h2, h3, h4⟩ := ho.cell k ts e
    exact ⟨b, vs, h1, h2, by rw [upd_ne (ne_mem ha (List.mem_of_getElem? h1))]; exact h3, h4⟩
theorem Ext.alter (x : Ext S H A S1 H1 A1) (hD : H Da = none) (o : HO) : Ext S H A S1 (upd H1 Da o) A1 :=
  ⟨x.sub, x.pre, fun b u h k n => let ⟨p, q, r⟩ := x.frm b u h k n; ⟨by rw [upd_ne (ne_of_none h hD)]; exact p, q, r⟩⟩
theorem MOk.adopt (ho : MOk K S H A m) (hs : S Da = none) (ha : Da ∉ A) {o : HO} (h : H Da = some o) : MOk K (upd S Da o) H A m := by
  have le : Le S (upd S Da o) := fun b u e => upd_some e hs
  refine ⟨ho.nd, ho.len, fun b u e => ?_, ho.live, fun k ts e => ?_⟩
  · by_cases hb : b = Da
    · subst hb; rw [upd_same] at e; cases e; exact h
    · rw [upd_ne hb] at e; exact ho.sub _ _ e
  · obtain ⟨b, vs, h1, h2, h3, h4⟩ := ho.cell k ts e
    exact ⟨b, vs, h1, by rw [upd_ne (ne_mem ha (List.mem_of_getElem? h1))]; exact h2, h3, h4.le le⟩
theorem Ext.adopt (x : Ext S H A S1 H1 A1) (hD : H Da = none) (hs : S1 Da = none) (o : HO) : Ext S H A (upd S1 Da o) H1 A1 :=
  ⟨fun b u e => upd_some (x.sub b u e) hs, x.pre, fun b u h k n => let ⟨p, q, r⟩ := x.frm b u h k n; ⟨p, by rw [upd_ne (ne_of_none h hD)]; exact q, r⟩⟩
theorem MOk.take_in (ho : MOk K S H A m) (hs : S Da = none) (ha : Da ∉ A) {vs : List V} {ts : List T} (h : H Da = some (.lst vs)) (r : Reps K S vs ts) : MOk K S H (A ++ [Da]) (m ++ [some ts]) := by
  refine ⟨?_, by simp [ho.len], ho.sub, fun b hb => ?_, fun k us e => ?_⟩
  · rw [List.nodup_append]
    refine ⟨ho.nd, by simp, fun x hx y hy => ?_⟩
    simp at hy; subst hy
    exact fun q => ha (q ▸ hx)
  · rcases List.mem_append.mp hb with h' | h'
    · exact ho.live b h'
    · simp at h'; subst h'; exact ⟨_, h⟩
  · by_cases hk : k < m.length
    · rw [List.getElem?_append_left hk] at e
      obtain ⟨b, ws, h1, h2⟩ := ho.cell k us e
      exact ⟨b, ws, pre_get (List.prefix_append A [Da]) h1, h2⟩
    · rw [List.getElem?_append_right (by omega)] at e
      have : k = m.length := by
        cases hz : k - m.length with
        | zero => omega
        | succ z => rw [hz] at e; simp at e
      subst this
      simp at e; subst e
      refine ⟨Da, vs, ?_, hs, h, r⟩
      rw [← ho.len, List.getElem?_append_right (Nat.le_refl _)]; simp
theorem Ext.take_in (x : Ext S H A S1 H1 A1) (hD : H Da = none) : Ext S H A S1 H1 (A1 ++ [Da]) :=
  ⟨x.sub, x.pre.trans (List.prefix_append A1 [Da]), fun b u h k n => let ⟨p, q, r⟩ := x.frm b u h k n; ⟨p, q, fun z => by
    rcases List.mem_append.mp z with z | z
    · exact r z
    · simp at z; subst z; rw [hD] at h; cases h⟩⟩
/-- someone else's new list becomes ours -/
theorem new_own {mg : Str → Option Value} {W0 : Value → Option Addr → Hp → Prop} {Q : VK} {n : Nw} {vs : List V} {ts : List T} (h : okG (fun S A => RepU K S A) K mg W0 S H A Q (newL n ts m)) (x : Ext S H A S1 H1 A1) (o : MOk K S1 H1 A1 m) (hD : H Da = none) (hs : S1 Da = none) (ha : Da ∉ A1) (hv : H1 Da = some (.lst vs)) (r : Reps K S1 vs ts) : Q (.ref Da) H1 := by
  cases n with
  | tree => exact h _ _ _ _ (x.adopt hD hs _) (o.adopt hs ha hv) (.p (.lst upd_same (r.le fun b u e => upd_some e hs)))
  | mu => exact h _ _ _ _ (x.take_in hD) (o.take_in hs ha hv r) (.mu (by rw [← o.len, List.getElem?_append_right (Nat.le_refl _)]; simp))
end
section
variable {X : Cx} {W : WX} {tg elt iter : Expr} {ifs : List Expr} {scope : Scope} {own : List (Str × Nat)} {pos : Pos} {di : DI} {pt : Pt} {tt : DB} {te : D}
/-- what a turn of a comprehension starts from: its list at Da is someone else's for a while -/
structure LcI (K : PySem.W.Frag) (S0 H0 : Hp) (A0 : List Addr) (Da : Addr) (S H : Hp) (A : List Addr) (m : Mem) (acc : List T) : Prop where
  ext : Ext S0 H0 A0 S H A
  ok : MOk K S H A m
  at_ : ∃ vs, H Da = some (.lst vs) ∧ Reps K S vs acc
  no : S Da = none ∧ Da ∉ A
theorem LcI.on {K : PySem.W.Frag} {S0 H0 S H S' H' : Hp} {A0 A A' : List Addr} {Da : Addr} {m m' : Mem} {acc : List T} (L : LcI K S0 H0 A0 Da S H A m acc) (x : Ext S H A S' H' A') (o : MOk K S' H' A' m') : LcI K S0 H0 A0 Da S' H' A' m' acc := by
  obtain ⟨vs, hD, rr⟩ := L.at_
  obtain ⟨f1, f2, f3⟩ := x.frm Da _ hD L.no.1 L.no.2
  exact ⟨L.ext.trans x, o, ⟨vs, f1, rr.le x.sub⟩, f2, f3⟩
theorem lc_use {K : PySem.W.Frag} {mg : Str → Option Value} {W : WX} (n : Nw) {vs : List Nat} {σ : L2.St} {H : Hp} {Q : VK} (hp : ∀ i ∈ pt.slots, i ∈ vs) (h : tE K mg W (dLc n vs di pt tt te) σ H Q) : tLc (tI K mg W di) (pt.raw K) (tB K mg never tt) (tE K mg never te) vs σ H Q := by
  obtain ⟨S, A, e, m, eo, mo, h⟩ := h
  refine ⟨S, A, e, m, eo, mo, okG_bind h fun ts m1 J S1 H1 A1 _ x1 mo1 yl h1 Da hD => ?_⟩
  have eo1 : EOk K S1 A1 (wipe σ vs) (wipeE e vs) := (wipe_ok eo vs).ext x1
  have h1' : okG (fun S A => RepU K S A) K mg (fun c dd H' => W c dd σ H') S1 H1 A1 Q (match lcL pt tt te (wipeE e vs) ts [] m1 with | .ok ys m2 => newL n ys m2 | _ => .bad) := h1
  generalize hfin : lcL pt tt te (wipeE e vs) ts [] m1 = fin at h1'
  have nb : fin ≠ .bad := fun z => by rw [z] at h1'; exact h1'
  refine ⟨fun i k H' => k = ts.length - i ∧ i ≤ ts.length ∧ ∃ S' A' m' acc, LcI K S1 H1 A1 Da S' H' A' m' acc ∧ lcL pt tt te (wipeE e vs) (ts.drop i) acc m' = fin,
    ⟨ts.length, by simp, Nat.zero_le _, S1, A1, m1, [], ⟨Ext.rfl.alter hD _, mo1.other hD _, ⟨[], upd_same, .nil⟩, mo1.freshS hD, mo1.notA hD⟩, by simpa using hfin⟩, ?_⟩
  rintro i k H' ⟨rfl, hi, S', A', m', acc, L, hL⟩
  have le1 : Le S1 S' := L.ext.sub
  by_cases hlt : i < ts.length
  · refine .inr ⟨yl.go i S' H' A' m' le1 L.ok hlt, fun H2 => ∃ S2 A2 m2 acc2, LcI K S1 H1 A1 Da S2 H2 A2 m2 acc2 ∧ lcL pt tt te (wipeE e vs) (ts.drop (i + 1)) acc2 m2 = fin, fun H2 ⟨S2, A2, m2, acc2, L2, hL2⟩ => ⟨ts.length - (i + 1), by omega, rfl, hlt, S2, A2, m2, acc2, L2, hL2⟩, fun x H2 y => ?_⟩
    obtain ⟨S2, t, ht, x2, mo2, rt⟩ := yl.yld i S' H' A' m' x H2 le1 L.ok hlt y
    have L2 := L.on x2 mo2
    rw [List.drop_eq_getElem_cons hlt] at hL
    have et : ts[i] = t := by
      rw [List.getElem?_eq_getElem hlt] at ht; exact Option.some.inj ht
    rw [et] at hL
    have eo2 : EOk K S2 A' (wipe σ vs) (wipeE e vs) := (eo1.ext L2.ext)
    unfold lcL at hL
    cases hd : pt.den t (wipeE e vs) with
    | none =>
      rw [hd] at hL
      exact absurd hL.symm nb
    | some e1 =>
      rw [hd] at hL
      have hL : (match tt e1 m' with
        | .ok true m1 => (match te e1 m1 with
          | .ok (.p y) m2 => if acc.length < 16777216 then lcL pt tt te (wipeE e vs) (ts.drop (i + 1)) (acc ++ [y]) m2 else .bad
          | _ => .bad)
        | .ok false m1 => lcL pt tt te (wipeE e vs) (ts.drop (i + 1)) acc m1
        | _ => .bad) = fin := hL
      refine Pt.use mo2 vs pt eo2 rt hd (fun σ2 eo3 _ hw => ⟨hw.trans (wipe_wipe σ vs), ?_⟩) hp
      refine ⟨S2, A', e1, m', eo3, mo2, ?_⟩
      cases htt : tt e1 m' with
      | bad => rw [htt] at hL; exact absurd hL.symm nb
      | exc x m => rw [htt] at hL; exact absurd hL.symm nb
      | ok b m3 =>
        rw [htt] at hL
        intro b' S3 H3 A3 x3 mo3 eb
        subst eb
        have L3 := L2.on x3 mo3
        cases b' with
        | false => exact iteF ⟨S3, A3, m3, acc, L3, hL⟩
        | true =>
          refine iteT ⟨S3, A3, e1, m3, eo3.ext x3, mo3, ?_⟩
          have hL : (match te e1 m3 with
            | .ok (.p y) m2 => if acc.length < 16777216 then lcL pt tt te (wipeE e vs) (ts.drop (i + 1)) (acc ++ [y]) m2 else .bad
            | _ => .bad) = fin := hL
          cases hte : te e1 m3 with
          | bad => rw [hte] at hL; exact absurd hL.symm nb
          | exc x m => rw [hte] at hL; exact absurd hL.symm nb
          | ok u m4 =>
            rw [hte] at hL
            cases u with
            | mu _ => exact absurd hL.symm nb
            | p z =>
              have hL : (if acc.length < 16777216 then lcL pt tt te (wipeE e vs) (ts.drop (i + 1)) (acc ++ [z]) m4 else .bad) = fin := hL
              by_cases hz : acc.length < 16777216
              · rw [if_pos hz] at hL
                intro y' S4 H4 A4 x4 mo4 ry
                have L4 := L3.on x4 mo4
                obtain ⟨vs2, hDa2, rr2⟩ := L4.at_
                cases ry with
                | p ry => exact ⟨vs2, hDa2, by rw [line_eq, rr2.length]; exact hz, S4, A4, m4, acc ++ [z], ⟨L4.ext.alter hD _, mo4.alter L4.no.1 L4.no.2 _, ⟨_, upd_same, rr2.append (.cons ry .nil)⟩, L4.no.1, L4.no.2⟩, hL⟩
              · rw [if_neg hz] at hL
                exact absurd hL.symm nb
  · have ei : i = ts.length := by omega
    subst ei
    refine .inl ⟨yl.stop _ S' H' A' m' le1 L.ok (Nat.le_refl _), ?_⟩
    rw [List.drop_length] at hL
    have hL : R.ok acc m' = fin := hL
    rw [← hL] at h1'
    obtain ⟨vs2, hDa2, rr2⟩ := L.at_
    have h2 : okG (fun S A => RepU K S A) K mg (fun c dd H' => W c dd σ H') S1 H1 A1 Q (newL n acc m') := h1'
    exact new_own h2 L.ext L.ok hD L.no.1 L.no.2 hDa2 rr2
theorem tr_lc (n : Nw) (pt : Pt) (hc : X.calm = true) (hN : X.N.Nodup) (hi : PI X tg iter (tI X.K X.mg W di)) (ok : BlkOk X.N X.env.scope scope own)
    (hg : ∀ (s : Shared) (H : Hp) (C : Addr) (cl : List (Str × Addr)) (fp : List Addr), PG (X.blk s H scope (compEnvC scope cl C X.env) fp) tg (pt.raw X.K)) (ht : ∀ (s : Shared) (H : Hp) (C : Addr) (cl : List (Str × Addr)) (fp : List Addr), PTs (X.blk s H scope (compEnvC scope cl C X.env) fp) ifs (tB X.K X.mg never tt))
    (he : ∀ (s : Shared) (H : Hp) (C : Addr) (cl : List (Str × Addr)) (fp : List Addr), PE (X.blk s H scope (compEnvC scope cl C X.env) fp) elt (tE X.K X.mg never te)) (hp : (pt.slots.all fun i => (own.map (·.2)).contains i) = true := by rfl) (hs : ∀ x, foldedSetIterable iter X.env x = pure x := by intro _; rfl) :
    PE X (.ListComp elt [⟨tg, iter, ifs, 0⟩] scope pos) (tE X.K X.mg W (dLc n (own.map (·.2)) di pt tt te)) :=
  weakE (pe_lc hc hN hi ok hg ht he hs) fun σ H Q h => lc_use n (fun i hi => by
    have := List.all_eq_true.mp hp i hi
    simpa using this) h
theorem tr_setLc (n : Nw) (pt : Pt) {i : Nat} {y : Str} {py spos : Pos} (hc : X.calm = true) (hN : X.N.Nodup) (hy : X.N[i]? = some y) (hyl : X.env.scope.names.lookup y = some .local)
    (hsw : swapsWith (.ListComp elt [⟨tg, iter, ifs, 0⟩] scope pos) (some (.Name y py)) spos.line X.env = pure true) (hi : PI X tg iter (tI X.K X.mg W di)) (ok : BlkOk X.N X.env.scope scope own)
    (hg : ∀ (s : Shared) (H : Hp) (C : Addr) (cl : List (Str × Addr)) (fp : List Addr), PG (X.blk s H scope (compEnvC scope cl C X.env) fp) tg (pt.raw X.K)) (ht : ∀ (s : Shared) (H : Hp) (C : Addr) (cl : List (Str × Addr)) (fp : List Addr), PTs (X.blk s H scope (compEnvC scope cl C X.env) fp) ifs (tB X.K X.mg never tt))
    (he : ∀ (s : Shared) (H : Hp) (C : Addr) (cl : List (Str × Addr)) (fp : List Addr), PE (X.blk s H scope (compEnvC scope cl C X.env) fp) elt (tE X.K X.mg never te)) (hp : (pt.slots.all fun i => (own.map (·.2)).contains i) = true := by rfl) (hs : ∀ x, foldedSetIterable iter X.env x = pure x := by intro _; rfl) :
    PS X (.Assign [.Name y py] (.ListComp elt [⟨tg, iter, ifs, 0⟩] scope pos) spos) (tAsg (tE X.K X.mg W (dLc n (own.map (·.2)) di pt tt te)) (gName i)) :=
  weakS (ps_setLc hc hN hy hyl hsw hi ok hg ht he hs) fun Dn σ H h => lc_use n (fun i hi => by
    have := List.all_eq_true.mp hp i hi
    simpa using this) h
theorem tr_yes : PTs X [] (tB X.K X.mg W dYes) := ⟨fun pins s σ H Q I h => by
  obtain ⟨S, A, e, m, eo, mo, h⟩ := h
  exact pts_nil.run pins s σ H Q I (okG_ok h mo rfl)⟩
theorem tr_ifs1 {c : Expr} {t : DB} (h : PT X c (tB X.K X.mg W t)) : PTs X [c] (tB X.K X.mg W t) := pts_one h
end
end Tw

namespace Tw
open PySem PySem.Spec PyProof.Rows L2
/-! ### blocks -/
def RS.bind (r : RS) (f : En → Mem → RS) : RS := match r with
  | .next e m => f e m
  | r => r
/-- an expression's result in a block -/
def R.st {α : Type} (r : R α) (e : En) (f : α → Mem → RS) : RS := match r with
  | .ok a m => f a m
  | .exc x m => .exc x e m
  | .bad => .bad
theorem okS_bind {K : PySem.W.Frag} {mg : Str → Option Value} {W : WX} {S H : Hp} {A : List Addr} {Dn Dn' : Ends} {r : RS} {f : En → Mem → RS} (h : okS K mg W S H A Dn (r.bind f)) (h1 : Dn'.rt = Dn.rt) (h2 : Dn'.bk = Dn.bk) (h3 : Dn'.ct = Dn.ct)
    (k : ∀ e m1 σ S1 H1 A1, r = .next e m1 → Ext S H A S1 H1 A1 → MOk K S1 H1 A1 m1 → EOk K S1 A1 σ e → okS K mg W S1 H1 A1 Dn (f e m1) → Dn'.nx σ H1) : okS K mg W S H A Dn' r := by
  cases r with
  | next e m => exact fun σ S' H' A' x o eo => k e m σ S' H' A' rfl x o eo (okS_ext x h)
  | ret u m => intro v S' H' A' x o rr; rw [h1]; exact h v S' H' A' x o rr
  | brk e m => intro v S' H' A' x o rr; rw [h2]; exact h v S' H' A' x o rr
  | cont e m => intro v S' H' A' x o rr; rw [h3]; exact h v S' H' A' x o rr
  | exc x e m => exact h
  | bad => exact h
theorem okS_st {α β : Type} {rel : Hp → List Addr → β → α → Prop} {K : PySem.W.Frag} {mg : Str → Option Value} {W : WX} {S H : Hp} {A : List Addr} {Dn : Ends} {σ : L2.St} {e : En} {r : R α} {f : α → Mem → RS} {Q : β → Hp → Prop} (eo : EOk K S A σ e) (h : okS K mg W S H A Dn (r.st e f))
    (k : ∀ t m1 v S1 H1 A1, r = .ok t m1 → Ext S H A S1 H1 A1 → MOk K S1 H1 A1 m1 → rel S1 A1 v t → okS K mg W S1 H1 A1 Dn (f t m1) → Q v H1) : okG rel K mg (fun c dd H' => W c dd σ H') S H A Q r := by
  cases r with
  | ok t m => exact fun v S' H' A' x o rr => k t m v S' H' A' rfl x o rr (okS_ext x h)
  | exc x m => exact fun c d S' H' A' y o er => h σ c d S' H' A' y o (eo.ext y) er
  | bad => exact h
theorem okS_next {K : PySem.W.Frag} {mg : Str → Option Value} {W : WX} {S H : Hp} {A : List Addr} {Dn : Ends} {σ : L2.St} {e : En} {m : Mem} (h : okS K mg W S H A Dn (.next e m)) (o : MOk K S H A m) (eo : EOk K S A σ e) : Dn.nx σ H := h σ S H A Ext.rfl o eo
def sSkip : DS := fun e m => .next e m
def sSeq (a b : DS) : DS := fun e m => (a e m).bind b
section
variable {X : Cx} {W : WX} {st : Stmt} {rest sts : List Stmt} {a b c e : Expr} {pos pos' : Pos} {d da db : D} {ds du : DS} {t : DB}
theorem ts_nil : PSs X [] (tS X.K X.mg W sSkip) := weakSs pss_nil fun Dn σ H h => by
  obtain ⟨S, A, e, m, eo, mo, h⟩ := h
  exact okS_next h mo eo
theorem ts_cons (h1 : PS X st (tS X.K X.mg W ds)) (h2 : PSs X rest (tS X.K X.mg W du)) : PSs X (st :: rest) (tS X.K X.mg W (sSeq ds du)) :=
  weakSs (pss_cons h1 h2) fun Dn σ H h => by
    obtain ⟨S, A, e, m, eo, mo, h⟩ := h
    exact ⟨S, A, e, m, eo, mo, okS_bind h rfl rfl rfl fun e1 m1 σ1 S1 H1 A1 _ x1 mo1 eo1 h1 => ⟨S1, A1, e1, m1, eo1, mo1, h1⟩⟩
theorem ts_one (h1 : PS X st (tS X.K X.mg W ds)) : PSs X [st] (tS X.K X.mg W ds) := pss_one h1
theorem ts_pass : PS X (.Pass pos) (tS X.K X.mg W sSkip) := weakS ps_pass fun Dn σ H h => by
  obtain ⟨S, A, e, m, eo, mo, h⟩ := h
  exact okS_next h mo eo
def sBrk : DS := fun e m => .brk e m
def sCont : DS := fun e m => .cont e m
theorem ts_break : PS X (.Break pos) (tS X.K X.mg W sBrk) := weakS ps_break fun Dn σ H h => by
  obtain ⟨S, A, e, m, eo, mo, h⟩ := h
  exact h σ S H A Ext.rfl mo eo
theorem ts_continue : PS X (.Continue pos) (tS X.K X.mg W sCont) := weakS ps_continue fun Dn σ H h => by
  obtain ⟨S, A, e, m, eo, mo, h⟩ := h
  exact h σ S H A Ext.rfl mo eo
/-- x = e -/
def sSet (i : Nat) (d : D) : DS := fun e m => (d e m).st e fun u m1 => .next (e.set i (some u)) m1
theorem set_use {K : PySem.W.Frag} {mg : Str → Option Value} {i : Nat} {Dn : Ends} {σ : L2.St} {H : Hp} (h : tS K mg W (sSet i d) Dn σ H) : tAsg (tE K mg W d) (gName i) Dn σ H := by
  obtain ⟨S, A, e, m, eo, mo, h⟩ := h
  exact ⟨S, A, e, m, eo, mo, okS_st eo h fun u m1 v S1 H1 A1 _ x1 mo1 r1 h1 => okS_next h1 mo1 ((eo.ext x1).set r1 i)⟩
theorem ts_set (i : Nat) {x : Str} (hN : X.N.Nodup) (he : PE X e (tE X.K X.mg W d)) (hi : X.N[i]? = some x := by rfl) (hx : Loc X.env.scope x := by first | exact .inl rfl | exact .inr rfl) (hs : swapsWith e (some (.Name x pos')) pos.line X.env = pure false := by rfl) (hf : X.fn x = true ∨ X.env.scope.names.lookup x = some .local := by first | exact .inl rfl | exact .inr rfl | assumption) :
    PS X (.Assign [.Name x pos'] e pos) (tS X.K X.mg W (sSet i d)) := weakS (ps_set hN hi hx he hs hf) fun _ _ _ h => set_use h
/-- x = [.. for ..] -/
theorem ts_setLc {tg elt iter : Expr} {ifs : List Expr} {scope : Scope} {i : Nat} {y : Str} {py spos : Pos} (h : PS X (.Assign [.Name y py] (.ListComp elt [⟨tg, iter, ifs, 0⟩] scope pos) spos) (tAsg (tE X.K X.mg W d) (gName i))) :
    PS X (.Assign [.Name y py] (.ListComp elt [⟨tg, iter, ifs, 0⟩] scope pos) spos) (tS X.K X.mg W (sSet i d)) := weakS h fun _ _ _ h => set_use h
/-- target = e -/
def sAsg (d : D) (g : DG) : DS := fun e m => (d e m).st e fun u m1 => (g u e m1).st e fun e2 m2 => .next e2 m2
theorem ts_asg {tg : Expr} {g : DG} (he : PE X e (tE X.K X.mg W d)) (hg : PG X tg (tG X.K X.mg W g)) (hs : swapsWithSole [tg] e pos.line X.env = pure false := by rfl) (hw : swappedStores [tg] e X.env = pure none := by rfl)
    (h1 : (assignEach [tg] X.env).map (·.2) = [assign tg X.env] := by rfl) : PS X (.Assign [tg] e pos) (tS X.K X.mg W (sAsg d g)) :=
  weakS (ps_asg he hg hs hw h1) fun Dn σ H h => by
    obtain ⟨S, A, e, m, eo, mo, h⟩ := h
    exact ⟨S, A, e, m, eo, mo, okS_st eo h fun u m1 v S1 H1 A1 _ x1 mo1 r1 h1 =>
      ⟨S1, A1, e, m1, u, eo.ext x1, mo1, r1, okS_st (eo.ext x1) h1 fun e2 m2 σ2 S2 H2 A2 _ x2 mo2 eo2 h2 => okS_next h2 mo2 eo2⟩⟩
/-- a, b = x, y by two names -/
def sPar (i j : Nat) (da : DA) : DS := fun e m => (da e m).st e fun us m1 => match us with
  | [u, w] => .next ((e.set i (some u)).set j (some w)) m1
  | _ => .bad
theorem ts_par (i j : Nat) {x y : Str} {da : DA} {px py pt : Pos} {kt k2 pt2} (hc : X.calm = true) (hN : X.N.Nodup) (ha : PA X [a, b] (tA X.K X.mg W da)) (hij : i ≠ j := by decide) (hi : X.N[i]? = some x := by rfl) (hj : X.N[j]? = some y := by rfl)
    (hx : X.env.scope.names.lookup x = some .local := by rfl) (hy : X.env.scope.names.lookup y = some .local := by rfl)
    (hw : swappedStores [.Tuple [.Name x px, .Name y py] kt pt] (.Tuple [a, b] k2 pt2) X.env = pure (some [x, y]) := by rfl)
    (hs : swapsWithSole [.Tuple [.Name x px, .Name y py] kt pt] (.Tuple [a, b] k2 pt2) pos.line X.env = pure false := by rfl) :
    PS X (.Assign [.Tuple [.Name x px, .Name y py] kt pt] (.Tuple [a, b] k2 pt2) pos) (tS X.K X.mg W (sPar i j da)) :=
  weakS (ps_par hc hN hi hj hij hx hy ha hw hs) fun Dn σ H h => by
    obtain ⟨S, A, e, m, eo, mo, h⟩ := h
    refine ⟨S, A, e, m, eo, mo, okS_st eo h fun us m1 vs S1 H1 A1 _ x1 mo1 r1 h1 => ?_⟩
    match us, h1, r1 with
    | [u, w], h1, r1 =>
      obtain ⟨v, z, rfl, ra, rb⟩ := reps2 r1
      exact ⟨v, z, rfl, okS_next h1 mo1 (((eo.ext x1).set ra i).set rb j)⟩
def sPar3 (i j l : Nat) (da : DA) : DS := fun e m => (da e m).st e fun us m1 => match us with
  | [u, w, z] => .next (((e.set i (some u)).set j (some w)).set l (some z)) m1
  | _ => .bad
theorem ts_par3 (i j l : Nat) {x y z : Str} {da : DA} {px py pz pt : Pos} {kt k2 pt2} (hc : X.calm = true) (hN : X.N.Nodup) (ha : PA X [a, b, c] (tA X.K X.mg W da)) (hij : i ≠ j := by decide) (hil : i ≠ l := by decide) (hjl : j ≠ l := by decide) (hi : X.N[i]? = some x := by rfl) (hj : X.N[j]? = some y := by rfl) (hl : X.N[l]? = some z := by rfl)
    (hx : X.env.scope.names.lookup x = some .local := by rfl) (hy : X.env.scope.names.lookup y = some .local := by rfl) (hz : X.env.scope.names.lookup z = some .local := by rfl)
    (hw : swappedStores [.Tuple [.Name x px, .Name y py, .Name z pz] kt pt] (.Tuple [a, b, c] k2 pt2) X.env = pure (some [x, y, z]) := by rfl)
    (hs : swapsWithSole [.Tuple [.Name x px, .Name y py, .Name z pz] kt pt] (.Tuple [a, b, c] k2 pt2) pos.line X.env = pure false := by rfl) :
    PS X (.Assign [.Tuple [.Name x px, .Name y py, .Name z pz] kt pt] (.Tuple [a, b, c] k2 pt2) pos) (tS X.K X.mg W (sPar3 i j l da)) :=
  weakS (ps_par3 hc hN hi hj hl hij hil hjl hx hy hz ha hw hs) fun Dn σ H h => by
    obtain ⟨S, A, e, m, eo, mo, h⟩ := h
    refine ⟨S, A, e, m, eo, mo, okS_st eo h fun us m1 vs S1 H1 A1 _ x1 mo1 r1 h1 => ?_⟩
    match us, h1, r1 with
    | [u, w, q], h1, .cons ra (.cons rb (.cons rc .nil)) => exact ⟨_, _, _, rfl, okS_next h1 mo1 ((((eo.ext x1).set ra i).set rb j).set rc l)⟩
def sExpr (d : D) : DS := fun e m => (d e m).st e fun _ m1 => .next e m1
theorem ts_expr (he : PE X e (tE X.K X.mg W d)) (hs : swapsWith e none pos.line X.env = pure false := by rfl) : PS X (.Expr e pos) (tS X.K X.mg W (sExpr d)) :=
  weakS (ps_expr he hs) fun Dn σ H h => by
    obtain ⟨S, A, e, m, eo, mo, h⟩ := h
    exact ⟨S, A, e, m, eo, mo, okS_st eo h fun u m1 v S1 H1 A1 _ x1 mo1 r1 h1 => okS_next h1 mo1 (eo.ext x1)⟩
def sRet (d : D) : DS := fun e m => (d e m).st e fun u m1 => .ret u m1
theorem ts_ret (he : PE X e (tE X.K X.mg W d)) : PS X (.Return (some e) pos) (tS X.K X.mg W (sRet d)) :=
  weakS (ps_ret he) fun Dn σ H h => by
    obtain ⟨S, A, e, m, eo, mo, h⟩ := h
    exact ⟨S, A, e, m, eo, mo, okS_st eo h fun u m1 v S1 H1 A1 _ x1 mo1 r1 h1 => h1 v S1 H1 A1 Ext.rfl mo1 r1⟩
def sIf (c : DB) (a b : DS) : DS := fun e m => (c e m).st e fun k m1 => match k with
  | true => a e m1
  | false => b e m1
theorem ts_if {p q : List Stmt} (hc : PT X c (tB X.K X.mg W t)) (ha : PSs X p (tS X.K X.mg W ds)) (hb : PSs X q (tS X.K X.mg W du)) : PS X (.If c p q pos) (tS X.K X.mg W (sIf t ds du)) :=
  weakS (ps_if hc ha hb) fun Dn σ H h => by
    obtain ⟨S, A, e, m, eo, mo, h⟩ := h
    refine ⟨S, A, e, m, eo, mo, okS_st eo h fun k m1 v S1 H1 A1 _ x1 mo1 r1 h1 => ?_⟩
    subst r1
    cases v with
    | true => exact iteT ⟨S1, A1, e, m1, eo.ext x1, mo1, h1⟩
    | false => exact iteF ⟨S1, A1, e, m1, eo.ext x1, mo1, h1⟩
/-! ### loops -/
def forL (pt : Pt) (body : DS) : List T → En → Mem → RS
  | [], e, m => .next e m
  | t :: r, e, m => match pt.den t e with
    | none => .bad
    | some e1 => match body e1 m with
      | .next e2 m2 => forL pt body r e2 m2
      | .cont e2 m2 => forL pt body r e2 m2
      | .brk e2 m2 => .next e2 m2
      | r => r
def sFor (di : DI) (pt : Pt) (body : DS) : DS := fun e m => (di e m).st e fun ts m1 => forL pt body ts e m1
theorem ts_for {tg iter : Expr} {body : List Stmt} {di : DI} (pt : Pt) (hp : PassesOwn (model X.prog X.w) X.A X.env X.xe) (hc : X.calm = true) (hi : PI X tg iter (tI X.K X.mg W di)) (hg : PG X tg (pt.raw X.K)) (hb : PSs X body (tS X.K X.mg W ds))
    (hs : ∀ x, foldedSetIterable iter X.env x = pure x := by intro _; rfl) : PS X (.For tg iter body [] pos) (tS X.K X.mg W (sFor di pt ds)) :=
  weakS (ps_for hp hc hi hg hb hs) fun Dn σ H h => by
    obtain ⟨S, A, e, m, eo, mo, h⟩ := h
    refine ⟨S, A, e, m, eo, mo, okS_st eo h fun ts m1 J S1 H1 A1 _ x1 mo1 yl h1 => ?_⟩
    have hp : ∀ i ∈ pt.slots, i ∈ pt.slots := fun _ h => h
    refine ⟨fun i k σ' H' => k = ts.length - i ∧ i ≤ ts.length ∧ ∃ S' A' e' m', Ext S1 H1 A1 S' H' A' ∧ MOk X.K S' H' A' m' ∧ EOk X.K S' A' σ' e' ∧ okS X.K X.mg W S' H' A' Dn (forL pt ds (ts.drop i) e' m'),
      ⟨ts.length, by simp, Nat.zero_le _, S1, A1, e, m1, Ext.rfl, mo1, eo.ext x1, by simpa using h1⟩, ?_⟩
    rintro i k σ' H' ⟨rfl, hi, S', A', e', m', xx, mo', eo', hL⟩
    by_cases hlt : i < ts.length
    · refine .inr ⟨yl.go i S' H' A' m' xx.sub mo' hlt, fun σ2 H2 => ∃ S2 A2 e2 m2, Ext S1 H1 A1 S2 H2 A2 ∧ MOk X.K S2 H2 A2 m2 ∧ EOk X.K S2 A2 σ2 e2 ∧ okS X.K X.mg W S2 H2 A2 Dn (forL pt ds (ts.drop (i + 1)) e2 m2), fun σ2 H2 q => ⟨ts.length - (i + 1), by omega, rfl, hlt, q⟩, fun x H2 y => ?_⟩
      obtain ⟨S2, tt, ht, x2, mo2, rt⟩ := yl.yld i S' H' A' m' x H2 xx.sub mo' hlt y
      rw [List.drop_eq_getElem_cons hlt] at hL
      have et : ts[i] = tt := by
        rw [List.getElem?_eq_getElem hlt] at ht; exact Option.some.inj ht
      rw [et] at hL
      have hL := okS_ext x2 hL
      unfold forL at hL
      cases hd : pt.den tt e' with
      | none => rw [hd] at hL; exact False.elim hL
      | some e1 =>
        rw [hd] at hL
        refine Pt.use mo2 pt.slots pt (eo'.ext x2) rt hd (fun σ3 eo3 _ _ => ?_) hp
        refine ⟨S2, A', e1, m', eo3, mo2, ?_⟩
        have hL : okS X.K X.mg W S2 H2 A' Dn (match ds e1 m' with
          | .next e2 m2 => forL pt ds (ts.drop (i + 1)) e2 m2
          | .cont e2 m2 => forL pt ds (ts.drop (i + 1)) e2 m2
          | .brk e2 m2 => .next e2 m2
          | r => r) := hL
        have x3 := xx.trans x2
        cases hb2 : ds e1 m' with
        | next e2 m2 =>
          rw [hb2] at hL
          exact fun σ4 S4 H4 A4 x4 mo4 eo4 => ⟨S4, A4, e2, m2, x3.trans x4, mo4, eo4, okS_ext x4 hL⟩
        | cont e2 m2 =>
          rw [hb2] at hL
          exact fun σ4 S4 H4 A4 x4 mo4 eo4 => ⟨S4, A4, e2, m2, x3.trans x4, mo4, eo4, okS_ext x4 hL⟩
        | brk e2 m2 => rw [hb2] at hL; exact hL
        | ret u m2 => rw [hb2] at hL; exact hL
        | exc x e2 m2 => rw [hb2] at hL; exact hL
        | bad => rw [hb2] at hL; exact hL
    · have ei : i = ts.length := by omega
      subst ei
      rw [List.drop_length] at hL
      exact .inl ⟨yl.stop _ S' H' A' m' xx.sub mo' (Nat.le_refl _), okS_next hL mo' eo'⟩
/-- while, so many turns at most -/
def whL (t : DB) (body : DS) : Nat → En → Mem → RS
  | 0, _, _ => .bad
  | n + 1, e, m => (t e m).st e fun k m1 => match k with
    | false => .next e m1
    | true => match body e m1 with
      | .next e2 m2 => whL t body n e2 m2
      | .cont e2 m2 => whL t body n e2 m2
      | .brk e2 m2 => .next e2 m2
      | r => r
theorem ts_while (n : Nat) {body : List Stmt} (hp : PassesOwn (model X.prog X.w) X.A X.env X.xe) (hc : PT X c (tB X.K X.mg W t)) (hb : PSs X body (tS X.K X.mg W ds)) : PS X (.While c body [] pos) (tS X.K X.mg W (whL t ds n)) :=
  weakS (ps_while hp hc hb) fun Dn σ H h => by
    obtain ⟨S, A, e, m, eo, mo, h⟩ := h
    refine ⟨fun k σ' H' => ∃ S' A' e' m', MOk X.K S' H' A' m' ∧ EOk X.K S' A' σ' e' ∧ okS X.K X.mg W S' H' A' Dn (whL t ds k e' m'), ⟨n, S, A, e, m, mo, eo, h⟩, ?_⟩
    rintro k σ' H' ⟨S', A', e', m', mo', eo', hL⟩
    cases k with
    | zero => exact False.elim hL
    | succ k =>
      refine ⟨S', A', e', m', eo', mo', okS_st eo' hL fun b m1 v S1 H1 A1 _ x1 mo1 r1 h1 => ?_⟩
      subst r1
      cases v with
      | false => exact iteF (okS_next h1 mo1 (eo'.ext x1))
      | true =>
        refine iteT ⟨fun σ2 H2 => ∃ S2 A2 e2 m2, MOk X.K S2 H2 A2 m2 ∧ EOk X.K S2 A2 σ2 e2 ∧ okS X.K X.mg W S2 H2 A2 Dn (whL t ds k e2 m2), fun σ2 H2 q => ⟨k, Nat.lt_succ_self k, q⟩, S1, A1, e', m1, eo'.ext x1, mo1, ?_⟩
        have hL : okS X.K X.mg W S1 H1 A1 Dn (match ds e' m1 with
          | .next e2 m2 => whL t ds k e2 m2
          | .cont e2 m2 => whL t ds k e2 m2
          | .brk e2 m2 => .next e2 m2
          | r => r) := h1
        cases hb2 : ds e' m1 with
        | next e2 m2 =>
          rw [hb2] at hL
          exact fun σ4 S4 H4 A4 x4 mo4 eo4 => ⟨S4, A4, e2, m2, mo4, eo4, okS_ext x4 hL⟩
        | cont e2 m2 =>
          rw [hb2] at hL
          exact fun σ4 S4 H4 A4 x4 mo4 eo4 => ⟨S4, A4, e2, m2, mo4, eo4, okS_ext x4 hL⟩
        | brk e2 m2 => rw [hb2] at hL; exact hL
        | ret u m2 => rw [hb2] at hL; exact hL
        | exc x e2 m2 => rw [hb2] at hL; exact hL
        | bad => rw [hb2] at hL; exact hL
end

/-! ### defs -/
/-- what a def promises: its meaning on values -/
def spT (K : PySem.W.Frag) (mg : Str → Option Value) (φ : FN) : Sp := fun vs H Q E => ∃ S A us m, RepUs K S A vs us ∧ MOk K S H A m ∧ okG (fun S A => RepU K S A) K mg (fun c dd H' => E c dd H') S H A Q (φ us m)
/-- the meaning of a def by that of its body: n parameters, k slots -/
def fnD (n k : Nat) (d : DS) : FN := fun us m => if us.length = n then
    match d (us.map some ++ List.replicate (k - n) none) m with
    | .next _ m' => .ok (.p .non) (m'.take m.length)
    | .ret (.p t) m' => .ok (.p t) (m'.take m.length)
    | .ret (.mu j) m' => .ok (.mu j) m'
    | .exc x _ m' => .exc x (m'.take m.length)
    | _ => .bad
  else .bad
theorem spT_len {K : PySem.W.Frag} {mg : Str → Option Value} {n k : Nat} {d : DS} {vs : List V} {H : Hp} {Q : VK} {E : XK} (h : spT K mg (fnD n k d) vs H Q E) : vs.length = n := by
  obtain ⟨S, A, us, m, r, mo, h⟩ := h
  rw [r.length]
  unfold fnD at h
  by_cases hl : us.length = n
  · exact hl
  · rw [if_neg hl] at h; exact False.elim h
theorem start_ok {K : PySem.W.Frag} {S : Hp} {A : List Addr} {N : List Str} {vs : List V} {us : List U} (r : RepUs K S A vs us) : EOk K S A (L2.start N vs) (us.map some ++ List.replicate (N.length - us.length) none) := by
  refine ⟨by unfold L2.start; simp [r.length], fun i u h => ?_⟩
  unfold L2.start
  by_cases hi : i < us.length
  · rw [List.getElem?_append_left (by simpa using hi), List.getElem?_map] at h
    cases e : us[i]? with
    | none => rw [e] at h; cases h
    | some w =>
      rw [e] at h; cases h
      obtain ⟨v, hv, rv⟩ := r.get e
      refine ⟨v, ?_, rv⟩
      rw [List.getElem?_append_left (by simpa [r.length] using hi), List.getElem?_map, hv]; rfl
  · rw [List.getElem?_append_right (by simpa using hi), List.getElem?_replicate] at h
    split at h <;> cases h
theorem fn_use {K : PySem.W.Frag} {mg : Str → Option Value} {N : List Str} {n : Nat} {d : DS} {vs : List V} {H : Hp} {Q : VK} {E : XK} (h : spT K mg (fnD n N.length d) vs H Q E) :
    tS K mg (fun cls dd _ H => E cls dd H) d { nx := fun _ H' => Q .non H', rt := Q } (L2.start N vs) H := by
  have hn := spT_len h
  obtain ⟨S, A, us, m, r, mo, h⟩ := h
  have hu : us.length = n := by rw [← r.length]; exact hn
  unfold fnD at h
  rw [if_pos hu] at h
  have eo0 := start_ok (N := N) r
  rw [hu] at eo0
  refine ⟨S, A, _, m, eo0, mo, ?_⟩
  have hA : A.length = m.length := mo.len
  have h : okG (fun S A => RepU K S A) K mg (fun c dd H' => E c dd H') S H A Q (match d (us.map some ++ List.replicate (N.length - n) none) m with
    | .next _ m' => .ok (.p .non) (m'.take m.length)
    | .ret (.p t) m' => .ok (.p t) (m'.take m.length)
    | .ret (.mu j) m' => .ok (.mu j) m'
    | .exc x _ m' => .exc x (m'.take m.length)
    | _ => .bad) := h
  cases hd : d (us.map some ++ List.replicate (N.length - n) none) m with
  | next e m' =>
    rw [hd] at h
    exact fun σ S' H' A' x o eo => h .non S' H' _ x.take (by rw [hA]; exact o.take _) (.p .non)
  | ret u m' =>
    rw [hd] at h
    cases u with
    | p t => exact fun v S' H' A' x o rr => h v S' H' _ x.take (by rw [hA]; exact o.take _) (by cases rr with | p q => exact .p q)
    | mu j => exact fun v S' H' A' x o rr => h v S' H' A' x o rr
  | brk e m' => rw [hd] at h; exact False.elim h
  | cont e m' => rw [hd] at h; exact False.elim h
  | exc y e m' =>
    rw [hd] at h
    exact fun σ c dd S' H' A' x o eo er => h c dd S' H' _ x.take (by rw [hA]; exact o.take _) er
  | bad => rw [hd] at h; exact False.elim h
section
variable {P : Program} {w : World} {K : PySem.W.Frag} {mg : Str → Option Value} {base : Heap}
/-- THE RULE for a def of the text -/
theorem fn_ok {x qual : Str} {params : Arguments} {body : List Stmt} {scope : Scope} {dvs : List V} {kws : List (Str × V)} {f : Addr} {fd : FuncData} {N ps : List Str} {k : Nat} {d : DS} (F : FunD K x qual params body scope dvs kws f fd) (Sc : FnScope N ps scope)
    (hb : ∀ (cdv : Value) (A : Around) (outer : List Env) (s : Shared) (H : Hp) (E : XK), Room k (A.deeper (envOfC qual scope s.heap.objs.size f cdv)) →
      PSs (cxOf (L2.CX P w) P w K mg base N qual scope f cdv A outer s H E) body (tS K mg (fun cls dd _ H => E cls dd H) d)) :
    FnOk P w K mg base (L2.CX P w) (k + 1) f fd ps (spT K mg (fnD ps.length N.length d)) :=
  FunD.ok F Sc (fun vs H Q E h => spT_len h) fun cdv A outer s H vs Q E hr h => ⟨_, hb cdv A outer s H E hr, fn_use h⟩
end
/-- f(..), f an own def -/
theorem tr_call {X : Cx} {W : WX} {k : Nat} {f : Addr} {fd : FuncData} {ps : List Str} {φ : FN} {x : Str} {p pos : Pos} {e : Expr} {es : List Expr} {ds : DA} (F : FnOk X.prog X.w X.K X.mg X.base (L2.CX X.prog X.w) k f fd ps (spT X.K X.mg φ)) (hr : Room k X.A) (hg : Gl X x) (hm : X.mg x = some (.ref f)) (hk : PySem.W.keepIn X.K (.ref f) = true) (hb : Binds X.K fd ps []) (tk : Takes X W)
    (ha : PA X (e :: es) (tA X.K X.mg W ds)) (hdb : (x == ("__debug__" : Str)) = false := by decide) (he : starEach (e :: es) X.env = (false, eval e X.env) :: starEach es X.env := by rfl) (hpl : (backTo pos (starEach es X.env)).any (·.1) = false := by rfl) :
    PE X (.Call (.Name x p) (e :: es) [] pos) (tE X.K X.mg W (dCall φ ds)) :=
  weakE (pe_callS F hr hg hm hk hb (fun σ => passAt tk σ) ha hdb he hpl) fun σ H Q h => by
    obtain ⟨S, A, en, m, eo, mo, h⟩ := h
    exact ⟨S, A, en, m, eo, mo, okG_bind h fun us m1 vs S1 H1 A1 _ x1 mo1 r1 h1 => ⟨S1, A1, us, m1, r1, mo1, h1⟩⟩
end Tw

/-! own exceptions whose __init__ is «super().__init__()» -/
namespace Tw
open PySem PySem.Spec PyProof.Rows L2 PySem.W PySem.Calls
/-! ### the text of __init__ -/
def xA (p : Pos) : Arguments := { posonlyargs := [], args := [{ arg := "self", annotation := none, pos := p }], vararg := none, kwonlyargs := [], kw_defaults := [], kwarg := none, defaults := [] }
def xB (p0 p1 p2 p3 p4 : Pos) : List Stmt := [.Expr (.Call (.Attribute (.Call (.Name "super" p0) [] [] p1) "__init__" p2) [] [] p3) p4]
def xS : Scope := { kind := .function, names := [(PySem.Str.ofString "self", .local), (PySem.Str.ofString "__class__", .free), (PySem.Str.ofString "super", .globalImplicit)], isGenerator := false, isCoroutine := false, more := [] }
/-- how the call of super().__init__ is evaluated -/
def SupCall (p0 p1 p2 p3 : Pos) : Prop := ∃ pl : Env → Sem Bool, ∀ env : Env, eval (.Call (.Attribute (.Call (.Name "super" p0) [] [] p1) "__init__" p2) [] [] p3) env = (do
      let ov ← attributeBase (.Call (.Name "super" p0) [] [] p1) "__init__" env (eval (.Call (.Name "super" p0) [] [] p1) env)
      standAt p2.atName
      let (f, first) ← holding [ov] (getMethod ov "__init__" (pl env))
      callWith p3 f first (backTo p3 (starEach [] env)) [])
example : SupCall ⟨5, 8, 5, 13⟩ ⟨5, 8, 5, 15⟩ ⟨5, 8, 5, 24⟩ ⟨5, 8, 5, 26⟩ := ⟨_, fun env => rfl⟩
/-- what the written part says of the class named x at C, over the built-in B -/
structure ExTxt (prog : Program) (K : PySem.W.Frag) (mg : Str → Option Value) (x : Str) (C : Addr) (B newId initId : String) (bmB : List Value) : Prop where
  base : ExcBaseFacts B newId initId bmB
  kxs : KxsFacts B initId
  gC : mg x = some (.ref C)
  kC : keepIn K (.ref C) = true
  ini : excInitIn K C bmB newId = true
  exC : subIn K (.ref C) (.type "BaseException") = some true
  tyC : typeIn K (.ref C) = some (.type "type")
  subB : subIn K (.ref C) (.type B) = some true
  cls : ∃ cd, clsIn K C = some cd
  mro : mroIn K C (.ref C) = some true
  sup : ks_superIn K C C "__init__" = some (some (.builtin initId))
  noS : nsIn K mainGlobals "super" = some none
  noT : nsIn K cStatics "thirdparty.any" = some none
  main : (prog.main.scope.names.lookup ("super" : Str)).isSome = false
  fn : ∃ (fI cda cc : Addr) (oc : Value) (od : Option Addr) (qual : Str) (kV doc pm : Value) (an : Option Addr) (ct : Value) (osl : Array (Option Value)) (q0 p0 p1 p2 p3 p4 : Pos),
    findIn K (.ref C) "__init__" = some (some (.ref fI)) ∧ isFn K (.ref fI) = true ∧
    K.lookup fI = some ⟨oc, od, .func (ksFn "__init__" qual (xA q0) (xB p0 p1 p2 p3 p4) xS .none kV doc pm an (.ref cda) ct cc), osl⟩ ∧ codeIn K (.ref cda) qual = true ∧ SupCall p0 p1 p2 p3 ∧
    (∃ (o : Obj) (vs : Array Value) (file : Str) (tf : Tok), K.lookup cda = some o ∧ o.data = .fields vs ∧ vs[2]? = some (.str file tf) ∧ ((prog.main.file : Str) == file) = true) ∧
    ∃ o : Obj, K.lookup cc = some o ∧ o.data = .cell (some (.ref C))
section
variable {prog : Program} {w : World} {A : Around} {E : Value → Shared → Prop} {s : Shared} {K : Frag} {mg mb : Str → Option Value} {C : Addr} {xn : Str} {B newId initId : String} {bmB : List Value} {h₀ : Heap} {L : Addr} {m : Str → Option Value} {news : List (Addr × Obj)}
theorem sup_node {body : List Stmt} {q : Str} {p0 p1 : Pos} {attr : Str} {whole : Sem Value} {fd : FuncData} {f cda cc x : Addr} {of oc2 oc3 ox : Obj} {odx : Option Obj} {ar : Arg} {vs : Array Value} {file : Str} {tf : Tok} {cd : ClassData} {Q : Value → Shared → Prop}
    (F : Fr h₀ L s.heap m) (X₀ : K.In h₀) (N : News h₀ L s.heap news) (Tg : h₀.Ns mainGlobals mg) (Tb : h₀.Ns builtinsNs mb) (Tm : ∀ y : Str, y ≠ "__name__" → mb y = bootBuiltins y)
    (hf : K.lookup f = some of) (hfd : of.data = .func fd) (hp : (fd.params.posonlyargs ++ fd.params.args).head? = some ar) (hv : m ar.arg = some (.ref x)) (I : InstAt s.heap x ox C odx)
    (hcode : K.lookup cda = some oc2) (hcd : oc2.data = .fields vs) (hvs : vs[2]? = some (.str file tf)) (hfile : ((prog.main.file : Str) == file) = true)
    (hcell : K.lookup cc = some oc3) (hc3 : oc3.data = .cell (some (.ref C))) (hD : clsIn K C = some cd) (hsub : mroIn K C (.ref C) = some true) (hsuper : nsIn K mainGlobals "super" = some none)
    (hat : (attr == ("__class__" : Str)) = false) (hka : xS.names.lookup ar.arg = some .local) (htop : (prog.main.scope.names.lookup ("super" : Str)).isSome = false)
    (h : ∀ so h', Fr h₀ L h' m → News h₀ L h' ((so, ks_superObj C x C) :: news) → (∀ p ∈ news, p.1 < so) → Q (.ref so) { s with heap := h' }) :
    _root_.PySem.wpAt (model prog w) A (.func body (ksEnv q xS L f (.ref cda) cc)) (attributeBase (.Call (.Name "super" p0) [] [] p1) attr (ksEnv q xS L f (.ref cda) cc) whole) Q E s := by
  have X : K.In s.heap := X₀.keeps F.keep
  obtain ⟨hh, g, d, t, os⟩ := s
  obtain ⟨oD, hD1, hD2⟩ : ∃ oD, hh.get? C = some oD ∧ oD.data = .cls cd := by
    unfold clsIn at hD
    split at hD
    · rename_i c d cd' sl ho
      cases hD
      exact ⟨_, X _ _ ho, rfl⟩
    · cases hD
  refine ks_wpAt_super_base (env := ksEnv q xS L f (.ref cda) cc) (by rfl) (by rfl) hat rfl (X _ _ hf) hfd hp rfl (X _ _ hcode) hcd hvs hfile htop ?_
  refine ks_loadName_global (by rfl) (by rfl) (loadGlobal_builtin (env := ksEnv q xS L f (.ref cda) cc) (Tg.keeps F.keep) (mg_none_of X₀ Tg hsuper) (Tb.keeps F.keep) ((Tm _ (by decide +kernel)).trans (by decide +kernel)) ⟨rfl, ?_⟩)
  refine wpAny_loadName_free (by rfl) (by rfl) rfl ⟨_, X _ _ hcell, hc3⟩ ?_
  refine wpAny_loadName_local (by rfl) hka F.ns hv ?_
  refine ks_wpAny_isType_cls hD1 hD2 ⟨rfl, ?_⟩
  refine ks_wpAny_call_super hD1 hD2 I.at_ I.cls (fun c e => ?_) (looks_mroIn X hsub) (fun h' e k => ?_)
  · have := I.no
    unfold notCls at this
    rw [e] at this
    exact Bool.noConfusion this
  · obtain ⟨F', N', l'⟩ := ks_newsPush (s := ⟨hh, g, d, t, os⟩) F N rfl e k
    exact h _ _ F' N' l'
/-- __init__ of a fresh exception at x -/
theorem sup_init (T : ExTxt prog K mg xn C B newId initId bmB) {fI x t0 : Addr} {R : Result → Shared → Prop} (hfI : findIn K (.ref C) "__init__" = some (some (.ref fI))) (X : K.In s.heap) (hlim : s.heap.NoLimit) (Tg : s.heap.Ns mainGlobals mg) (Tb : s.heap.Ns builtinsNs mb) (Tm : ∀ y : Str, y ≠ "__name__" → mb y = bootBuiltins y)
    (hx : s.heap.get? x = some (excObj C t0 none .none)) (hnx : K.lookup x = none) (hng : x ≠ mainGlobals) (hnb : x ≠ builtinsNs) (hroom : A.depth < recursionLimit)
    (hq : ∀ h' tk t1, (∀ b o, b ≠ x → s.heap.get? b = some o → h'.get? b = some o) → h'.get? x = some (excObj C t1 none .none) → R (.ok (.ret .none)) { s with heap := h', toks := tk }) :
    codeAny (model prog w) A (.call (.ref fI) ⟨[.ref x], []⟩) R s := by
  obtain ⟨fI', cda, cc, oc, od, qual, kV, doc, pm, an, ct, osl, q0, p0, p1, p2, p3, p4, e1, e2, lk, hcd, ⟨pl, he⟩, ⟨o2, vs, file, tf, k1, k2, k3, k4⟩, o3, c1, c2⟩ := T.fn
  rw [hfI] at e1
  cases e1
  obtain ⟨cd, hcls⟩ := T.cls
  refine ks_codeAny_call_defAt (fd := ksFn "__init__" qual (xA q0) (xB p0 p1 p2 p3 p4) xS .none kV doc pm an (.ref cda) ct cc) (body := xB p0 p1 p2 p3 p4) (binds := [("self", .ref x)]) hroom (X _ _ lk) rfl hlim (codeRec_of X hcd) rfl (BindsTo.of_eq (by first | rfl | with_unfolding_all rfl)) (show ∀ x ∈ xS.names, x.2 ≠ .cell by decide) (fun y hy => by simp at hy; subst hy; rfl) (fun h₁ hns hk₁ => ?_) rfl rfl rfl
  -- the ground: all but the exception
  generalize hG : hideAll s.heap [x] = G
  have kG : ∀ b o, G.get? b = some o → s.heap.get? b = some o := fun b o e => by rw [← hG] at e; exact of_hideAll _ e
  have XG : K.In G := fun b o e => by
    rw [← hG]
    exact hideAll_get [x] (X b o e) (fun z => by simp at z; rw [z, hnx] at e; cases e)
  have nsG : ∀ {a : Addr} {f : Str → Option Value}, a ≠ x → s.heap.Ns a f → G.Ns a f := fun {a f} ne h => by
    obtain ⟨o, es, ep, ho, r⟩ := h
    refine ⟨o, es, ep, ?_, r⟩
    rw [← hG]
    exact hideAll_get [x] ho (fun z => by simp at z; exact ne z)
  have gx : G.get? x = none := by rw [← hG]; exact hideAll_none _ (by simp)
  have sz : G.objs.size = s.heap.objs.size := by rw [← hG]; exact hideAll_size _ _
  have F0 : Fr G s.heap.objs.size h₁ (fun y => [(("self" : Str), Value.ref x)].reverse.lookup y) := ⟨hns, fun b o e => hk₁ b o (kG b o e), Nat.le_of_eq sz⟩
  have N0 : News G s.heap.objs.size h₁ [(x, excObj C t0 none .none)] := fun p hp => by
    simp at hp
    subst hp
    exact ⟨hk₁ _ _ hx, Nat.ne_of_lt (Heap.lt_size hx), gx⟩
  refine ks_wpAt_execs_cons (ks_wpAt_Expr_any (ks_wpAt_MethodCall (sup_node (cd := cd) F0 XG N0 (nsG hng.symm Tg) (nsG hnb.symm Tb) Tm lk rfl rfl rfl (InstAt.of_exc0 (t := t0) (c2 := .none) N0 (by simp)) k1 k2 k3 k4 c1 c2 hcls T.mro T.noS (by decide) (by rfl) T.main fun so h2 F2 N2 l2 => ?_) (he _)))
  refine kxs_method (x := x) (so := so) (C := C) (D := C) T.kxs F2 XG N2 List.mem_cons_self (InstAt.of_exc0 (t := t0) (c2 := .none) N2 (.tail _ List.mem_cons_self)) T.noT T.sup T.subB (by decide) fun u h3 F3 N3 l3 => ?_
  refine kxs_callWith0 (i := initId) (x := x) N3 List.mem_cons_self ?_
  have nsox : so ≠ x := fun z => by have := l2 (x, excObj C t0 none .none) (by simp); rw [z] at this; exact absurd this (Nat.lt_irrefl _)
  have nux : u ≠ x := fun z => by have := l3 (x, excObj C t0 none .none) (by simp); rw [z] at this; exact absurd this (Nat.lt_irrefl _)
  refine kxs_call (t := t0) (dv := none) (c2 := .none) F3 XG N3 T.base T.ini (List.mem_cons_self) (.tail nux (.tail nsox (.head (by simp)))) (by rw [sizeLine_eq]; decide) fun t' h4 F4 N4 l4 => ?_
  refine wpAt_of_wpAny (wpAny_execs_nil ?_)
  refine hq h4 _ t' (fun b o hb e => ?_) (N4 (x, excObj C t' none .none) (by simp)).1
  exact F4.keep b o (by rw [← hG]; exact hideAll_get [x] e (fun z => by simp at z; exact hb z))
end
section
variable {X : Cx} {C : Addr} {x : Str} {B newId initId : String} {bmB : List Value}
/-- x() -/
theorem mk_sup {k : Nat} {p pos : Pos} (T : ExTxt X.prog X.K X.mg x C B newId initId bmB) (hr : Room k X.A) (hg : Gl X x) (hdb : (x == ("__debug__" : Str)) = false := by decide) : PMk X (.Call (.Name x p) [] [] pos) (fun _ H Q => Q (.ref C) none H) := by
  intro pins s σ H Q I h
  refine wpAny_Call_Name_kw (ld_glob I hg T.gC ?_ hdb)
  refine callWith_K0 I.kIn T.kC ?_
  show wpAny _ _ (call (.ref C) []) _ _ _
  obtain ⟨fI, cda, cc, oc, od, qual, kV, doc, pm, an, ct, osl, q0, p0, p1, p2, p3, p4, e1, e2, lk, _⟩ := T.fn
  obtain ⟨nm, N', qn, bs, bm, hdct, sn, sub, ab, col, dd, k0, k1, k2, k3, k5, hC, hT⟩ := excInit_of I.kIn T.ini
  obtain ⟨oI, hoI, hcI⟩ : ∃ oI, s.heap.get? fI = some oI ∧ oI.cls = .type "function" := by
    obtain ⟨o, ho, hc⟩ := Option.map_eq_some_iff.mp (show (X.K.lookup fI).map (·.cls) = some (.type "function") from beq_iff_eq.mp e2)
    exact ⟨o, I.kIn _ _ ho, hc⟩
  have hi' : Looks (model X.prog X.w) s.heap (typeLookup (.ref C) "__init__") (some (.ref fI)) := looks_findIn I.kIn e1
  have hlim := I.nolimit
  obtain ⟨mb, hb1, hb2⟩ := I.mod.blt
  have glob : s.heap.Ns mainGlobals X.mg := I.mod.glob.keeps I.bk
  have blt : s.heap.Ns builtinsNs mb := hb1.keeps I.bk
  obtain ⟨hp, g, d, tk, os⟩ := s
  have kk : ∀ b o, hp.get? b = some o → ((hp.push (kdv_tup [])).push (HandSPX.excO C hp.objs.size)).get? b = some o := fun b o e => Heap.get?_push_of_some _ (Heap.get?_push_of_some _ e)
  have hget : ((hp.push (kdv_tup [])).push (HandSPX.excO C hp.objs.size)).get? (hp.objs.size + 1) = some (HandSPX.excO C hp.objs.size) := by heap_get
  have ltK : ∀ b o, hp.get? b = some o → b ≠ hp.objs.size + 1 := fun b o e z => absurd (Heap.lt_size e) (by rw [z]; exact Nat.not_lt.mpr (Nat.le_succ _))
  have hnx : X.K.lookup (hp.objs.size + 1) = none := by
    cases e : X.K.lookup (hp.objs.size + 1) with
    | none => rfl
    | some o => exact absurd rfl (ltK _ _ (I.kIn _ _ e))
  refine wpAny_call (HandSPX.call_own T.base hT hC hi' (fun self => exc_bind hoI hcI self) (by rw [sizeLine_eq]; decide) ?_)
  refine sup_init (mb := mb) (t0 := hp.objs.size) T e1 (Frag.In.keeps I.kIn kk) (hlim.keeps kk) (glob.keeps kk) (blt.keeps kk) hb2 hget hnx ?_ ?_ ?_ fun h' tk' t1 k' hx => ?_
  · obtain ⟨o, es, ep, ho, _⟩ := glob
    exact (ltK _ _ ho).symm
  · obtain ⟨o, es, ep, ho, _⟩ := blt
    exact (ltK _ _ ho).symm
  · have := hr.dp
    rw [make_depth]
    omega
  · refine ⟨rfl, ?_⟩
    have ne : hp.get? (hp.objs.size + 1) = none := Heap.get?_none_of_le (Nat.le_succ _)
    exact ⟨_, _, _, ⟨hp, g, d, tk, os⟩, H, .ref C, none, rfl, I, fun b o e => k' b o (ltK b o e) (kk b o e), ne, hx, ⟨rfl, rfl⟩, rfl, rfl, I.hok.gone ne, rfl, I.bare, raises_own T.exC T.tyC, h⟩
end
/-! ### raise, try -/
def sRaise (x : Str) : DS := fun e m => .exc ⟨x, none⟩ e m
section
variable {X : Cx} {W : WX} {C : Addr} {x : Str} {B newId initId : String} {bmB : List Value} {p pos pos2 : Pos} {k : Nat}
theorem ts_raise0 (hc : X.calm = true) (tk : Takes X W) (T : ExTxt X.prog X.K X.mg x C B newId initId bmB) (hr : Room k X.A) (hg : Gl X x := by rfl) (hdb : (x == ("__debug__" : Str)) = false := by decide) :
    PS X (.Raise (some (.Call (.Name x p) [] [] pos)) none pos2) (tS X.K X.mg W (sRaise x)) :=
  weakS (ps_raise hc tk (mk_sup T hr hg hdb)) fun Dn σ H h => by
    obtain ⟨S, A, e, m, eo, mo, h⟩ := h
    exact h σ (.ref C) none S H A Ext.rfl mo eo ⟨C, T.gC, rfl, fun i z => by cases z⟩
end
/-- the exceptions' classes in ks: each is caught by its own name alone -/
def Exm (K : PySem.W.Frag) (mg : Str → Option Value) (ks : List Str) : Prop := ∀ x ∈ ks, ∀ y ∈ ks, ∀ C D : Addr, mg x = some (.ref C) → mg y = some (.ref D) → exmOne K (.ref C) (.ref D) = some (decide (x = y))
def RS.calm (r : RS) : RS := match r with
  | .exc _ _ _ => .bad
  | r => r
def catch_ (x : Ex) (e : En) (m : Mem) : List (Str × DS) → RS
  | [] => .exc x e m
  | (y, s) :: r => if x.name = y then (s e m).calm else catch_ x e m r
def sTry (ks : List Str) (body : DS) (cl : List (Str × DS)) : DS := fun e m => match body e m with
  | .exc x e' m' => if x.name ∈ ks ∧ (∀ c ∈ cl, c.1 ∈ ks) then catch_ x e' m' cl else .bad
  | r => r
inductive Hds (X : Cx) : List ExceptHandler → List (Str × DS) → Prop
  | nil : Hds X [] []
  | cons {y : Str} {C : Addr} {s : DS} {b₀ : Stmt} {suite : List Stmt} {np pos' : Pos} {hds : List ExceptHandler} {cl : List (Str × DS)} (hn : Names X y (.ref C)) (hm : X.mg y = some (.ref C))
      (hsu : ∀ (a : Addr) (oe : Obj) (cls : Value) (d : Option Addr) (pn : List (Addr × Obj)), Zc cls d oe → (∃ vs, oe.data = .fields vs) → PSs (X.suite a ((a, oe) :: pn)) (b₀ :: suite) (tS X.K X.mg never s)) (r : Hds X hds cl) :
      Hds X (.ExceptHandler (some (.Name y np)) none (b₀ :: suite) pos' :: hds) ((y, s) :: cl)
theorem okS_calm {K : PySem.W.Frag} {mg : Str → Option Value} {W W' : WX} {S H : Hp} {A : List Addr} {Dn : Ends} {r : RS} (h : okS K mg W S H A Dn r.calm) : okS K mg W' S H A Dn r := by
  cases r with
  | exc x e m => exact False.elim h
  | _ => exact h
theorem hds_use {X : Cx} {ks : List Str} (hk : Exm X.K X.mg ks) : ∀ {hds : List ExceptHandler} {cl : List (Str × DS)}, Hds X hds cl → (∀ c ∈ cl, c.1 ∈ ks) → ∃ l, HdsOk X hds l ∧ ∀ {W : WX} {Dn : Ends} {x : Ex} {e : En} {m : Mem} {S H : Hp} {A : List Addr} {σ : L2.St} {cls : Value} {dd : Option Addr}, x.name ∈ ks → MOk X.K S H A m → EOk X.K S A σ e → ExR X.mg x cls dd H →
    okS X.K X.mg W S H A Dn (catch_ x e m cl) → wMany X.K W Dn l cls dd σ H
  | _, _, .nil, _ => ⟨[], .nil, fun {W Dn x e m S H A σ cls dd} _ mo eo er h => h σ cls dd S H A Ext.rfl mo eo er⟩
  | _, _, .cons (y := y) (C := D) (s := s) hn hm hsu r, hc => by
    obtain ⟨l, hl, k⟩ := hds_use hk r fun c h => hc c (List.mem_cons_of_mem _ h)
    refine ⟨(.ref D, fun _ _ _ => tS X.K X.mg never s) :: l, .cons hn (fun a oe cls d pn h1 h2 => hsu a oe cls d pn h1 h2) hl, fun {W Dn x e m S H A σ cls dd} hx mo eo er h => ?_⟩
    obtain ⟨C, gC, rfl, _⟩ := id er
    refine ⟨decide (x.name = y), hk _ hx _ (hc _ List.mem_cons_self) C D gC hm, fun hb a ha => ?_, fun hb => ?_⟩
    · have e1 : x.name = y := of_decide_eq_true hb
      unfold catch_ at h
      rw [if_pos e1] at h
      exact ⟨S, A, e, m, eo, mo, okS_calm h⟩
    · have e1 : ¬ x.name = y := of_decide_eq_false hb
      unfold catch_ at h
      rw [if_neg e1] at h
      exact k hx mo eo er h
section
variable {X : Cx} {W : WX} {body : List Stmt} {h₀ : ExceptHandler} {hds : List ExceptHandler} {cl : List (Str × DS)} {pos : Pos} {ds : DS} {ks : List Str}
theorem ts_try (hs : X.stack = X.env :: X.outer) (hf : X.env.frame = some X.env.locals) (tk : Takes X W) (hk : Exm X.K X.mg ks)
    (hb : ∀ (W' : WX) (pn : List (Addr × Obj)) (xe : Value → Shared → Prop), Takes (X.tr pn xe) W' → PassesOwn (model X.prog X.w) X.A X.env xe → PSs (X.tr pn xe) body (tS X.K X.mg W' ds)) (hh : Hds X (h₀ :: hds) cl) (hc : (cl.all fun c => decide (c.1 ∈ ks)) = true) :
    PS X (.Try body (h₀ :: hds) [] [] pos) (tS X.K X.mg W (sTry ks ds cl)) := by
  have hc' : ∀ c ∈ cl, c.1 ∈ ks := fun c h => of_decide_eq_true (List.all_eq_true.mp hc c h)
  obtain ⟨l, hl, k⟩ := hds_use hk hh hc'
  refine weakS (ps_try_many (tb := fun W' => tS X.K X.mg W' ds) hs hf tk hb hl) fun Dn σ H h => ?_
  obtain ⟨S, A, e, m, eo, mo, h⟩ := h
  refine ⟨S, A, e, m, eo, mo, ?_⟩
  have h : okS X.K X.mg W S H A Dn (match ds e m with
    | .exc x e' m' => if x.name ∈ ks ∧ (∀ c ∈ cl, c.1 ∈ ks) then catch_ x e' m' cl else .bad
    | r => r) := h
  cases hd : ds e m with
  | exc x e' m' =>
    rw [hd] at h
    have h : okS X.K X.mg W S H A Dn (if x.name ∈ ks ∧ (∀ c ∈ cl, c.1 ∈ ks) then catch_ x e' m' cl else .bad) := h
    by_cases hx : x.name ∈ ks ∧ (∀ c ∈ cl, c.1 ∈ ks)
    · rw [if_pos hx] at h
      exact fun σ' cls dd S' H' A' xx o eo' er => k hx.1 o eo' er (okS_ext xx h)
    · rw [if_neg hx] at h; exact False.elim h
  | next e' m' => rw [hd] at h; exact h
  | ret u m' => rw [hd] at h; exact h
  | brk e' m' => rw [hd] at h; exact h
  | cont e' m' => rw [hd] at h; exact h
  | bad => rw [hd] at h; exact h
end
end Tw

/-! the head: what the top leaves, read by one Hook -/
namespace Tw
open PySem PySem.Spec PyProof.Rows L2 He
/-- an exception's class: its name, the built-in under it, its __init__'s places -/
structure ExD where
  name : Str
  B : String
  newId : String
  initId : String
  bmB : List Value
  qual : Str
  q0 : Pos
  p0 : Pos
  p1 : Pos
  p2 : Pos
  p3 : Pos
  p4 : Pos
abbrev FnI : Type := Option (Str × Str × Arguments × FuncBody × Scope × Addr × Addr)
def exI (K : PySem.W.Frag) (x : Str) : Addr := ma K (ga K x) "__init__"
def fnI (K : PySem.W.Frag) (x : Str) : FnI := match K.lookup (exI K x) with
  | some ⟨_, _, .func fd, _⟩ => some (fd.name, fd.qualname, fd.params, fd.body, fd.scope, fd.globals, fd.builtins)
  | _ => none
def ExD.val (d : ExD) : FnI := some ("__init__", d.qual, xA d.q0, .stmts (xB d.p0 d.p1 d.p2 d.p3 d.p4), xS, mainGlobals, builtinsNs)
def exFd (file : Str) (K : PySem.W.Frag) (C : Addr) (qual : Str) (fd : FuncData) : Bool :=
  PySem.W.codeIn K fd.code qual && ((match fd.code with
    | .ref cda => (match K.lookup cda with
      | some ⟨_, _, .fields vs, _⟩ => (match (vs[2]? : Option Value) with
        | some (Value.str fl _) => file == fl
        | _ => false)
      | _ => false)
    | _ => false) && ((match fd.closure with
    | [(n, cc)] => decide (n = "__class__") && (match K.lookup cc with
      | some ⟨_, _, .cell (some (.ref D)), _⟩ => decide (D = C)
      | _ => false)
    | _ => false) && (match fd.defaults with
    | .none => true
    | _ => false)))
def ExD.ok (file : Str) (K : PySem.W.Frag) (d : ExD) : Bool :=
  eqO (PySem.W.nsIn K mainGlobals d.name) (some (some (.ref (ga K d.name)))) && (PySem.W.keepIn K (.ref (ga K d.name)) && (PySem.W.excInitIn K (ga K d.name) d.bmB d.newId && (decide (PySem.W.subIn K (.ref (ga K d.name)) (.type "BaseException") = some true) &&
  (decide (PySem.W.typeIn K (.ref (ga K d.name)) = some (.type "type")) && (decide (PySem.W.subIn K (.ref (ga K d.name)) (.type d.B) = some true) && ((PySem.W.clsIn K (ga K d.name)).isSome && (decide (PySem.W.mroIn K (ga K d.name) (.ref (ga K d.name)) = some true) &&
  (eqO (PySem.W.ks_superIn K (ga K d.name) (ga K d.name) "__init__") (some (some (.builtin d.initId))) && (eqO (PySem.W.findIn K (.ref (ga K d.name)) "__init__") (some (some (.ref (exI K d.name)))) && (PySem.W.isFn K (.ref (exI K d.name)) && (match K.lookup (exI K d.name) with
    | some ⟨_, _, .func fd, _⟩ => exFd file K (ga K d.name) d.qual fd
    | _ => false)))))))))))
/-- what the head is to find -/
structure HdD where
  fa : List Fa
  tups : List (Str × List Dv)
  fn : List DefD
  xs : List ExD
  file : Str
def exmB (K : PySem.W.Frag) (ns : List Str) : Bool := ns.all fun x => ns.all fun y => decide (PySem.W.exmOne K (.ref (ga K x)) (.ref (ga K y)) = some (decide (x = y)))
abbrev AlT : Type := Bool × List FnW × List FnI
def HdD.obs (hd : HdD) (K : PySem.W.Frag) : AlT :=
  ((hd.fa.all fun f => f.ok K) && ((hd.fn.all fun d => d.ok K) && ((hd.tups.all fun p => tupB K p.1 p.2) && ((hd.xs.all fun d => d.ok hd.file K) && (exmB K (hd.xs.map (·.name)) && (eqO (PySem.W.nsIn K mainGlobals "super") (some none) && eqO (PySem.W.nsIn K cStatics "thirdparty.any") (some none)))))),
    hd.fn.map fun d => fnW K d.at_, hd.xs.map fun d => fnI K d.name)
def HdD.val (hd : HdD) : AlT := (true, hd.fn.map DefD.val, hd.xs.map ExD.val)
def HdD.Says (hd : HdD) (K : PySem.W.Frag) : Prop := hd.obs K = hd.val
def asT (g : Addr → Option Obj) : Nat → List Addr
  | 0 => [mainGlobals, cStatics]
  | n + 1 => growD g (asT g n)
def HdD.obsG (hd : HdD) (n : Nat) (g : Addr → Option Obj) : AlT := hd.obs (frG g (asT g n))
def HdD.hook (hd : HdD) (n : Nat) : PySem.W.Hook where
  α := AlT
  obs := fun s => hd.obsG n s.heap.get?
  val := fun _ => hd.val
  says := fun _ h => ∃ K : PySem.W.Frag, K.In h ∧ hd.Says K
  of := fun _ _ e => ⟨_, frG_in, e⟩
  keeps := fun _ _ _ ⟨K, hK, c⟩ k => ⟨K, PySem.W.Frag.In.keeps hK k, c⟩
theorem HdD.obsG_eq {hd : HdD} {n : Nat} {g : Addr → Option Obj} {s : Shared} (h : ∀ a, g a = s.heap.get? a) : hd.obsG n g = (hd.hook n).obs s := by
  have e : g = s.heap.get? := funext h
  rw [e] <;> rfl
section
variable {hd : HdD} {K : PySem.W.Frag}
theorem Says.parts (c : hd.Says K) : (∀ f ∈ hd.fa, f.ok K = true) ∧ (∀ d ∈ hd.fn, d.ok K = true) ∧ (∀ p ∈ hd.tups, tupB K p.1 p.2 = true) ∧ (∀ d ∈ hd.xs, d.ok hd.file K = true) ∧ exmB K (hd.xs.map (·.name)) = true ∧ PySem.W.nsIn K mainGlobals "super" = some none ∧ PySem.W.nsIn K cStatics "thirdparty.any" = some none := by
  have c1 : (hd.obs K).1 = true := congrArg (fun z : AlT => z.1) c
  unfold HdD.obs at c1
  obtain ⟨h1, c2⟩ := ba c1
  obtain ⟨h2, c3⟩ := ba c2
  obtain ⟨h3, c4⟩ := ba c3
  obtain ⟨h4, c5⟩ := ba c4
  obtain ⟨h5, c6⟩ := ba c5
  obtain ⟨h6, h7⟩ := ba c6
  exact ⟨List.all_eq_true.mp h1, List.all_eq_true.mp h2, List.all_eq_true.mp h3, List.all_eq_true.mp h4, h5, eqO_ok h6, eqO_ok h7⟩
theorem Says.fact (c : hd.Says K) (i : Nat) {f : Fa} (h : hd.fa[i]? = some f := by rfl) : f.ok K = true := (Says.parts c).1 f (List.mem_of_getElem? h)
theorem Says.def_ (c : hd.Says K) (i : Nat) {d : DefD} (h : hd.fn[i]? = some d := by rfl) : ∃ fd, FunD K d.name d.qual d.params d.body d.scope (d.dvs K) (d.kws K) (fAd K d.at_) fd := by
  have e : hd.fn.map (fun d => fnW K d.at_) = hd.fn.map DefD.val := congrArg (fun z : AlT => z.2.1) c
  have e2 : (hd.fn.map fun d => fnW K d.at_)[i]? = (hd.fn.map DefD.val)[i]? := by rw [e]
  rw [List.getElem?_map, List.getElem?_map, h] at e2
  exact DefD.funD (Option.some.inj e2) ((Says.parts c).2.1 d (List.mem_of_getElem? h))
theorem Says.tup (c : hd.Says K) (i : Nat) {x : Str} {vs : List Dv} (h : hd.tups[i]? = some (x, vs) := by rfl) (S : Hp) : Tup K S (ga K x) (vs.map (Dv.v K)) := by
  have t := (Says.parts c).2.2.1 _ (List.mem_of_getElem? h)
  rcases tupB_ok t (fun _ => none) with (q | ⟨o, q⟩) | q
  · cases q
  · cases q
  · exact .inr q
end
/-- what a def's proof leans on -/
structure Fx (hd : HdD) (P : Program) (K : PySem.W.Frag) (mg : Str → Option Value) (base : Heap) : Prop where
  X : K.In base
  G : base.Ns mainGlobals mg
  c : hd.Says K
  file : (P.main.file : Str) = hd.file
  main : (P.main.scope.names.lookup ("super" : Str)).isSome = false
section
variable {hd : HdD} {P : Program} {w : World} {K : PySem.W.Frag} {mg : Str → Option Value} {base : Heap}
theorem Fx.free (Z : Fx hd P K mg base) (i : Nat) {x : Str} (h : hd.fa[i]? = some (.free x) := by rfl) : mg x = none := free_ok Z.X Z.G (Says.fact Z.c i h)
theorem Fx.glo (Z : Fx hd P K mg base) (i : Nat) {x : Str} (h : hd.fa[i]? = some (.glo x) := by rfl) : mg x = some (.ref (ga K x)) := glo_ok Z.X Z.G (Says.fact Z.c i h)
theorem Fx.int (Z : Fx hd P K mg base) (i : Nat) {x : Str} {n : Int} (h : hd.fa[i]? = some (.int x n) := by rfl) : ∃ t, mg x = some (.int n t) := int_ok Z.X Z.G (Says.fact Z.c i h)
theorem Fx.exc (Z : Fx hd P K mg base) (i : Nat) {d : ExD} (h : hd.xs[i]? = some d := by rfl) (sc : SupCall d.p0 d.p1 d.p2 d.p3) (base' : PySem.ExcBaseFacts d.B d.newId d.initId d.bmB) (kx : PySem.W.KxsFacts d.B d.initId) :
    ExTxt P K mg d.name (ga K d.name) d.B d.newId d.initId d.bmB := by
  obtain ⟨_, _, _, h4, _, hs, ht⟩ := Says.parts Z.c
  have ok := h4 d (List.mem_of_getElem? h)
  have e : hd.xs.map (fun d => fnI K d.name) = hd.xs.map ExD.val := congrArg (fun z : AlT => z.2.2) Z.c
  have e2 : (hd.xs.map fun d => fnI K d.name)[i]? = (hd.xs.map ExD.val)[i]? := by rw [e]
  rw [List.getElem?_map, List.getElem?_map, h] at e2
  have e3 : fnI K d.name = d.val := Option.some.inj e2
  obtain ⟨a1, c⟩ := ba ok
  obtain ⟨a2, c⟩ := ba c
  obtain ⟨a3, c⟩ := ba c
  obtain ⟨a4, c⟩ := ba c
  obtain ⟨a5, c⟩ := ba c
  obtain ⟨a6, c⟩ := ba c
  obtain ⟨a7, c⟩ := ba c
  obtain ⟨a8, c⟩ := ba c
  obtain ⟨a9, c⟩ := ba c
  obtain ⟨a10, c⟩ := ba c
  obtain ⟨a11, c⟩ := ba c
  refine ⟨base', kx, PySem.W.mg_of Z.X Z.G (eqO_ok a1), a2, a3, of_decide_eq_true a4, of_decide_eq_true a5, of_decide_eq_true a6, Option.isSome_iff_exists.mp a7, of_decide_eq_true a8, eqO_ok a9, hs, ht, Z.main, ?_⟩
  unfold fnI at e3
  cases q : K.lookup (exI K d.name) with
  | none => rw [q] at c; cases c
  | some o =>
    obtain ⟨oc, od, dt, osl⟩ := o
    rw [q] at c e3
    cases dt with
    | func fd =>
      obtain ⟨n1, n2, n3, n4, n5, n6, n7, n8, n9, n10, n11, n12, n13, n14, n15⟩ := fd
      have e4 : (some (n1, n2, n3, n4, n5, n6, n15) : FnI) = (some (("__init__" : Str), d.qual, xA d.q0, .stmts (xB d.p0 d.p1 d.p2 d.p3 d.p4), xS, mainGlobals, builtinsNs) : FnI) := e3
      simp only [Option.some.injEq, Prod.mk.injEq] at e4
      obtain ⟨h1, h2, h3, h4, h5, h6, h7⟩ := e4
      subst h1 h2 h3 h4 h5 h6 h7
      have c2 : exFd hd.file K (ga K d.name) d.qual ⟨_, _, _, _, _, _, n7, n8, n9, n10, n11, n12, n13, n14, _⟩ = true := c
      unfold exFd at c2
      obtain ⟨b1, c2⟩ := ba c2
      obtain ⟨b2, c2⟩ := ba c2
      obtain ⟨b3, b4⟩ := ba c2
      cases n8 with
      | none =>
        cases n13 with
        | ref cda =>
          cases q2 : K.lookup cda with
          | none => simp only [q2] at b2; cases b2
          | some o2 =>
            obtain ⟨oc2, od2, dt2, osl2⟩ := o2
            cases dt2 with
            | fields vs =>
              simp only [q2] at b2
              cases q3 : vs[2]? with
              | none => rw [q3] at b2; cases b2
              | some v2 =>
                cases v2 with
                | str fl tf =>
                  rw [q3] at b2
                  match n7, b3, q with
                  | [(n, cc)], b3, q =>
                    obtain ⟨b5, b6⟩ := ba b3
                    have en : n = "__class__" := of_decide_eq_true b5
                    subst en
                    cases q4 : K.lookup cc with
                    | none => simp only [q4] at b6; cases b6
                    | some o3 =>
                      obtain ⟨oc3, od3, dt3, osl3⟩ := o3
                      cases dt3 with
                      | cell cv =>
                        cases cv with
                        | none => simp only [q4] at b6; cases b6
                        | some cv =>
                          cases cv with
                          | ref D2 =>
                            simp only [q4] at b6
                            have ed : D2 = ga K d.name := of_decide_eq_true b6
                            subst ed
                            exact ⟨_, cda, cc, oc, od, d.qual, n9, n10, n11, n12, n14, osl, d.q0, d.p0, d.p1, d.p2, d.p3, d.p4, eqO_ok a10, a11, q, b1, sc, ⟨_, vs, fl, tf, q2, rfl, q3, by rw [Z.file]; exact b2⟩, _, q4, rfl⟩
                          | _ => simp only [q4] at b6; cases b6
                      | _ => simp only [q4] at b6; cases b6
                | _ => rw [q3] at b2; cases b2
            | _ => simp only [q2] at b2; cases b2
        | _ => cases b2
      | _ => cases b4
    | _ => cases c
theorem Fx.exm (Z : Fx hd P K mg base) {ks : List Str} (h : hd.xs.map (·.name) = ks) (hg : ∀ x ∈ ks, mg x = some (.ref (ga K x))) : Exm K mg ks := by
  obtain ⟨_, _, _, _, h5, _⟩ := Says.parts Z.c
  rw [h] at h5
  intro x hx y hy C D hC hD
  have := of_decide_eq_true (List.all_eq_true.mp (List.all_eq_true.mp h5 x hx) y hy)
  rw [hg x hx] at hC; cases hC
  rw [hg y hy] at hD; cases hD
  exact this
end
/-! ### a def, by its name -/
def Ok (P : Program) (w : World) (K : PySem.W.Frag) (mg : Str → Option Value) (base : Heap) (x : Str) (k : Nat) (ps : List Str) (φ : FN) : Prop :=
  ∃ fd, FnOk P w K mg base (L2.CX P w) k (ga K x) fd ps (spT K mg φ) ∧ Binds K fd ps [] ∧ mg x = some (.ref (ga K x)) ∧ PySem.W.keepIn K (.ref (ga K x)) = true
theorem Ok.mono {P : Program} {w : World} {K : PySem.W.Frag} {mg : Str → Option Value} {base : Heap} {x : Str} {j k : Nat} {ps : List Str} {φ : FN} (h : Ok P w K mg base x j ps φ) (l : j ≤ k) : Ok P w K mg base x k ps φ :=
  let ⟨fd, F, r⟩ := h; ⟨fd, F.mono l, r⟩
theorem Ok.eq {P : Program} {w : World} {K : PySem.W.Frag} {mg : Str → Option Value} {base : Heap} {x : Str} {k : Nat} {ps : List Str} {φ ψ : FN} (h : Ok P w K mg base x k ps φ) (e : φ = ψ) : Ok P w K mg base x k ps ψ := e ▸ h
section
variable {hd : HdD} {P : Program} {w : World} {K : PySem.W.Frag} {mg : Str → Option Value} {base : Heap}
theorem Fx.ok (Z : Fx hd P K mg base) (i j : Nat) {d : DefD} {x : Str} {N ps : List Str} {k : Nat} {b : DS} (Sc : FnScope N ps d.scope)
    (hb : ∀ (cdv : Value) (A : Around) (outer : List Env) (s : Shared) (H : Hp) (E : XK), Room k (A.deeper (envOfC d.qual d.scope s.heap.objs.size (ga K x) cdv)) →
      PSs (cxOf (L2.CX P w) P w K mg base N d.qual d.scope (ga K x) cdv A outer s H E) d.body (tS K mg (fun cls dd _ H => E cls dd H) b))
    (bd : ∀ (kV doc pm : Value) (an : Option Addr) (cdv ct : Value) (us : List Value), us.length = ps.length → bindArgs (PySem.W.fnOf d.name d.qual d.params d.body d.scope Value.none kV doc pm an cdv ct) { pos := us } = pure (ps.zip us))
    (h : hd.fn[i]? = some d := by rfl) (hj : hd.fa[j]? = some (.glo x) := by rfl) (ha : d.at_ = (x, none) := by rfl) (h0 : d.dfl = [] := by rfl) : Ok P w K mg base x (k + 1) ps (fnD ps.length N.length b) := by
  obtain ⟨fd, F⟩ := Says.def_ Z.c i h
  have e : fAd K d.at_ = ga K x := by rw [ha] <;> rfl
  rw [e] at F
  have e0 : d.dvs K = [] := by unfold DefD.dvs; rw [h0]; rfl
  rw [e0] at F
  exact ⟨fd, fn_ok F Sc hb, FunD.bindsN F bd, Z.glo j hj, F.kp⟩
theorem tr_own {X : Cx} {W : WX} {k l : Nat} {ps : List Str} {φ : FN} {x : Str} {p pos : Pos} {e : Expr} {es : List Expr} {ds : DA} (F : Ok X.prog X.w X.K X.mg X.base x k ps φ) (hr : Room l X.A) (hl : k ≤ l) (tk : Takes X W) (ha : PA X (e :: es) (tA X.K X.mg W ds)) (hg : Gl X x := by rfl)
    (hdb : (x == ("__debug__" : Str)) = false := by decide) (he : starEach (e :: es) X.env = (false, eval e X.env) :: starEach es X.env := by rfl) (hpl : (backTo pos (starEach es X.env)).any (·.1) = false := by rfl) :
    PE X (.Call (.Name x p) (e :: es) [] pos) (tE X.K X.mg W (dCall φ ds)) := by
  obtain ⟨fd, F, hb, hm, hk⟩ := F
  exact tr_call F (hr.mono hl) hg hm hk hb tk ha hdb he hpl
end
/-! ### the end -/
theorem walk_end {l : PySem.W.OpenLaw} {k n : Nat} {q : Program} {loose : List Str} {XP : (Str → Option Value) → Heap → Prop} {YP : World → Heap → Prop} {d : DefRec} {x : Str} {φ : FN}
    (hn : l.most = some n) (hn2 : n ≤ sizeLine) (hdf : d.params.defaults = []) (hr : Room k callerA)
    (F : ∀ (w : World) (mg : Str → Option Value) (fa : Addr) (h : Heap), YP w h → h.Ns mainGlobals mg → mg d.name = some (.ref fa) → ∃ (K : PySem.W.Frag) (fd : FuncData), K.In h ∧ (∀ (s : Shared) (u : Value), BindsTo s fd ⟨[u], []⟩ [(x, u)]) ∧
      ∀ base : Heap, K.In base → base.Ns mainGlobals mg → FnOk l.prog w K mg base (L2.CX l.prog w) k fa fd [x] (spT K mg φ))
    (hφ : ∀ ns : List Int, ns.length ≤ n → ∃ m, φ [.p (.scr ns)] [] = .ok (.p (.bl true)) m) :
    PySem.W.WalkO q loose XP YP l.row.toRowW d [] (fun f vs => PySem.call f vs) := by
  refine Att.attach_call hn hdf fun w s₀ s₁ mg mb fa o pm cd doc a vs ns G Y ho hd hcd hmg hobj hints hlen hg => ?_
  obtain ⟨K, fd, KX, hb, hF⟩ := F w mg fa _ Y G.T.g hmg
  refine law_call KX G.T.g G.T.b G.T.builtins G.T.nolimit hg hobj hints (Nat.le_trans hlen hn2) hr hF hb (fun H hO hS => ?_) fun H e s' hX => ?_
  · obtain ⟨m, hm⟩ := hφ ns hlen
    refine ⟨H, [], _, [], .cons (.p (.scr hS)) .nil, ⟨List.nodup_nil, rfl, Le.rfl, fun _ z => (by cases z), fun k ts z => (by simp at z)⟩, ?_⟩
    rw [hm]
    intro v S' H' A' _ _ r
    cases r with
    | p r => cases r; rfl
  · obtain ⟨_, _, _, _, _, _, _, _, _, _, _, _, z⟩ := hX
    exact z
end Tw

/-! what the generator's texts lean on -/
namespace Tw
open PySem PySem.Spec PyProof.Rows L2 He
section
variable {X : Cx} {pos p : Pos} {W : WX} {a b : Expr} {da db : D}
theorem pr_nm (i : Nat) {x : Str} (hN : X.N.Nodup) (hi : X.N[i]? = some x := by rfl) (hx : Loc X.env.scope x := by first | exact .inl rfl | exact .inr rfl) (hf : X.fn x = true ∨ X.env.scope.names.lookup x = some .local := by first | exact .inl rfl | exact .inr rfl | assumption) : PG X (.Name x pos) ((Pt.nm i).raw X.K) := pg_name hN hi hx hf
theorem pr_nil : PGs X [] (Pt.raws X.K []) := pgs_nil
theorem pr_cons {e : Expr} {es : List Expr} {q : Pt} {ps : List Pt} (h1 : PG X e (q.raw X.K)) (h2 : PGs X es (Pt.raws X.K ps))
    (hs : (assignEach (e :: es) X.env).map (·.2) = assign e X.env :: (assignEach es X.env).map (·.2) := by rfl) : PGs X (e :: es) (Pt.raws X.K (q :: ps)) := pgs_cons h1 h2 hs
theorem pr_tp {es : List Expr} {k : Nat} {ps : List Pt} (hc : X.calm = true) (h : PGs X es (Pt.raws X.K ps)) (hn : (assignEach es X.env).length = ps.length := by rfl) (hst : (assignEach es X.env).findIdx? (·.1) = none := by rfl) :
    PG X (.Tuple es k pos) ((Pt.tp ps).raw X.K) := pg_tup hc h hn hst
theorem takesN : Takes X never := takes0
theorem u65 {k : Nat} {A : Around} (r : Room k A) : A.units + 65 < cLine := by have := r.un; omega
/-! ### zip -/
theorem yl_zipT {K : PySem.W.Frag} {S : Hp} {a b : Addr} {vs ws : List V} {ts us : List T} (hs : Tup K S a vs) (r : Reps K S vs ts) (hs2 : Tup K S b ws) (r2 : Reps K S ws us) : Yl K (RZ.ItzT K a b) S (zpT ts us) where
  go := fun i S' H A m l o hi => by
    rw [zpT_length] at hi
    obtain ⟨v, hv, _⟩ := r.get (List.getElem?_eq_getElem (i := i) (by omega))
    obtain ⟨w, hw, _⟩ := r2.get (List.getElem?_eq_getElem (i := i) (by omega))
    exact ⟨vs, ws, v, w, o.sub.sqT (l.tup hs), o.sub.sqT (l.tup hs2), hv, hw⟩
  yld := fun i S' H A m x H' l o hi y => by
    obtain ⟨p, z, z2, rfl, hp, rfl, y, y2⟩ := y
    obtain ⟨t, ht, rt⟩ := r.getV (y vs (o.sub.sqT (l.tup hs)))
    obtain ⟨t2, ht2, rt2⟩ := r2.getV (y2 ws (o.sub.sqT (l.tup hs2)))
    obtain ⟨S2, x2, o2, rr⟩ := pair_new o hp (rt.le l) (rt2.le l)
    exact ⟨S2, _, by rw [zpT_get, ht, ht2]; simp, x2, o2, rr⟩
  stop := fun i S' H A m l o hi => ⟨vs, ws, o.sub.sqT (l.tup hs), o.sub.sqT (l.tup hs2), by rw [r.length, r2.length]; rw [zpT_length] at hi; omega⟩
def lsOf : T → Option (List T)
  | .lst ts => some ts
  | .scr ns => some (ns.map T.int)
  | _ => none
def dZip (da db : D) : DI := fun e m => (da e m).bind fun u m1 => (db e m1).bind fun w m2 => match u, w with
  | .p (.tup ts), .p (.tup us) => .ok (zpT ts us) m2
  | .p x, .p y => match lsOf x, lsOf y with
    | some ts, some us => .ok (zpT ts us) m2
    | _, _ => .bad
  | _, _ => .bad
theorem rep_ls {K : PySem.W.Frag} {S : Hp} {v : V} {x : T} {ts : List T} (r : Rep K S v x) (h : lsOf x = some ts) : ∃ a vs, v = .ref a ∧ SqL K S a vs ∧ Reps K S vs ts := by
  cases r with
  | lst hs r => cases h; exact ⟨_, _, rfl, SqL.of hs, r⟩
  | scr hs => cases h; exact ⟨_, _, rfl, hs, Reps.ints _⟩
  | _ => cases h
theorem tr_izip {elts : List Expr} {kk : Nat} {tpos : Pos} (hg : Gl X "zip") (hm : X.mg "zip" = none) (ha : PE X a (tE X.K X.mg W da)) (hb : PE X b (tE X.K X.mg W db))
    (hs : starEach [a, b] X.env = (false, eval a X.env) :: starEach [b] X.env := by rfl) (hpl : (backTo pos (starEach [b] X.env)).any (·.1) = false := by rfl) (hs2 : starEach [b] X.env = (false, eval b X.env) :: starEach [] X.env := by rfl) :
    PI X (.Tuple elts kk tpos) (.Call (.Name "zip" p) [a, b] [] pos) (tI X.K X.mg W (dZip da db)) :=
  weakI (RZ.pi_zipA hg hm (pa_cons ha (pa_cons hb pa_nil hs2) hs) hs hpl) fun σ H Q h => by
    obtain ⟨S, A, e, m, eo, mo, h⟩ := h
    refine ⟨S, A, e, m, eo, mo, okG_bind h fun u m1 v S1 H1 A1 eq1 x1 mo1 r1 h1 => ⟨S1, A1, e, m1, eo.ext x1, mo1, okG_bind h1 fun w m2 y S2 H2 A2 eq2 x2 mo2 r2 h2 => ?_⟩⟩
    clear eq1 eq2
    cases r1 with
    | mu _ => exact False.elim h2
    | p q =>
      rename_i x
      cases r2 with
      | mu _ => cases x <;> exact False.elim h2
      | p q2 =>
        rename_i z
        have gen : ∀ (h3 : okG (fun S _ J ts => Yl X.K J S ts) X.K X.mg (fun c dd H' => W c dd σ H') S2 H2 A2 Q (match lsOf x, lsOf z with | some ts, some us => .ok (zpT ts us) m2 | _, _ => .bad)),
            ∃ a b xs ys, [v, y] = [V.ref a, V.ref b] ∧ ((SqL X.K H2 a xs ∧ SqL X.K H2 b ys ∧ Q (Itz X.K a b) H2) ∨ (SqT X.K H2 a xs ∧ SqT X.K H2 b ys ∧ Q (RZ.ItzT X.K a b) H2)) := by
          intro h3
          cases e1 : lsOf x with
          | none => rw [e1] at h3; exact False.elim h3
          | some ts =>
            cases e2 : lsOf z with
            | none => rw [e1, e2] at h3; exact False.elim h3
            | some us =>
              rw [e1, e2] at h3
              obtain ⟨a1, v1, rfl, s1, q1⟩ := rep_ls (q.le x2.sub) e1
              obtain ⟨a2, v2, rfl, s2, q2⟩ := rep_ls q2 e2
              exact ⟨a1, a2, v1, v2, rfl, .inl ⟨mo2.sub.sqL s1, mo2.sub.sqL s2, okG_ok h3 mo2 (yl_zip s1 q1 s2 q2)⟩⟩
        cases q with
        | tup hs r =>
          cases q2 with
          | tup hs2 r2 => exact ⟨_, _, _, _, rfl, .inr ⟨mo2.sub.sqT (x2.sub.tup hs), mo2.sub.sqT hs2, okG_ok h2 mo2 (yl_zipT (x2.sub.tup hs) (r.le x2.sub) hs2 r2)⟩⟩
          | _ => exact False.elim h2
        | _ => exact gen (by cases z <;> exact h2)
end
/-! ### defs that lay no lists of their own: the memory stays as it is -/
def fnP (n k : Nat) (d : DS) : FN := fun us m => if us.length = n then
    match d (us.map some ++ List.replicate (k - n) none) m with
    | .next _ m' => .ok (.p .non) m'
    | .ret u m' => .ok u m'
    | .exc x _ m' => .exc x m'
    | _ => .bad
  else .bad
theorem spP_len {K : PySem.W.Frag} {mg : Str → Option Value} {n k : Nat} {d : DS} {vs : List V} {H : Hp} {Q : VK} {E : XK} (h : spT K mg (fnP n k d) vs H Q E) : vs.length = n := by
  obtain ⟨S, A, us, m, r, mo, h⟩ := h
  rw [r.length]
  unfold fnP at h
  by_cases hl : us.length = n
  · exact hl
  · rw [if_neg hl] at h; exact False.elim h
theorem fnP_use {K : PySem.W.Frag} {mg : Str → Option Value} {N : List Str} {n : Nat} {d : DS} {vs : List V} {H : Hp} {Q : VK} {E : XK} (h : spT K mg (fnP n N.length d) vs H Q E) :
    tS K mg (fun cls dd _ H => E cls dd H) d { nx := fun _ H' => Q .non H', rt := Q } (L2.start N vs) H := by
  have hn := spP_len h
  obtain ⟨S, A, us, m, r, mo, h⟩ := h
  have hu : us.length = n := by rw [← r.length]; exact hn
  unfold fnP at h
  rw [if_pos hu] at h
  have eo0 := start_ok (N := N) r
  rw [hu] at eo0
  refine ⟨S, A, _, m, eo0, mo, ?_⟩
  have h : okG (fun S A => RepU K S A) K mg (fun c dd H' => E c dd H') S H A Q (match d (us.map some ++ List.replicate (N.length - n) none) m with
    | .next _ m' => .ok (.p .non) m'
    | .ret u m' => .ok u m'
    | .exc x _ m' => .exc x m'
    | _ => .bad) := h
  cases hd : d (us.map some ++ List.replicate (N.length - n) none) m with
  | next e m' => rw [hd] at h; exact fun σ S' H' A' x o eo => h .non S' H' A' x o (.p .non)
  | ret u m' => rw [hd] at h; exact fun v S' H' A' x o rr => h v S' H' A' x o rr
  | brk e m' => rw [hd] at h; exact False.elim h
  | cont e m' => rw [hd] at h; exact False.elim h
  | exc y e m' => rw [hd] at h; exact fun σ c dd S' H' A' x o eo er => h c dd S' H' A' x o er
  | bad => rw [hd] at h; exact False.elim h
section
variable {hd : HdD} {P : Program} {w : World} {K : PySem.W.Frag} {mg : Str → Option Value} {base : Heap}
theorem Fx.okP (Z : Fx hd P K mg base) (i j : Nat) {d : DefD} {x : Str} {N ps : List Str} {k : Nat} {b : DS} (Sc : FnScope N ps d.scope)
    (hb : ∀ (cdv : Value) (A : Around) (outer : List Env) (s : Shared) (H : Hp) (E : XK), Room k (A.deeper (envOfC d.qual d.scope s.heap.objs.size (ga K x) cdv)) →
      Takes (cxOf (L2.CX P w) P w K mg base N d.qual d.scope (ga K x) cdv A outer s H E) (fun cls dd _ H => E cls dd H) →
      PSs (cxOf (L2.CX P w) P w K mg base N d.qual d.scope (ga K x) cdv A outer s H E) d.body (tS K mg (fun cls dd _ H => E cls dd H) b))
    (bd : ∀ (kV doc pm : Value) (an : Option Addr) (cdv ct : Value) (us : List Value), us.length = ps.length → bindArgs (PySem.W.fnOf d.name d.qual d.params d.body d.scope Value.none kV doc pm an cdv ct) { pos := us } = pure (ps.zip us))
    (ha : d.at_ = (x, none)) (h0 : d.dfl = []) (h : hd.fn[i]? = some d := by rfl) (hj : hd.fa[j]? = some (.glo x) := by rfl) : Ok P w K mg base x (k + 1) ps (fnP ps.length N.length b) := by
  obtain ⟨fd, F⟩ := Says.def_ Z.c i h
  have e : fAd K d.at_ = ga K x := by rw [ha] <;> rfl
  rw [e] at F
  have e0 : d.dvs K = [] := by unfold DefD.dvs; rw [h0]; rfl
  rw [e0] at F
  exact ⟨fd, FunD.ok F Sc (fun vs H Q E h => spP_len h) fun cdv A outer s H vs Q E hr h => ⟨_, hb cdv A outer s H E hr (takes_of rfl rfl rfl rfl), fnP_use h⟩, FunD.bindsN F bd, Z.glo j hj, F.kp⟩
end
section
variable {hd : HdD} {P : Program} {w : World} {K : PySem.W.Frag} {mg : Str → Option Value} {base : Heap}
/-- a def with no fuel: promises nothing -/
theorem Fx.ok0 (Z : Fx hd P K mg base) (i j : Nat) {d : DefD} {x : Str} {ps : List Str} {k : Nat}
    (bd : ∀ (kV doc pm : Value) (an : Option Addr) (cdv ct : Value) (us : List Value), us.length = ps.length → bindArgs (PySem.W.fnOf d.name d.qual d.params d.body d.scope Value.none kV doc pm an cdv ct) { pos := us } = pure (ps.zip us))
    (ha : d.at_ = (x, none)) (h0 : d.dfl = []) (h : hd.fn[i]? = some d := by rfl) (hj : hd.fa[j]? = some (.glo x) := by rfl) : Ok P w K mg base x k ps (fun _ _ => .bad) := by
  obtain ⟨fd, F⟩ := Says.def_ Z.c i h
  have e : fAd K d.at_ = ga K x := by rw [ha] <;> rfl
  rw [e] at F
  have e0 : d.dvs K = [] := by unfold DefD.dvs; rw [h0]; rfl
  rw [e0] at F
  have no : ∀ vs H Q E, spT K mg (fun _ _ => .bad) vs H Q E → False := fun vs H Q E ⟨S, A, us, m, r, mo, h⟩ => h
  exact ⟨fd, ⟨fun vs H Q E h => (no vs H Q E h).elim, fun A outer s H args us vs Q E _ _ _ _ h => (no vs H Q E h).elim⟩, FunD.bindsN F bd, Z.glo j hj, F.kp⟩
theorem Fx.ok1 (Z : Fx hd P K mg base) (i j : Nat) {d : DefD} {x : Str} {N ps : List Str} {k : Nat} {b : DS} (Sc : FnScope N ps d.scope)
    (hb : ∀ (cdv : Value) (A : Around) (outer : List Env) (s : Shared) (H : Hp) (E : XK), Room k (A.deeper (envOfC d.qual d.scope s.heap.objs.size (ga K x) cdv)) →
      Takes (cxOf (L2.CX P w) P w K mg base N d.qual d.scope (ga K x) cdv A outer s H E) (fun cls dd _ H => E cls dd H) →
      PSs (cxOf (L2.CX P w) P w K mg base N d.qual d.scope (ga K x) cdv A outer s H E) d.body (tS K mg (fun cls dd _ H => E cls dd H) b))
    (bd : ∀ (kV doc pm : Value) (an : Option Addr) (cdv ct : Value) (us : List Value), us.length = ps.length → bindArgs (PySem.W.fnOf d.name d.qual d.params d.body d.scope Value.none kV doc pm an cdv ct) { pos := us } = pure (ps.zip us))
    (ha : d.at_ = (x, none)) (h0 : d.dfl = []) (h : hd.fn[i]? = some d := by rfl) (hj : hd.fa[j]? = some (.glo x) := by rfl) : Ok P w K mg base x (k + 1) ps (fnD ps.length N.length b) :=
  Z.ok i j Sc (fun cdv A outer s H E hr => hb cdv A outer s H E hr (takes_of rfl rfl rfl rfl)) bd h hj ha h0
theorem fn_ok1 {x qual : Str} {params : Arguments} {body : List Stmt} {scope : Scope} {dvs : List V} {kws : List (Str × V)} {f : Addr} {fd : FuncData} {N ps : List Str} {k : Nat} {d : DS} (F : FunD K x qual params body scope dvs kws f fd) (Sc : FnScope N ps scope)
    (hb : ∀ (cdv : Value) (A : Around) (outer : List Env) (s : Shared) (H : Hp) (E : XK), Room k (A.deeper (envOfC qual scope s.heap.objs.size f cdv)) →
      Takes (cxOf (L2.CX P w) P w K mg base N qual scope f cdv A outer s H E) (fun cls dd _ H => E cls dd H) →
      PSs (cxOf (L2.CX P w) P w K mg base N qual scope f cdv A outer s H E) body (tS K mg (fun cls dd _ H => E cls dd H) d)) :
    FnOk P w K mg base (L2.CX P w) (k + 1) f fd ps (spT K mg (fnD ps.length N.length d)) :=
  fn_ok F Sc fun cdv A outer s H E hr => hb cdv A outer s H E hr (takes_of rfl rfl rfl rfl)
end
end Tw

/-! meanings, reckoned by simp -/
namespace Tw
open PySem L2
section
variable {α β : Type} {a : α} {m : Mem} {e e1 : En} {x : Ex} {u w : U} {n : Nw} {i j : Int} {k : Nat} {t : T} {ts us : List T} {b c : Bool}
@[simp] theorem bind_ok (f : α → Mem → R β) : (R.ok a m).bind f = f a m := rfl
@[simp] theorem bind_exc (f : α → Mem → R β) : (R.exc x m).bind f = .exc x m := rfl
@[simp] theorem bind_bad (f : α → Mem → R β) : (R.bad : R α).bind f = .bad := rfl
@[simp] theorem st_ok (f : α → Mem → RS) : (R.ok a m).st e f = f a m := rfl
@[simp] theorem st_exc (f : α → Mem → RS) : (R.exc x m).st e f = .exc x e m := rfl
@[simp] theorem st_bad (f : α → Mem → RS) : (R.bad : R α).st e f = .bad := rfl
@[simp] theorem sb_next (f : En → Mem → RS) : (RS.next e m).bind f = f e m := rfl
@[simp] theorem sb_ret (f : En → Mem → RS) : (RS.ret u m).bind f = .ret u m := rfl
@[simp] theorem sb_brk (f : En → Mem → RS) : (RS.brk e m).bind f = .brk e m := rfl
@[simp] theorem sb_cont (f : En → Mem → RS) : (RS.cont e m).bind f = .cont e m := rfl
@[simp] theorem sb_exc (f : En → Mem → RS) : (RS.exc x e m).bind f = .exc x e m := rfl
@[simp] theorem sb_bad (f : En → Mem → RS) : (RS.bad).bind f = .bad := rfl
@[simp] theorem sSkip_e : sSkip e m = .next e m := rfl
@[simp] theorem sSeq_e (p q : DS) : sSeq p q e m = (p e m).bind q := rfl
@[simp] theorem sSet_e (l : Nat) (d : D) : sSet l d e m = (d e m).st e fun u m1 => .next (e.set l (some u)) m1 := rfl
@[simp] theorem sAsg_e (d : D) (g : DG) : sAsg d g e m = (d e m).st e fun u m1 => (g u e m1).st e fun e2 m2 => .next e2 m2 := rfl
@[simp] theorem sExpr_e (d : D) : sExpr d e m = (d e m).st e fun _ m1 => .next e m1 := rfl
@[simp] theorem sRet_e (d : D) : sRet d e m = (d e m).st e fun u m1 => .ret u m1 := rfl
@[simp] theorem sRaise_e (s : Str) : sRaise s e m = .exc ⟨s, none⟩ e m := rfl
def pickS (c : Bool) (p q : RS) : RS := match c with | true => p | false => q
@[simp] theorem pickS_t (p q : RS) : pickS true p q = p := rfl
@[simp] theorem pickS_f (p q : RS) : pickS false p q = q := rfl
@[simp] theorem sIf_e (c : DB) (p q : DS) : sIf c p q e m = (c e m).st e fun k m1 => pickS k (p e m1) (q e m1) := by
  first | rfl | (unfold sIf; congr 1; funext k m1; cases k <;> rfl)
def par2 (i j : Nat) (e : En) (us : List U) (m : Mem) : RS := match us with
  | [u, w] => .next ((e.set i (some u)).set j (some w)) m
  | _ => .bad
@[simp] theorem par2_e (i j : Nat) : par2 i j e [u, w] m = .next ((e.set i (some u)).set j (some w)) m := rfl
@[simp] theorem sPar_e (i j : Nat) (da : DA) : sPar i j da e m = (da e m).st e fun us m1 => par2 i j e us m1 := rfl
def par3 (i j l : Nat) (e : En) (us : List U) (m : Mem) : RS := match us with
  | [u, w, z] => .next (((e.set i (some u)).set j (some w)).set l (some z)) m
  | _ => .bad
@[simp] theorem par3_e (i j l : Nat) (z : U) : par3 i j l e [u, w, z] m = .next (((e.set i (some u)).set j (some w)).set l (some z)) m := rfl
@[simp] theorem sPar3_e (i j l : Nat) (da : DA) : sPar3 i j l da e m = (da e m).st e fun us m1 => par3 i j l e us m1 := rfl
/-- what stands at a slot -/
def slot (o : Option (Option U)) (m : Mem) : R U := match o with
  | some (some u) => .ok u m
  | _ => .bad
@[simp] theorem slot_e : slot (some (some u)) m = .ok u m := rfl
theorem dVar_e (i : Nat) : dVar i e m = slot e[i]? m := by
  unfold dVar slot
  cases e[i]? with
  | none => rfl
  | some o => cases o <;> rfl
@[simp] theorem dVar0 (o : Option U) : dVar 0 (o :: e) m = slot (some o) m := by rw [dVar_e]; rfl
@[simp] theorem dVarS (o : Option U) (i : Nat) : dVar (i + 1) (o :: e) m = dVar i e m := by rw [dVar_e, dVar_e]; rfl
@[simp] theorem dC_e : dC t e m = .ok (.p t) m := rfl
@[simp] theorem dNil_e : dNil e m = .ok [] m := rfl
@[simp] theorem dCons_e (d : D) (r : DA) : dCons d r e m = (d e m).bind fun u m1 => (r e m1).bind fun us m2 => .ok (u :: us) m2 := rfl
@[simp] theorem dCall_e (f : FN) (ds : DA) : dCall f ds e m = (ds e m).bind fun us m1 => f us m1 := rfl
@[simp] theorem dBin_e (f : F2) (p q : D) : dBin f p q e m = (p e m).bind fun x m1 => (q e m1).bind fun y m2 => f x y m2 := rfl
def asB (u : U) (m : Mem) : R Bool := match u with
  | .p (.bl b) => .ok b m
  | _ => .bad
@[simp] theorem asB_e : asB (.p (.bl b)) m = .ok b m := rfl
@[simp] theorem dAsB_e (d : D) : dAsB d e m = (d e m).bind asB := rfl
def orBad {α : Type} (o : Option α) (m : Mem) : R α := match o with
  | some a => .ok a m
  | none => .bad
@[simp] theorem orBad_s : orBad (some a) m = .ok a m := rfl
@[simp] theorem orBad_n : orBad (none : Option α) m = .bad := rfl
@[simp] theorem dTru_e (d : D) : dTru d e m = (d e m).bind fun u m1 => orBad (truU m1 u) m1 := by
  unfold dTru
  congr 1
  funext u m1
  cases truU m1 u <;> rfl
def pickB {α : Type} (c : Bool) (p q : R α) : R α := match c with | true => p | false => q
@[simp] theorem pickB_t (p q : R α) : pickB true p q = p := rfl
@[simp] theorem pickB_f (p q : R α) : pickB false p q = q := rfl
@[simp] theorem dAndB_e (d f : DB) : dAndB d f e m = (d e m).bind fun b m1 => pickB b (f e m1) (.ok false m1) := by
  first | rfl | (unfold dAndB; congr 1; funext b m1; cases b <;> rfl)
@[simp] theorem dOrB_e (d f : DB) : dOrB d f e m = (d e m).bind fun b m1 => pickB b (.ok true m1) (f e m1) := by
  first | rfl | (unfold dOrB; congr 1; funext b m1; cases b <;> rfl)
@[simp] theorem dNotB_e (d : DB) : dNotB d e m = (d e m).bind fun b m1 => .ok (!b) m1 := rfl
@[simp] theorem dIf_e (c : DB) (d f : D) : dIf c d f e m = (c e m).bind fun b m1 => pickB b (d e m1) (f e m1) := by
  first | rfl | (unfold dIf; congr 1; funext b m1; cases b <;> rfl)
@[simp] theorem dAnd_e (d f : D) : dAnd d f e m = (d e m).bind fun u m1 => (orBad (truU m1 u) m1).bind fun b m2 => pickB b (f e m1) (.ok u m1) := by
  unfold dAnd; congr 1; funext u m1; cases truU m1 u with
  | none => rfl
  | some b => cases b <;> rfl
@[simp] theorem dOr_e (d f : D) : dOr d f e m = (d e m).bind fun u m1 => (orBad (truU m1 u) m1).bind fun b m2 => pickB b (.ok u m1) (f e m1) := by
  unfold dOr; congr 1; funext u m1; cases truU m1 u with
  | none => rfl
  | some b => cases b <;> rfl
@[simp] theorem dNot_e (d : D) : dNot d e m = (d e m).bind fun u m1 => (orBad (truU m1 u) m1).bind fun b m2 => .ok (.p (.bl (!b))) m1 := by
  unfold dNot; congr 1; funext u m1; cases truU m1 u with
  | none => rfl
  | some b => cases b <;> rfl
@[simp] theorem tru_non : truU m (.p .non) = some false := rfl
@[simp] theorem tru_bl : truU m (.p (.bl b)) = some b := rfl
@[simp] theorem tru_int : truU m (.p (.int i)) = some (i != 0) := rfl
@[simp] theorem tru_lst : truU m (.p (.lst ts)) = some (!ts.isEmpty) := rfl
@[simp] theorem tru_tup : truU m (.p (.tup ts)) = some (!ts.isEmpty) := rfl
def neg1 (u : U) (m : Mem) : R U := match u with
  | .p (.int i) => .ok (.p (.int (-i))) m
  | _ => .bad
@[simp] theorem neg1_e : neg1 (.p (.int i)) m = .ok (.p (.int (-i))) m := rfl
@[simp] theorem dNeg_e (d : D) : dNeg d e m = (d e m).bind neg1 := rfl
@[simp] theorem fAdd_i : fAdd n (.p (.int i)) (.p (.int j)) m = .ok (.p (.int (i + j))) m := rfl
@[simp] theorem fSub_i : fSub (.p (.int i)) (.p (.int j)) m = .ok (.p (.int (i - j))) m := rfl
@[simp] theorem fMul_i : fMul (.p (.int i)) (.p (.int j)) m = if mulC i j = true then .ok (.p (.int (i * j))) m else .bad := rfl
@[simp] theorem fDiv_i : fDiv (.p (.int i)) (.p (.int j)) m = if divC i j = true then .ok (.p (.int (i.fdiv j))) m else .bad := rfl
@[simp] theorem fMod_i : fMod (.p (.int i)) (.p (.int j)) m = if decide (j ≠ 0) = true then .ok (.p (.int (i.fmod j))) m else .bad := rfl
@[simp] theorem fCmp_i (p : Int → Int → Bool) : fCmp p (.p (.int i)) (.p (.int j)) m = .ok (.p (.bl (p i j))) m := rfl
/-- ==: of ints, of anything -/
@[simp] theorem shaped_int : SeqAt.shaped (.int i) = true := rfl
@[simp] theorem fEq_i (ng : Bool) : fEq ng (.p (.int i)) (.p (.int j)) m = .ok (.p (.bl (if ng then !(i == j) else (i == j)))) m := rfl
@[simp] theorem bAbs_i : bAbs [.p (.int i)] m = .ok (.p (.int (if i < 0 then -i else i))) m := rfl
@[simp] theorem bInt_i : bInt [.p (.int i)] m = .ok (.p (.int i)) m := rfl
@[simp] theorem bInt_b : bInt [.p (.bl b)] m = .ok (.p (.int (if b then 1 else 0))) m := rfl
@[simp] theorem bTuple_l : bTuple [.p (.lst ts)] m = .ok (.p (.tup ts)) m := rfl
@[simp] theorem bTuple_t : bTuple [.p (.tup ts)] m = .ok (.p (.tup ts)) m := rfl
@[simp] theorem bLen_t : bLen [.p (.tup ts)] m = .ok (.p (.int ts.length)) m := rfl
@[simp] theorem bLen_l : bLen [.p (.lst ts)] m = .ok (.p (.int ts.length)) m := rfl
@[simp] theorem bLen_s (ns : List Int) : bLen [.p (.scr ns)] m = .ok (.p (.int ns.length)) m := by
  show R.ok (U.p (T.int ((ns.map T.int).length : Nat))) m = _
  rw [List.length_map]
@[simp] theorem bAll_l (k : Bool) : bAll k [.p (.lst ts)] m = (orBad (blsOf ts) m).bind fun bs m1 => .ok (.p (.bl (if k then bs.all id else bs.any id))) m1 := by
  show (match blsOf ts with | some bs => R.ok (U.p (T.bl (if k then bs.all id else bs.any id))) m | none => .bad) = _
  cases blsOf ts <;> rfl
@[simp] theorem isi_i (n : Tn) : bIsi [.p (.int i), .p (.ty n)] m = .ok (.p (.bl (isTn .int n))) m := rfl
@[simp] theorem isi_b (n : Tn) : bIsi [.p (.bl b), .p (.ty n)] m = .ok (.p (.bl (isTn .bool n))) m := rfl
@[simp] theorem isi_n (n : Tn) : bIsi [.p .non, .p (.ty n)] m = .ok (.p (.bl (isTn .none n))) m := rfl
@[simp] theorem isi_s (s : Str) (n : Tn) : bIsi [.p (.str s), .p (.ty n)] m = .ok (.p (.bl (isTn .str n))) m := rfl
@[simp] theorem isi_t (n : Tn) : bIsi [.p (.tup ts), .p (.ty n)] m = .ok (.p (.bl (isTn .tuple n))) m := rfl
@[simp] theorem isi_l (n : Tn) : bIsi [.p (.lst ts), .p (.ty n)] m = .ok (.p (.bl (isTn .list n))) m := rfl
def tnT : T → Tn
  | .non => .none | .bl _ => .bool | .int _ => .int | .str _ => .str | .tup _ => .tuple | .lst _ => .list | _ => .none
/-- a tree that is neither a type nor the script -/
def T.dat : T → Bool
  | .ty _ => false
  | .scr _ => false
  | _ => true
theorem isi_dat (n : Tn) (h : t.dat = true) : bIsi [.p t, .p (.ty n)] m = .ok (.p (.bl (isTn (tnT t) n))) m := by
  cases t <;> first | rfl | cases h
theorem isi_dat2 (n n2 : Tn) (h : t.dat = true) : bIsi [.p t, .p (.tup [.ty n, .ty n2])] m = .ok (.p (.bl (isTn (tnT t) n || (isTn (tnT t) n2)))) m := by
  cases t <;> first | (cases h; done) | (show R.ok (U.p (T.bl _)) m = _; simp [List.any, Bool.or_assoc, tnT])
@[simp] theorem newL_t : newL .tree ts m = .ok (.p (.lst ts)) m := rfl
@[simp] theorem newL_m : newL .mu ts m = .ok (.mu m.length) (m ++ [some ts]) := rfl
def unP : List U → Option (List T)
  | [] => some []
  | .p t :: r => (unP r).map (t :: ·)
  | .mu _ :: _ => none
theorem unU_eq : ∀ us : List U, unU us = unP us
  | [] => rfl
  | .p t :: r => by
    have ih := unU_eq r
    show (unU r).map (t :: ·) = _
    rw [ih]; rfl
  | .mu k :: r => rfl
@[simp] theorem dTup_e (ds : DA) : dTup ds e m = (ds e m).bind fun us m1 => (orBad (unP us) m1).bind fun ts m2 => if ts.length ≤ 16777216 then .ok (.p (.tup ts)) m2 else .bad := by
  unfold dTup; congr 1; funext us m1; rw [unU_eq]; cases unP us <;> rfl
@[simp] theorem dLst_e (n : Nw) (ds : DA) : dLst n ds e m = (ds e m).bind fun us m1 => (orBad (unP us) m1).bind fun ts m2 => if ts.length ≤ 16777216 then newL n ts m2 else .bad := by
  unfold dLst; congr 1; funext us m1; rw [unU_eq]; cases unP us <;> rfl
@[simp] theorem unP_nil : unP [] = some [] := rfl
@[simp] theorem unP_cons (us : List U) : unP (.p t :: us) = (unP us).map (t :: ·) := rfl
theorem ix_at {k : Nat} (h : ts[k]? = some t) : atI ts (k : Int) = some t := by
  unfold atI ixN
  have hk : k < ts.length := by
    rcases Nat.lt_or_ge k ts.length with h1 | h1
    · exact h1
    · rw [List.getElem?_eq_none h1] at h; cases h
  rw [if_pos (by omega), if_pos (by omega)]
  simpa using h
theorem fIx_seq (h : seqOf m u = some ts) (hs : ∀ s, u ≠ .p (.str s)) : fIx u (.p (.int i)) m = (orBad (atI ts i) m).bind fun t m1 => .ok (.p t) m1 := by
  have e : fIx u (.p (.int i)) m = match seqOf m u with
      | some ts => (match atI ts i with
        | some t => .ok (.p t) m
        | none => .bad)
      | none => .bad := by
    cases u with
    | mu k => rfl
    | p t => cases t with
      | str s => exact absurd rfl (hs s)
      | _ => rfl
  rw [e, h]
  show (match atI ts i with
        | some t => R.ok (U.p t) m
        | none => .bad) = _
  cases atI ts i <;> rfl
@[simp] theorem fIx_tup : fIx (.p (.tup ts)) (.p (.int i)) m = (orBad (atI ts i) m).bind fun t m1 => .ok (.p t) m1 := fIx_seq rfl fun _ => nofun
@[simp] theorem fIx_lst : fIx (.p (.lst ts)) (.p (.int i)) m = (orBad (atI ts i) m).bind fun t m1 => .ok (.p t) m1 := fIx_seq rfl fun _ => nofun
@[simp] theorem atI_0 (a : α) (r : List α) : atI (a :: r) 0 = some a := by
  unfold atI ixN; simp
@[simp] theorem atI_1 (a b : α) (r : List α) : atI (a :: b :: r) 1 = some b := by
  unfold atI ixN; rw [if_pos (by decide), if_pos (by simp only [List.length_cons]; omega)]; rfl
@[simp] theorem atI_2 (a b c : α) (r : List α) : atI (a :: b :: c :: r) 2 = some c := by
  unfold atI ixN; rw [if_pos (by decide), if_pos (by simp only [List.length_cons]; omega)]; rfl
@[simp] theorem gNm_e (i : Nat) : gNm i u e m = .ok (e.set i (some u)) m := rfl
@[simp] theorem gTp_e (l : Nat) (gs : List U → En → Mem → R En) : gTp l gs (.p (.tup ts)) e m = if ts.length = l then gs (ts.map U.p) e m else .bad := rfl
@[simp] theorem gsNil_e : gsNil [] e m = .ok e m := rfl
@[simp] theorem gsCons_e (g : DG) (r : List U → En → Mem → R En) (us : List U) : gsCons g r (u :: us) e m = (g u e m).bind fun e1 m1 => r us e1 m1 := rfl
/-- a body's end -/
def finP (r : RS) : R U := match r with
  | .next _ m' => .ok (.p .non) m'
  | .ret u m' => .ok u m'
  | .exc x _ m' => .exc x m'
  | _ => .bad
@[simp] theorem finP_n : finP (.next e m) = .ok (.p .non) m := rfl
@[simp] theorem finP_r : finP (.ret u m) = .ok u m := rfl
@[simp] theorem finP_x : finP (.exc x e m) = .exc x m := rfl
theorem fnP_e (n k : Nat) (d : DS) (us : List U) (h : us.length = n) : fnP n k d us m = finP (d (us.map some ++ List.replicate (k - n) none) m) := by
  unfold fnP; rw [if_pos h]; rfl
theorem fnP1 (k : Nat) (d : DS) (u : U) : fnP 1 k d [u] m = finP (d (some u :: List.replicate (k - 1) none) m) := fnP_e _ _ _ _ rfl
theorem fnP2 (k : Nat) (d : DS) (u v : U) : fnP 2 k d [u, v] m = finP (d (some u :: some v :: List.replicate (k - 2) none) m) := fnP_e _ _ _ _ rfl
theorem fnP3 (k : Nat) (d : DS) (u v w : U) : fnP 3 k d [u, v, w] m = finP (d (some u :: some v :: some w :: List.replicate (k - 3) none) m) := fnP_e _ _ _ _ rfl
theorem fnP4 (k : Nat) (d : DS) (u v w z : U) : fnP 4 k d [u, v, w, z] m = finP (d (some u :: some v :: some w :: some z :: List.replicate (k - 4) none) m) := fnP_e _ _ _ _ rfl
end
end Tw

/-! loops, walked by invariants; the greatest common divisor -/
namespace Tw
open PySem L2
section
variable {α β : Type} {a : α} {m : Mem} {e e1 : En} {x : Ex} {u w : U} {n : Nw} {i j : Int} {k : Nat} {t : T} {ts us : List T} {b c : Bool}
@[simp] theorem finP_b : finP (.bad) = .bad := rfl
@[simp] theorem finP_st (r : R U) (f : En → Mem → RS) : finP ((r.st e fun u m1 => .ret u m1).bind f) = r := by cases r <;> rfl
@[simp] theorem finP_st2 (r : R U) : finP (r.st e fun u m1 => .ret u m1) = r := by cases r <;> rfl
@[simp] theorem seqOf_mu : seqOf m (.mu k) = m[k]?.join := rfl
@[simp] theorem fIx_mu : fIx (.mu k) (.p (.int i)) m = (orBad m[k]?.join m).bind fun ts m1 => (orBad (atI ts i) m).bind fun t m1 => .ok (.p t) m1 := by
  cases h : m[k]?.join with
  | none =>
    show (match m[k]?.join with
      | some ts => (match atI ts i with
        | some t => R.ok (U.p t) m
        | none => .bad)
      | none => .bad) = _
    rw [h]; rfl
  | some ts => exact fIx_seq (show seqOf m (.mu k) = some ts from h) fun _ => nofun
def putAt (m : Mem) (z : Option (Nat × List T)) (i u : U) (e : En) : R En := match z, i, u with
  | some (k, ts), .p (.int j), .p t => match ixN ts.length j with
    | some n => .ok e (m.set k (some (ts.set n t)))
    | none => .bad
  | _, _, _ => .bad
@[simp] theorem putAt_e : putAt m (some (k, ts)) (.p (.int i)) (.p t) e = (orBad (ixN ts.length i) m).bind fun n m1 => .ok e (m.set k (some (ts.set n t))) := by
  show (match ixN ts.length i with
    | some n => R.ok e (m.set k (some (ts.set n t)))
    | none => .bad) = _
  cases ixN ts.length i <;> rfl
@[simp] theorem gSb_e (p q : D) : gSb p q u e m = (p e m).bind fun o m1 => (q e m1).bind fun i m2 => putAt m2 (muAt m2 o) i u e := rfl
@[simp] theorem muAt_mu : muAt m (.mu k) = m[k]?.join.map fun ts => (k, ts) := rfl
@[simp] theorem sFor_e (di : DI) (pt : Pt) (body : DS) : sFor di pt body e m = (di e m).st e fun ts m1 => forL pt body ts e m1 := rfl
@[simp] theorem dRg1_e (d : D) : dRg1 d e m = (d e m).bind fun u m1 => match u with
  | .p (.int j) => if rgC j = true then .ok (rgT 0 j.toNat) m1 else .bad
  | _ => .bad := rfl
@[simp] theorem dItems_e (d : D) : dItems d e m = (d e m).bind fun u m1 => orBad (itemsU u) m1 := by
  unfold dItems; congr 1; funext u m1; cases itemsU u <;> rfl
@[simp] theorem items_l : itemsU (.p (.lst ts)) = some ts := rfl
@[simp] theorem items_t : itemsU (.p (.tup ts)) = some ts := rfl
@[simp] theorem dYes_e : dYes e m = .ok true m := rfl
def lcEnd (n : Nw) (r : R (List T)) : R U := match r with
  | .ok ys m2 => newL n ys m2
  | _ => .bad
@[simp] theorem lcEnd_e : lcEnd n (.ok ts m) = newL n ts m := rfl
@[simp] theorem dLc_e (own : List Nat) (di : DI) (pt : Pt) (tt : DB) (te : D) : dLc n own di pt tt te e m = (di e m).bind fun ts m1 => lcEnd n (lcL pt tt te (wipeE e own) ts [] m1) := rfl
@[simp] theorem wipeE_nil : wipeE e [] = e := rfl
@[simp] theorem wipeE_cons (i : Nat) (r : List Nat) : wipeE e (i :: r) = (wipeE e r).set i none := rfl
@[simp] theorem den_nm (i : Nat) : (Pt.nm i).den t e = some (e.set i (some (.p t))) := rfl
@[simp] theorem den_tp (ps : List Pt) : (Pt.tp ps).den (.tup ts) e = Pt.dens ps ts e := rfl
@[simp] theorem dens_nil : Pt.dens [] [] e = some e := rfl
@[simp] theorem dens_cons (p : Pt) (ps : List Pt) : Pt.dens (p :: ps) (t :: ts) e = (p.den t e).bind fun e1 => Pt.dens ps ts e1 := rfl
end
/-- a walk that goes through -/
theorem forL_inv {pt : Pt} {body : DS} (P : En → Mem → Prop) : ∀ (ts : List T), (∀ t ∈ ts, ∀ e m, P e m → ∃ e1, pt.den t e = some e1 ∧ ∃ e2 m2, body e1 m = .next e2 m2 ∧ P e2 m2) → ∀ e m, P e m → ∃ e' m', forL pt body ts e m = .next e' m' ∧ P e' m'
  | [], _, e, m, p => ⟨e, m, rfl, p⟩
  | t :: r, h, e, m, p => by
    obtain ⟨e1, h1, e2, m2, h2, p2⟩ := h t (by simp) e m p
    obtain ⟨e', m', h3, p3⟩ := forL_inv P r (fun t ht => h t (by simp [ht])) e2 m2 p2
    refine ⟨e', m', ?_, p3⟩
    unfold forL
    rw [h1]
    show (match body e1 m with
      | .next e2 m2 => forL pt body r e2 m2
      | .cont e2 m2 => forL pt body r e2 m2
      | .brk e2 m2 => .next e2 m2
      | r => r) = _
    rw [h2]
    exact h3
/-- a walk with a fold beside it -/
theorem forL_fold {pt : Pt} {body : DS} {σ : Type} (f : σ → T → σ) (P : σ → En → Mem → Prop) : ∀ (ts : List T), (∀ t ∈ ts, ∀ s e m, P s e m → ∃ e1, pt.den t e = some e1 ∧ ∃ e2 m2, body e1 m = .next e2 m2 ∧ P (f s t) e2 m2) → ∀ s e m, P s e m → ∃ e' m', forL pt body ts e m = .next e' m' ∧ P (ts.foldl f s) e' m'
  | [], _, s, e, m, p => ⟨e, m, rfl, p⟩
  | t :: r, h, s, e, m, p => by
    obtain ⟨e1, h1, e2, m2, h2, p2⟩ := h t (by simp) s e m p
    obtain ⟨e', m', h3, p3⟩ := forL_fold f P r (fun t ht => h t (by simp [ht])) (f s t) e2 m2 p2
    refine ⟨e', m', ?_, p3⟩
    unfold forL
    rw [h1]
    show (match body e1 m with
      | .next e2 m2 => forL pt body r e2 m2
      | .cont e2 m2 => forL pt body r e2 m2
      | .brk e2 m2 => .next e2 m2
      | r => r) = _
    rw [h2]
    exact h3
/-- the same, where body's states are told by a function of the fold's -/
theorem forL_state {pt : Pt} {body : DS} {σ : Type} (f : σ → T → σ) (E : σ → En) (m : Mem) (Q : σ → Prop) : ∀ (ts : List T), (∀ t ∈ ts, ∀ s, Q s → Q (f s t) ∧ ∃ e1, pt.den t (E s) = some e1 ∧ body e1 m = .next (E (f s t)) m) → ∀ s, Q s → Q (ts.foldl f s) ∧ forL pt body ts (E s) m = .next (E (ts.foldl f s)) m
  | [], _, s, q => ⟨q, rfl⟩
  | t :: r, h, s, q => by
    obtain ⟨q2, e1, h1, h2⟩ := h t (by simp) s q
    obtain ⟨q3, h3⟩ := forL_state f E m Q r (fun t ht => h t (by simp [ht])) (f s t) q2
    refine ⟨q3, ?_⟩
    unfold forL
    rw [h1]
    show (match body e1 m with
      | .next e2 m2 => forL pt body r e2 m2
      | .cont e2 m2 => forL pt body r e2 m2
      | .brk e2 m2 => .next e2 m2
      | r => r) = _
    rw [h2]
    exact h3
/-- a comprehension that changes the memory -/
theorem lcL_inv {pt : Pt} {tt : DB} {te : D} {e : En} (P : T → Prop) (I : Nat → Mem → Prop) : ∀ (ts : List T), (∀ t ∈ ts, ∀ k m, I k m → ∃ e1 m1 y m2, pt.den t e = some e1 ∧ tt e1 m = .ok true m1 ∧ te e1 m1 = .ok (.p y) m2 ∧ P y ∧ I (k + 1) m2) →
    ∀ acc k m, I k m → acc.length + ts.length ≤ 16777216 → ∃ ys m', lcL pt tt te e ts acc m = .ok (acc ++ ys) m' ∧ ys.length = ts.length ∧ (∀ y ∈ ys, P y) ∧ I (k + ts.length) m'
  | [], _, acc, k, m, i, _ => ⟨[], m, by simp [lcL], rfl, by simp, i⟩
  | t :: r, h, acc, k, m, i, hl => by
    obtain ⟨e1, m1, y, m2, h1, h2, h3, p, i2⟩ := h t (by simp) k m i
    have hl2 : acc.length + (r.length + 1) ≤ 16777216 := by simpa using hl
    obtain ⟨ys, m', h4, h5, h6, h7⟩ := lcL_inv P I r (fun t ht => h t (by simp [ht])) (acc ++ [y]) (k + 1) m2 i2 (by simp; omega)
    refine ⟨y :: ys, m', ?_, by simp [h5], ?_, ?_⟩
    · unfold lcL
      have hl3 : acc.length < 16777216 := by omega
      simp only [h1, h2, h3, hl3, if_true, h4]
      simp
    · intro z hz
      rcases List.mem_cons.mp hz with rfl | hz
      · exact p
      · exact h6 z hz
    · have e2 : k + (t :: r).length = k + 1 + r.length := by simp; omega
      rw [e2]; exact h7
/-- a pure comprehension: its items by a function, its test by another -/
theorem lcL_pure {pt : Pt} {tt : DB} {te : D} {e : En} {m : Mem} (q : T → Bool) (f : T → T) : ∀ (ts : List T), (∀ t ∈ ts, ∃ e1, pt.den t e = some e1 ∧ tt e1 m = .ok (q t) m ∧ (q t = true → te e1 m = .ok (.p (f t)) m)) →
    ∀ acc, acc.length + ts.length ≤ 16777216 → lcL pt tt te e ts acc m = .ok (acc ++ (ts.filter q).map f) m
  | [], _, acc, _ => by simp [lcL]
  | t :: r, h, acc, hl => by
    obtain ⟨e1, h1, h2, h3⟩ := h t (by simp)
    have hl2 : acc.length + (r.length + 1) ≤ 16777216 := by simpa using hl
    unfold lcL
    cases hq : q t with
    | true =>
      have hl3 : acc.length < 16777216 := by omega
      simp only [h1, h2, hq, h3 hq, hl3, if_true]
      rw [lcL_pure q f r (fun t ht => h t (by simp [ht])) (acc ++ [f t]) (by simp; omega)]
      simp [List.filter_cons, hq]
    | false =>
      simp only [h1, h2, hq]
      rw [lcL_pure q f r (fun t ht => h t (by simp [ht])) acc (by omega)]
      simp [List.filter_cons, hq]
/-! ### the greatest common divisor, by remainders -/
theorem gcd_step (a b : Nat) : Nat.gcd b (a % b) = Nat.gcd a b := by
  rw [Nat.gcd_comm b, ← Nat.gcd_rec, Nat.gcd_comm]
theorem whL_gcd {t : DB} {body : DS} {E : Int → Int → En} {m : Mem} (hT : ∀ a b : Int, t (E a b) m = .ok (decide (0 < b)) m) (hB : ∀ a b : Int, b ≠ 0 → body (E a b) m = .next (E b (a.fmod b)) m) :
    ∀ (n : Nat) (a b : Nat), b ≤ a → a * b < 2 ^ n → ∀ k, n < k → whL t body k (E a b) m = .next (E (Nat.gcd a b : Nat) 0) m := by
  intro n
  induction n with
  | zero =>
    intro a b hab h k hk
    have hb : b = 0 := by
      rcases Nat.eq_zero_or_pos b with h0 | h0
      · exact h0
      · have : 1 ≤ a * b := Nat.mul_pos (by omega) h0
        omega
    subst hb
    obtain ⟨k, rfl⟩ : ∃ j, k = j + 1 := ⟨k - 1, by omega⟩
    unfold whL
    rw [hT]
    simp
  | succ n ih =>
    intro a b hab h k hk
    obtain ⟨k, rfl⟩ : ∃ j, k = j + 1 := ⟨k - 1, by omega⟩
    unfold whL
    rw [hT]
    by_cases hb : b = 0
    · subst hb; simp
    · have h0 : 0 < b := by omega
      have hz : (0 : Int) < (b : Int) := by omega
      simp only [decide_eq_true hz, st_ok]
      rw [hB _ _ (by omega)]
      show whL t body k (E (b : Int) ((a : Int).fmod (b : Int))) m = _
      have e : (a : Int).fmod (b : Int) = ((a % b : Nat) : Int) := by
        rw [Int.fmod_eq_emod_of_nonneg _ (by omega)]; rfl
      rw [e]
      have hr : a % b < b := Nat.mod_lt _ h0
      have hd : b + a % b ≤ a := by
        have h1 := Nat.div_add_mod a b
        have h2 : 1 ≤ a / b := (Nat.le_div_iff_mul_le h0).mpr (by omega)
        have h3 : b * 1 ≤ b * (a / b) := Nat.mul_le_mul_left b h2
        omega
      have hm : b * (a % b) < 2 ^ n := by
        have h1 : (b + a % b) * b ≤ a * b := Nat.mul_le_mul_right b hd
        have h2 : (a % b) * b ≤ b * b := Nat.mul_le_mul_right b (by omega)
        have h3 : (b + a % b) * b = b * b + (a % b) * b := Nat.add_mul _ _ _
        have h4 : b * (a % b) = (a % b) * b := Nat.mul_comm _ _
        have h5 : (2 : Nat) ^ (n + 1) = 2 * 2 ^ n := by rw [Nat.pow_succ]; omega
        omega
      rw [ih b (a % b) (by omega) hm k (by omega), gcd_step]
theorem whL_gcd2 {t : DB} {body : DS} {E : Int → Int → En} {m : Mem} (hT : ∀ a b : Int, t (E a b) m = .ok (decide (0 < b)) m) (hB : ∀ a b : Int, b ≠ 0 → body (E a b) m = .next (E b (a.fmod b)) m)
    (a b : Nat) (h : a * b < 2 ^ 998) : whL t body 1000 (E a b) m = .next (E (Nat.gcd a b : Nat) 0) m := by
  by_cases hab : b ≤ a
  · exact whL_gcd hT hB 998 a b hab h 1000 (by decide)
  · have h0 : 0 < b := by omega
    show whL t body (999 + 1) (E a b) m = _
    unfold whL
    rw [hT]
    have hz : (0 : Int) < (b : Int) := by omega
    simp only [decide_eq_true hz, st_ok]
    rw [hB _ _ (by omega)]
    show whL t body 999 (E (b : Int) ((a : Int).fmod (b : Int))) m = _
    have e : (a : Int).fmod (b : Int) = (a : Int) := by
      rw [Int.fmod_eq_emod_of_nonneg _ (by omega)]
      exact Int.emod_eq_of_lt (by omega) (by omega)
    rw [e, whL_gcd hT hB 998 b a (by omega) (by rw [Nat.mul_comm]; exact h) 999 (by decide), Nat.gcd_comm]
theorem abs_nat (i : Int) : (if i < 0 then -i else i) = (i.natAbs : Int) := by split <;> omega
/-- a fraction in its least words -/
def fq (t b : Int) : T := .tup [.int (t.fdiv (if 0 < b then (Int.gcd t b : Int) else -(Int.gcd t b : Int))), .int (b.fdiv (if 0 < b then (Int.gcd t b : Int) else -(Int.gcd t b : Int)))]
theorem mulC_l {i j : Int} (h : i.natAbs < 18446744073709551616) : mulC i j = true := by unfold mulC; simp [h]
theorem mulC_r {i j : Int} (h : j.natAbs < 18446744073709551616) : mulC i j = true := by unfold mulC; simp [h]
theorem log2_small {n : Nat} {k : Nat} (h : n < 2 ^ k) (hk : 0 < k) : n.log2 < k := by
  by_cases h0 : n = 0
  · subst h0; simpa using hk
  · exact (Nat.log2_lt h0).mpr h
theorem divC_gcd {i t b : Int} (hb : b ≠ 0) (h : b.natAbs < 2 ^ 998) : divC i (if 0 < b then (Int.gcd t b : Int) else -(Int.gcd t b : Int)) = true := by
  have hg : 0 < Int.gcd t b := Int.gcd_pos_of_ne_zero_right _ hb
  have hl : Int.gcd t b ≤ b.natAbs := Nat.gcd_le_right _ (by omega)
  have ha : (if 0 < b then (Int.gcd t b : Int) else -(Int.gcd t b : Int)).natAbs = Int.gcd t b := by split <;> simp
  unfold divC
  rw [ha]
  have hn : (if 0 < b then (Int.gcd t b : Int) else -(Int.gcd t b : Int)) ≠ 0 := by split <;> omega
  have hlog : (Int.gcd t b).log2 < 9000 := Nat.lt_of_lt_of_le (log2_small (Nat.lt_of_le_of_lt hl h) (by decide)) (by decide)
  simp [hn, hlog]
end Tw

namespace Tw
open PySem L2
section
variable {m : Mem} {e : En} {u w : U} {i : Int} {t : T} {ts us : List T} {b : Bool} {n n2 : Tn} {s : Str}
@[simp] theorem isi2_i : bIsi [.p (.int i), .p (.tup [.ty n, .ty n2])] m = .ok (.p (.bl (isTn .int n || isTn .int n2))) m := by
  show R.ok (U.p (T.bl (isTn .int n || (isTn .int n2 || false)))) m = _
  rw [Bool.or_false]
@[simp] theorem isi2_b : bIsi [.p (.bl b), .p (.tup [.ty n, .ty n2])] m = .ok (.p (.bl (isTn .bool n || isTn .bool n2))) m := by
  show R.ok (U.p (T.bl (isTn .bool n || (isTn .bool n2 || false)))) m = _
  rw [Bool.or_false]
@[simp] theorem isi2_n : bIsi [.p .non, .p (.tup [.ty n, .ty n2])] m = .ok (.p (.bl (isTn .none n || isTn .none n2))) m := by
  show R.ok (U.p (T.bl (isTn .none n || (isTn .none n2 || false)))) m = _
  rw [Bool.or_false]
@[simp] theorem isi2_s : bIsi [.p (.str s), .p (.tup [.ty n, .ty n2])] m = .ok (.p (.bl (isTn .str n || isTn .str n2))) m := by
  show R.ok (U.p (T.bl (isTn .str n || (isTn .str n2 || false)))) m = _
  rw [Bool.or_false]
@[simp] theorem isi2_t : bIsi [.p (.tup ts), .p (.tup [.ty n, .ty n2])] m = .ok (.p (.bl (isTn .tuple n || isTn .tuple n2))) m := by
  show R.ok (U.p (T.bl (isTn .tuple n || (isTn .tuple n2 || false)))) m = _
  rw [Bool.or_false]
@[simp] theorem isi2_l : bIsi [.p (.lst ts), .p (.tup [.ty n, .ty n2])] m = .ok (.p (.bl (isTn .list n || isTn .list n2))) m := by
  show R.ok (U.p (T.bl (isTn .list n || (isTn .list n2 || false)))) m = _
  rw [Bool.or_false]
@[simp] theorem dIsN_e (neg : Bool) (d : D) : dIsN neg d e m = (d e m).bind fun u m1 => .ok (.p (.bl (if neg then !u.isN else u.isN))) m1 := rfl
@[simp] theorem isN_non : U.isN (.p .non) = true := rfl
@[simp] theorem isN_i : U.isN (.p (.int i)) = false := rfl
@[simp] theorem isN_b : U.isN (.p (.bl b)) = false := rfl
@[simp] theorem isN_s : U.isN (.p (.str s)) = false := rfl
@[simp] theorem isN_t : U.isN (.p (.tup ts)) = false := rfl
@[simp] theorem isN_l : U.isN (.p (.lst ts)) = false := rfl
def zipU (u w : U) (m : Mem) : R (List T) := match u, w with
  | .p (.tup ts), .p (.tup us) => .ok (zpT ts us) m
  | .p x, .p y => match lsOf x, lsOf y with
    | some ts, some us => .ok (zpT ts us) m
    | _, _ => .bad
  | _, _ => .bad
@[simp] theorem zipU_t : zipU (.p (.tup ts)) (.p (.tup us)) m = .ok (zpT ts us) m := rfl
@[simp] theorem zipU_l : zipU (.p (.lst ts)) (.p (.lst us)) m = .ok (zpT ts us) m := rfl
@[simp] theorem dZip_e (p q : D) : dZip p q e m = (p e m).bind fun u m1 => (q e m1).bind fun w m2 => zipU u w m2 := rfl
theorem zp_self : ∀ ts : List T, zpT ts ts = ts.map fun t => T.tup [t, t]
  | [] => rfl
  | t :: r => by simp [zpT, zp_self r]
theorem bls_all : ∀ n : Nat, blsOf (List.replicate n (T.bl true)) = some (List.replicate n true)
  | 0 => rfl
  | n + 1 => by
    show (blsOf (List.replicate n (T.bl true))).map (true :: ·) = _
    rw [bls_all n]; rfl
theorem bls_map : ∀ bs : List Bool, blsOf (bs.map T.bl) = some bs
  | [] => rfl
  | b :: r => by
    show (blsOf (r.map T.bl)).map (b :: ·) = _
    rw [bls_map r]; rfl
@[simp] theorem feq_bb (a b : Bool) (ng : Bool) : fEq ng (.p (.bl a)) (.p (.bl b)) m = .ok (.p (.bl (if ng then !(a == b) else (a == b)))) m := rfl
theorem feq_tt (ng : Bool) (a b : T) (h1 : SeqAt.shaped a.toD = true) (h2 : SeqAt.shaped b.toD = true) : fEq ng (.p a) (.p b) m = .ok (.p (.bl (if ng then !PyData.eqv a.toD b.toD else PyData.eqv a.toD b.toD))) m := by
  show (if (SeqAt.shaped a.toD && SeqAt.shaped b.toD) = true then R.ok (U.p (.bl (if ng then !PyData.eqv a.toD b.toD else PyData.eqv a.toD b.toD))) m else .bad) = _
  rw [h1, h2]; rfl
theorem eqv_str (s : Str) : PyData.eqv (.str s) (.str s) = true := by
  show (s == s) = true
  simp
theorem feq_str (h : SeqAt.shaped (.str s) = true) : fEq false (.p (.str s)) (.p (.str s)) m = .ok (.p (.bl true)) m := by
  rw [feq_tt false (.str s) (.str s) h h]
  show R.ok (U.p (.bl (PyData.eqv (.str s) (.str s)))) m = _
  rw [eqv_str]
/-- data of a depth: numbers, texts, truths, None, in lists and tuples -/
def okT : Nat → T → Bool
  | _, .non => true
  | _, .bl _ => true
  | _, .int _ => true
  | _, .str s => SeqAt.shaped (.str s)
  | n + 1, .tup ts => ts.all (okT n) && decide (ts.length ≤ 16777216)
  | n + 1, .lst ts => ts.all (okT n) && decide (ts.length ≤ 16777216)
  | _, _ => false
/-- a body's end, where the lists laid in it are forgotten -/
def finD (l : Nat) (r : RS) : R U := match r with
  | .next _ m' => .ok (.p .non) (m'.take l)
  | .ret (.p t) m' => .ok (.p t) (m'.take l)
  | .ret (.mu j) m' => .ok (.mu j) m'
  | .exc x _ m' => .exc x (m'.take l)
  | _ => .bad
@[simp] theorem finD_n (l : Nat) : finD l (.next e m) = .ok (.p .non) (m.take l) := rfl
@[simp] theorem finD_r (l : Nat) : finD l (.ret (.p t) m) = .ok (.p t) (m.take l) := rfl
@[simp] theorem finD_m (l k : Nat) : finD l (.ret (.mu k) m) = .ok (.mu k) m := rfl
@[simp] theorem finD_x (l : Nat) (x : Ex) : finD l (.exc x e m) = .exc x (m.take l) := rfl
theorem fnD_e (n k : Nat) (d : DS) (us : List U) (h : us.length = n) : fnD n k d us m = finD m.length (d (us.map some ++ List.replicate (k - n) none) m) := by
  unfold fnD; rw [if_pos h]; rfl
theorem fnD1 (k : Nat) (d : DS) (u : U) : fnD 1 k d [u] m = finD m.length (d (some u :: List.replicate (k - 1) none) m) := fnD_e _ _ _ _ rfl
theorem fnD2 (k : Nat) (d : DS) (u v : U) : fnD 2 k d [u, v] m = finD m.length (d (some u :: some v :: List.replicate (k - 2) none) m) := fnD_e _ _ _ _ rfl
theorem fnD3 (k : Nat) (d : DS) (u v w : U) : fnD 3 k d [u, v, w] m = finD m.length (d (some u :: some v :: some w :: List.replicate (k - 3) none) m) := fnD_e _ _ _ _ rfl
end
end Tw

/-! the text of the row, by gen.py -/
namespace K10
open PySem PySem.Spec PyProof.Rows L2 Tw
def top (i : Nat) : Stmt := PySem.Challenge.pw_lettersandnumbers_k10_whole_amounts_by_o.main.body.getD i (.Pass ⟨0, 0, 0, 0⟩)
abbrev exNames : List Str := ["Unfit", "NoPaper"]
def d_is_number : DS := (sRet (dAnd (dCall bIsi (dCons (dVar 0) (dCons (dC (.ty .int)) dNil))) (dNot (dCall bIsi (dCons (dVar 0) (dCons (dC (.ty .bool)) dNil))))))
def φ_is_number : FN := fnP 1 1 d_is_number
def d_is_count : DS := (sRet (dAnd (dCall φ_is_number (dCons (dVar 0) dNil)) (dBin fGe (dVar 0) (dC (.int 0)))))
def φ_is_count : FN := fnP 1 1 d_is_count
def d_is_below : DS := (sRet (dAnd (dCall φ_is_count (dCons (dVar 0) dNil)) (dBin fLt (dVar 0) (dVar 1))))
def φ_is_below : FN := fnP 2 2 d_is_below
def d_is_pair : DS := (sRet (dAnd (dCall bIsi (dCons (dVar 0) (dCons (dC (.ty .tuple)) dNil))) (dBin (fEq false) (dCall bLen (dCons (dVar 0) dNil)) (dC (.int 2)))))
def φ_is_pair : FN := fnP 1 1 d_is_pair
def c_tupled_1 (self : FN) : D := (dCall self (dCons (dVar 1) dNil))
def d_tupled (self : FN) : DS := (sRet (dIf (dTru (dCall bIsi (dCons (dVar 0) (dCons (dTup (dCons (dC (.ty .list)) (dCons (dC (.ty .tuple)) dNil))) dNil)))) (dCall bTuple (dCons (dLc .tree [1] (dItems (dVar 0)) (.nm 1) dYes (c_tupled_1 self)) dNil)) (dVar 0)))
def φ_tupled : Nat → FN
  | 0 => fun _ _ => .bad
  | n + 1 => fnP 1 2 (d_tupled (φ_tupled n))
def d_sure : DS := (sIf (dNotB (dTru (dVar 0))) (sRaise "Unfit") sSkip)
def φ_sure : FN := fnP 1 1 d_sure
def d_sure_count : DS := (sSeq (sExpr (dCall φ_sure (dCons (dCall φ_is_count (dCons (dVar 0) dNil)) dNil)))
  (sRet (dVar 0)))
def φ_sure_count : FN := fnP 1 1 d_sure_count
def b_common_of_1 : DS := (sPar 2 3 (dCons (dVar 3) (dCons (dBin fMod (dVar 2) (dVar 3)) dNil)))
def w_common_of_2 : DB := (dAsB (dBin fGt (dVar 3) (dC (.int 0))))
def s_common_of_3 : DS := (sPar 2 3 (dCons (dCall bAbs (dCons (dVar 0) dNil)) (dCons (dCall bAbs (dCons (dVar 1) dNil)) dNil)))
def s_common_of_4 : DS := (whL w_common_of_2 b_common_of_1 1000)
def s_common_of_5 : DS := (sRet (dVar 2))
def d_common_of : DS := (sSeq s_common_of_3 (sSeq s_common_of_4 s_common_of_5))
def φ_common_of : FN := fnP 2 4 d_common_of
def d_is_field : DS := (sRet (dAnd (dCall φ_is_number (dCons (dVar 0) dNil)) (dBin (fIn false) (dVar 0) (dC (.tup [.int 0, .int 2, .int 3, .int 5, .int 7, .int 11, .int 13])))))
def φ_is_field : FN := fnP 1 1 d_is_field
def d_sure_field : DS := (sSeq (sExpr (dCall φ_sure (dCons (dCall φ_is_field (dCons (dVar 0) dNil)) dNil)))
  (sRet (dVar 0)))
def φ_sure_field : FN := fnP 1 1 d_sure_field
def s_is_amount_in_1 : DS := (sIf (dAsB (dBin fGt (dVar 0) (dC (.int 0)))) (sRet (dCall φ_is_below (dCons (dVar 1) (dCons (dVar 0) dNil)))) sSkip)
def s_is_amount_in_2 : DS := (sIf (dOrB (dNotB (dTru (dCall φ_is_pair (dCons (dVar 1) dNil)))) (dOrB (dNotB (dTru (dCall φ_is_number (dCons (dBin fIx (dVar 1) (dC (.int 0))) dNil)))) (dNotB (dTru (dCall φ_is_number (dCons (dBin fIx (dVar 1) (dC (.int 1))) dNil)))))) (sRet (dC (.bl false))) sSkip)
def s_is_amount_in_3 : DS := (sRet (dAnd (dBin fGt (dBin fIx (dVar 1) (dC (.int 1))) (dC (.int 0))) (dBin (fEq false) (dCall φ_common_of (dCons (dBin fIx (dVar 1) (dC (.int 0))) (dCons (dBin fIx (dVar 1) (dC (.int 1))) dNil))) (dC (.int 1)))))
def d_is_amount_in : DS := (sSeq s_is_amount_in_1 (sSeq s_is_amount_in_2 s_is_amount_in_3))
def φ_is_amount_in : FN := fnP 2 2 d_is_amount_in
def d_is_amount : DS := (sRet (dCall φ_is_amount_in (dCons (dCall φ_sure_field (dCons (dVar 0) dNil)) (dCons (dVar 1) dNil))))
def φ_is_amount : FN := fnP 2 2 d_is_amount
def s_sure_amount_1 : DS := (sSet 2 (dCall (φ_tupled 8) (dCons (dVar 1) dNil)))
def s_sure_amount_2 : DS := (sExpr (dCall φ_sure (dCons (dCall φ_is_amount_in (dCons (dVar 0) (dCons (dVar 2) dNil))) dNil)))
def s_sure_amount_3 : DS := (sRet (dVar 2))
def d_sure_amount : DS := (sSeq s_sure_amount_1 (sSeq s_sure_amount_2 s_sure_amount_3))
def φ_sure_amount : FN := fnP 2 3 d_sure_amount
def s_fraction_1 : DS := (sSet 2 (dCall φ_common_of (dCons (dVar 0) (dCons (dVar 1) dNil))))
def s_fraction_2 : DS := (sSet 3 (dIf (dAsB (dBin fGt (dVar 1) (dC (.int 0)))) (dVar 2) (dNeg (dVar 2))))
def s_fraction_3 : DS := (sRet (dTup (dCons (dBin fDiv (dVar 0) (dVar 3)) (dCons (dBin fDiv (dVar 1) (dVar 3)) dNil))))
def d_fraction : DS := (sSeq s_fraction_1 (sSeq s_fraction_2 s_fraction_3))
def φ_fraction : FN := fnP 2 4 d_fraction
def d_number_in : DS := (sRet (dIf (dAsB (dBin (fEq false) (dVar 0) (dC (.int 0)))) (dTup (dCons (dVar 1) (dCons (dC (.int 1)) dNil))) (dBin fMod (dVar 1) (dVar 0))))
def φ_number_in : FN := fnP 2 2 d_number_in
def d_nought : DS := (sRet (dCall φ_number_in (dCons (dVar 0) (dCons (dC (.int 0)) dNil))))
def φ_nought : FN := fnP 1 1 d_nought
def d_unit : DS := (sRet (dCall φ_number_in (dCons (dVar 0) (dCons (dC (.int 1)) dNil))))
def φ_unit : FN := fnP 1 1 d_unit
def d_plus_in : DS := (sSeq (sIf (dAsB (dBin (fEq false) (dVar 0) (dC (.int 0)))) (sRet (dCall φ_fraction (dCons (dBin (fAdd .tree) (dBin fMul (dBin fIx (dVar 1) (dC (.int 0))) (dBin fIx (dVar 2) (dC (.int 1)))) (dBin fMul (dBin fIx (dVar 2) (dC (.int 0))) (dBin fIx (dVar 1) (dC (.int 1))))) (dCons (dBin fMul (dBin fIx (dVar 1) (dC (.int 1))) (dBin fIx (dVar 2) (dC (.int 1)))) dNil)))) sSkip)
  (sRet (dBin fMod (dBin (fAdd .tree) (dVar 1) (dVar 2)) (dVar 0))))
def φ_plus_in : FN := fnP 3 3 d_plus_in
def d_minus_in : DS := (sRet (dIf (dAsB (dBin (fEq false) (dVar 0) (dC (.int 0)))) (dTup (dCons (dNeg (dBin fIx (dVar 1) (dC (.int 0)))) (dCons (dBin fIx (dVar 1) (dC (.int 1))) dNil))) (dBin fMod (dNeg (dVar 1)) (dVar 0))))
def φ_minus_in : FN := fnP 2 2 d_minus_in
def d_less_in : DS := (sRet (dCall φ_plus_in (dCons (dVar 0) (dCons (dVar 1) (dCons (dCall φ_minus_in (dCons (dVar 0) (dCons (dVar 2) dNil))) dNil)))))
def φ_less_in : FN := fnP 3 3 d_less_in
def d_times_in : DS := (sRet (dIf (dAsB (dBin (fEq false) (dVar 0) (dC (.int 0)))) (dCall φ_fraction (dCons (dBin fMul (dBin fIx (dVar 1) (dC (.int 0))) (dBin fIx (dVar 2) (dC (.int 0)))) (dCons (dBin fMul (dBin fIx (dVar 1) (dC (.int 1))) (dBin fIx (dVar 2) (dC (.int 1)))) dNil))) (dBin fMod (dBin fMul (dVar 1) (dVar 2)) (dVar 0))))
def φ_times_in : FN := fnP 3 3 d_times_in
def b_power_in_1 : DS := (sSet 3 (dCall φ_times_in (dCons (dVar 0) (dCons (dVar 3) (dCons (dVar 1) dNil)))))
def s_power_in_2 : DS := (sSet 3 (dCall φ_unit (dCons (dVar 0) dNil)))
def s_power_in_3 : DS := (sFor (dRg1 (dVar 2)) (.nm 4) b_power_in_1)
def s_power_in_4 : DS := (sRet (dVar 3))
def d_power_in : DS := (sSeq s_power_in_2 (sSeq s_power_in_3 s_power_in_4))
def φ_power_in : FN := fnP 3 5 d_power_in
def d_back_in : DS := (sRet (dIf (dAsB (dBin (fEq false) (dVar 0) (dC (.int 0)))) (dCall φ_fraction (dCons (dBin fIx (dVar 1) (dC (.int 1))) (dCons (dBin fIx (dVar 1) (dC (.int 0))) dNil))) (dCall φ_power_in (dCons (dVar 0) (dCons (dVar 1) (dCons (dBin fSub (dVar 0) (dC (.int 2))) dNil))))))
def φ_back_in : FN := fnP 2 2 d_back_in
def b_sum_in_1 : DS := (sSet 2 (dCall φ_plus_in (dCons (dVar 0) (dCons (dVar 2) (dCons (dVar 3) dNil)))))
def s_sum_in_2 : DS := (sSet 2 (dCall φ_nought (dCons (dVar 0) dNil)))
def s_sum_in_3 : DS := (sFor (dItems (dVar 1)) (.nm 3) b_sum_in_1)
def s_sum_in_4 : DS := (sRet (dVar 2))
def d_sum_in : DS := (sSeq s_sum_in_2 (sSeq s_sum_in_3 s_sum_in_4))
def φ_sum_in : FN := fnP 2 4 d_sum_in
def b_product_of_all_1 : DS := (sSet 2 (dCall φ_times_in (dCons (dVar 0) (dCons (dVar 2) (dCons (dVar 3) dNil)))))
def s_product_of_all_2 : DS := (sSet 2 (dCall φ_unit (dCons (dVar 0) dNil)))
def s_product_of_all_3 : DS := (sFor (dItems (dVar 1)) (.nm 3) b_product_of_all_1)
def s_product_of_all_4 : DS := (sRet (dVar 2))
def d_product_of_all : DS := (sSeq s_product_of_all_2 (sSeq s_product_of_all_3 s_product_of_all_4))
def φ_product_of_all : FN := fnP 2 4 d_product_of_all
def c_are_amounts_in_1 : D := (dCall φ_is_amount_in (dCons (dVar 0) (dCons (dVar 2) dNil)))
def d_are_amounts_in : DS := (sRet (dAnd (dCall bIsi (dCons (dVar 1) (dCons (dC (.ty .tuple)) dNil))) (dCall (bAll true) (dCons (dLc .tree [2] (dItems (dVar 1)) (.nm 2) dYes c_are_amounts_in_1) dNil))))
def φ_are_amounts_in : FN := fnP 2 3 d_are_amounts_in
def s_sure_amounts_1 : DS := (sPar 2 3 (dCons (dCall φ_sure_field (dCons (dVar 0) dNil)) (dCons (dCall (φ_tupled 8) (dCons (dVar 1) dNil)) dNil)))
def s_sure_amounts_2 : DS := (sExpr (dCall φ_sure (dCons (dCall φ_are_amounts_in (dCons (dVar 2) (dCons (dVar 3) dNil))) dNil)))
def s_sure_amounts_3 : DS := (sRet (dTup (dCons (dVar 2) (dCons (dVar 3) dNil))))
def d_sure_amounts : DS := (sSeq s_sure_amounts_1 (sSeq s_sure_amounts_2 s_sure_amounts_3))
def φ_sure_amounts : FN := fnP 2 4 d_sure_amounts
def d_sure_two_amounts : DS := (sSeq (sSet 3 (dCall φ_sure_field (dCons (dVar 0) dNil)))
  (sRet (dTup (dCons (dVar 3) (dCons (dCall φ_sure_amount (dCons (dVar 3) (dCons (dVar 1) dNil))) (dCons (dCall φ_sure_amount (dCons (dVar 3) (dCons (dVar 2) dNil))) dNil))))))
def φ_sure_two_amounts : FN := fnP 3 4 d_sure_two_amounts
def s_amount_of_1 : DS := (sSet 2 (dCall φ_sure_field (dCons (dVar 0) dNil)))
def s_amount_of_2 : DS := (sExpr (dCall φ_sure (dCons (dCall φ_is_number (dCons (dVar 1) dNil)) dNil)))
def s_amount_of_3 : DS := (sRet (dCall φ_number_in (dCons (dVar 2) (dCons (dVar 1) dNil))))
def d_amount_of : DS := (sSeq s_amount_of_1 (sSeq s_amount_of_2 s_amount_of_3))
def φ_amount_of : FN := fnP 2 3 d_amount_of
def s_amounts_of_1 : DS := (sSet 1 (dCall φ_sure_field (dCons (dVar 0) dNil)))
def s_amounts_of_2 : DS := (sIf (dAsB (dBin (fEq false) (dVar 1) (dC (.int 0)))) (sRaise "NoPaper") sSkip)
def s_amounts_of_3 : DS := (sRet (dLrg .tree (dVar 1)))
def d_amounts_of : DS := (sSeq s_amounts_of_1 (sSeq s_amounts_of_2 s_amounts_of_3))
def φ_amounts_of : FN := fnP 1 2 d_amounts_of
def d_amount_plus : DS := (sSeq (sAsg (dCall φ_sure_two_amounts (dCons (dVar 0) (dCons (dVar 1) (dCons (dVar 2) dNil)))) (gTp 3 (gsCons (gNm 3) (gsCons (gNm 4) (gsCons (gNm 5) gsNil)))))
  (sRet (dCall φ_plus_in (dCons (dVar 3) (dCons (dVar 4) (dCons (dVar 5) dNil))))))
def φ_amount_plus : FN := fnP 3 6 d_amount_plus
def d_amount_less : DS := (sSeq (sAsg (dCall φ_sure_two_amounts (dCons (dVar 0) (dCons (dVar 1) (dCons (dVar 2) dNil)))) (gTp 3 (gsCons (gNm 3) (gsCons (gNm 4) (gsCons (gNm 5) gsNil)))))
  (sRet (dCall φ_less_in (dCons (dVar 3) (dCons (dVar 4) (dCons (dVar 5) dNil))))))
def φ_amount_less : FN := fnP 3 6 d_amount_less
def d_amount_times : DS := (sSeq (sAsg (dCall φ_sure_two_amounts (dCons (dVar 0) (dCons (dVar 1) (dCons (dVar 2) dNil)))) (gTp 3 (gsCons (gNm 3) (gsCons (gNm 4) (gsCons (gNm 5) gsNil)))))
  (sRet (dCall φ_times_in (dCons (dVar 3) (dCons (dVar 4) (dCons (dVar 5) dNil))))))
def φ_amount_times : FN := fnP 3 6 d_amount_times
def s_amount_over_1 : DS := (sAsg (dCall φ_sure_two_amounts (dCons (dVar 0) (dCons (dVar 1) (dCons (dVar 2) dNil)))) (gTp 3 (gsCons (gNm 3) (gsCons (gNm 4) (gsCons (gNm 5) gsNil)))))
def s_amount_over_2 : DS := (sIf (dAsB (dBin (fEq false) (dVar 5) (dCall φ_nought (dCons (dVar 3) dNil)))) (sRaise "NoPaper") sSkip)
def s_amount_over_3 : DS := (sRet (dCall φ_times_in (dCons (dVar 3) (dCons (dVar 4) (dCons (dCall φ_back_in (dCons (dVar 3) (dCons (dVar 5) dNil))) dNil)))))
def d_amount_over : DS := (sSeq s_amount_over_1 (sSeq s_amount_over_2 s_amount_over_3))
def φ_amount_over : FN := fnP 3 6 d_amount_over
def s_amount_power_1 : DS := (sSet 3 (dCall φ_sure_field (dCons (dVar 0) dNil)))
def s_amount_power_2 : DS := (sSet 4 (dCall φ_sure_amount (dCons (dVar 3) (dCons (dVar 1) dNil))))
def s_amount_power_3 : DS := (sRet (dCall φ_power_in (dCons (dVar 3) (dCons (dVar 4) (dCons (dCall φ_sure_count (dCons (dVar 2) dNil)) dNil)))))
def d_amount_power : DS := (sSeq s_amount_power_1 (sSeq s_amount_power_2 s_amount_power_3))
def φ_amount_power : FN := fnP 3 5 d_amount_power
def d_amounts_sum : DS := (sSeq (sAsg (dCall φ_sure_amounts (dCons (dVar 0) (dCons (dVar 1) dNil))) (gTp 2 (gsCons (gNm 2) (gsCons (gNm 3) gsNil))))
  (sRet (dCall φ_sum_in (dCons (dVar 2) (dCons (dVar 3) dNil)))))
def φ_amounts_sum : FN := fnP 2 4 d_amounts_sum
def d_amounts_product : DS := (sSeq (sAsg (dCall φ_sure_amounts (dCons (dVar 0) (dCons (dVar 1) dNil))) (gTp 2 (gsCons (gNm 2) (gsCons (gNm 3) gsNil))))
  (sRet (dCall φ_product_of_all (dCons (dVar 2) (dCons (dVar 3) dNil)))))
def φ_amounts_product : FN := fnP 2 4 d_amounts_product
def d__law_box : DS := (sSeq (sSet 2 (dIf (dAsB (dBin fLt (dVar 1) (dCall bLen (dCons (dVar 0) dNil)))) (dBin fIx (dVar 0) (dVar 1)) (dC (.int 0))))
  (sRet (dLst .mu (dCons (dBin fMul (dCall bAbs (dCons (dVar 2) dNil)) (dCall bInt (dCons (dBin fGe (dCall bAbs (dCons (dVar 2) dNil)) (dBin fPow (dC (.int 10)) (dC (.int 18)))) dNil))) (dCons (dBin (fAdd .tree) (dBin (fAdd .tree) (dBin fMod (dCall bInt (dCons (dVar 2) dNil)) (dC (.int 2305843009213693951))) (dBin fMul (dC (.int 40709)) (dVar 1))) (dC (.int 26645))) (dCons (dC (.int 0)) dNil))))))
def φ__law_box : FN := fnD 2 3 d__law_box
def s__law_take_1 : DS := (sIf (dAsB (dBin fGt (dBin fIx (dVar 0) (dC (.int 0))) (dC (.int 0)))) (sSeq (sSet 2 (dBin fMod (dCall bInt (dCons (dBin fIx (dVar 0) (dC (.int 0))) dNil)) (dVar 1)))
  (sSeq (sAsg (dBin fDiv (dBin fIx (dVar 0) (dC (.int 0))) (dVar 1)) (gSb (dVar 0) (dC (.int 0))))
  (sRet (dVar 2)))) sSkip)
def s__law_take_2 : DS := (sAsg (dBin (fAdd .tree) (dBin fIx (dVar 0) (dC (.int 2))) (dC (.int 1))) (gSb (dVar 0) (dC (.int 2))))
def s__law_take_3 : DS := (sSet 3 (dBin fMod (dCall bInt (dCons (dBin fMul (dBin (fAdd .tree) (dBin fIx (dVar 0) (dC (.int 1))) (dBin fMul (dC (.int 48611)) (dBin fIx (dVar 0) (dC (.int 2))))) (dBin (fAdd .tree) (dC (.int 40709)) (dBin fIx (dVar 0) (dC (.int 2))))) dNil)) (dC (.int 2147483647))))
def s__law_take_4 : DS := (sSet 4 (dBin (fAdd .tree) (dBin fMod (dCall bInt (dCons (dVar 3) dNil)) (dC (.int 39119))) (dC (.int 9))))
def s__law_take_5 : DS := (sSet 5 (dBin fMod (dCall bInt (dCons (dBin fMul (dBin (fAdd .tree) (dBin (fAdd .tree) (dVar 3) (dBin fIx (dVar 0) (dC (.int 2)))) (dBin fDiv (dBin fIx (dVar 0) (dC (.int 1))) (dC (.int 1000039)))) (dVar 4)) dNil)) (dC (.int 2147483629))))
def s__law_take_6 : DS := (sRet (dBin fMod (dCall bInt (dCons (dBin fDiv (dBin fMod (dCall bInt (dCons (dBin (fAdd .tree) (dBin fMul (dVar 5) (dC (.int 48611))) (dVar 3)) dNil)) (dC (.int 2147483587))) (dC (.int 64))) dNil)) (dVar 1)))
def d__law_take : DS := (sSeq s__law_take_1 (sSeq s__law_take_2 (sSeq s__law_take_3 (sSeq s__law_take_4 (sSeq s__law_take_5 s__law_take_6)))))
def φ__law_take : FN := fnP 2 6 d__law_take
def b__law_cells_1 : DS := (sSeq (sSet 5 (dBin fMod (dCall bInt (dCons (dVar 3) dNil)) (dVar 1)))
  (sAsg (dBin (fAdd .tree) (dBin fIx (dVar 2) (dVar 5)) (dBin fMul (dVar 4) (dBin (fAdd .tree) (dVar 3) (dC (.int 2))))) (gSb (dVar 2) (dVar 5))))
def s__law_cells_2 : DS := (sSet 2 (dOr (dCall (bList .mu) (dCons (dSl .tree (dVar 0) dNoP (dSoP (dVar 1))) dNil)) (dLst .mu (dCons (dC (.int 0)) dNil))))
def s__law_cells_3 : DS := (sFor (dEnum (dSl .tree (dVar 0) (dSoP (dVar 1)) (dSoP (dC (.int 63))))) (.tp [(.nm 3), (.nm 4)]) b__law_cells_1)
def s__law_cells_4 : DS := (sRet (dVar 2))
def d__law_cells : DS := (sSeq s__law_cells_2 (sSeq s__law_cells_3 s__law_cells_4))
def φ__law_cells : FN := fnD 2 6 d__law_cells
def d__law_of : DS := (sRet (dBin fIx (dVar 1) (dCall φ__law_take (dCons (dVar 0) (dCons (dCall bLen (dCons (dVar 1) dNil)) dNil)))))
def φ__law_of : FN := fnP 2 2 d__law_of
def c__law_same_1 (self : FN) : D := (dCall self (dCons (dVar 2) (dCons (dVar 3) dNil)))
def s__law_same_2 (self : FN) : DS := (sIf (dTru (dCall bIsi (dCons (dVar 1) (dCons (dTup (dCons (dC (.ty .list)) (dCons (dC (.ty .tuple)) dNil))) dNil)))) (sSeq (sIf (dOrB (dAsB (dBin (fEq true) (dCall bIsi (dCons (dVar 0) (dCons (dC (.ty .list)) dNil))) (dCall bIsi (dCons (dVar 1) (dCons (dC (.ty .list)) dNil))))) (dAsB (dBin (fEq true) (dCall bIsi (dCons (dVar 0) (dCons (dC (.ty .tuple)) dNil))) (dCall bIsi (dCons (dVar 1) (dCons (dC (.ty .tuple)) dNil)))))) (sRet (dC (.bl false))) sSkip)
  (sRet (dAnd (dBin (fEq false) (dCall bLen (dCons (dVar 0) dNil)) (dCall bLen (dCons (dVar 1) dNil))) (dCall (bAll true) (dCons (dLc .tree [2, 3] (dZip (dVar 0) (dVar 1)) (.tp [(.nm 2), (.nm 3)]) dYes (c__law_same_1 self)) dNil))))) sSkip)
def s__law_same_3 (self : FN) : DS := (sIf (dOrB (dAsB (dIsN false (dVar 1))) (dTru (dCall bIsi (dCons (dVar 1) (dCons (dTup (dCons (dC (.ty .bool)) (dCons (dC (.ty .str)) dNil))) dNil))))) (sRet (dAnd (dBin (fEq false) (dVar 0) (dVar 1)) (dAnd (dBin (fEq false) (dCall bIsi (dCons (dVar 0) (dCons (dC (.ty .bool)) dNil))) (dCall bIsi (dCons (dVar 1) (dCons (dC (.ty .bool)) dNil)))) (dBin (fEq false) (dIsN false (dVar 0)) (dIsN false (dVar 1)))))) sSkip)
def s__law_same_4 (self : FN) : DS := (sRet (dAnd (dCall bIsi (dCons (dVar 0) (dCons (dC (.ty .int)) dNil))) (dAnd (dNot (dCall bIsi (dCons (dVar 0) (dCons (dC (.ty .bool)) dNil)))) (dBin (fEq false) (dVar 0) (dVar 1)))))
def d__law_same (self : FN) : DS := (sSeq (s__law_same_2 self) (sSeq (s__law_same_3 self) (s__law_same_4 self)))
def φ__law_same : Nat → FN
  | 0 => fun _ _ => .bad
  | n + 1 => fnP 2 4 (d__law_same (φ__law_same n))
def c__law_lists_1 (self : FN) : D := (dCall self (dCons (dVar 1) dNil))
def d__law_lists (self : FN) : DS := (sRet (dIf (dTru (dCall bIsi (dCons (dVar 0) (dCons (dTup (dCons (dC (.ty .list)) (dCons (dC (.ty .tuple)) dNil))) dNil)))) (dLc .tree [1] (dItems (dVar 0)) (.nm 1) dYes (c__law_lists_1 self)) (dVar 0)))
def φ__law_lists : Nat → FN
  | 0 => fun _ _ => .bad
  | n + 1 => fnP 1 2 (d__law_lists (φ__law_lists n))
def b__law_common_1 : DS := (sPar 0 1 (dCons (dVar 1) (dCons (dBin fMod (dCall bInt (dCons (dVar 0) dNil)) (dVar 1)) dNil)))
def w__law_common_2 : DB := (dAsB (dBin fGt (dVar 1) (dC (.int 0))))
def s__law_common_3 : DS := (sPar 0 1 (dCons (dCall bAbs (dCons (dVar 0) dNil)) (dCons (dCall bAbs (dCons (dVar 1) dNil)) dNil)))
def s__law_common_4 : DS := (whL w__law_common_2 b__law_common_1 1000)
def s__law_common_5 : DS := (sRet (dVar 0))
def d__law_common : DS := (sSeq s__law_common_3 (sSeq s__law_common_4 s__law_common_5))
def φ__law_common : FN := fnP 2 2 d__law_common
def s__law_frac_1 : DS := (sSet 2 (dCall φ__law_common (dCons (dVar 0) (dCons (dVar 1) dNil))))
def s__law_frac_2 : DS := (sSet 2 (dIf (dAsB (dBin fGt (dVar 1) (dC (.int 0)))) (dVar 2) (dNeg (dVar 2))))
def s__law_frac_3 : DS := (sRet (dTup (dCons (dBin fDiv (dVar 0) (dVar 2)) (dCons (dBin fDiv (dVar 1) (dVar 2)) dNil))))
def d__law_frac : DS := (sSeq s__law_frac_1 (sSeq s__law_frac_2 s__law_frac_3))
def φ__law_frac : FN := fnP 2 3 d__law_frac
def d__law_num : DS := (sRet (dIf (dAsB (dBin (fEq false) (dVar 0) (dC (.int 0)))) (dTup (dCons (dVar 1) (dCons (dC (.int 1)) dNil))) (dBin fMod (dCall bInt (dCons (dVar 1) dNil)) (dVar 0))))
def φ__law_num : FN := fnP 2 2 d__law_num
def d__law_sum : DS := (sSeq (sIf (dAsB (dBin (fEq false) (dVar 0) (dC (.int 0)))) (sRet (dCall φ__law_frac (dCons (dBin (fAdd .tree) (dBin fMul (dBin fIx (dVar 1) (dC (.int 0))) (dBin fIx (dVar 2) (dC (.int 1)))) (dBin fMul (dBin fIx (dVar 2) (dC (.int 0))) (dBin fIx (dVar 1) (dC (.int 1))))) (dCons (dBin fMul (dBin fIx (dVar 1) (dC (.int 1))) (dBin fIx (dVar 2) (dC (.int 1)))) dNil)))) sSkip)
  (sRet (dBin fMod (dCall bInt (dCons (dBin (fAdd .tree) (dVar 1) (dVar 2)) dNil)) (dVar 0))))
def φ__law_sum : FN := fnP 3 3 d__law_sum
def d__law_neg : DS := (sRet (dIf (dAsB (dBin (fEq false) (dVar 0) (dC (.int 0)))) (dTup (dCons (dNeg (dBin fIx (dVar 1) (dC (.int 0)))) (dCons (dBin fIx (dVar 1) (dC (.int 1))) dNil))) (dBin fMod (dCall bInt (dCons (dNeg (dVar 1)) dNil)) (dVar 0))))
def φ__law_neg : FN := fnP 2 2 d__law_neg
def d__law_mul : DS := (sRet (dIf (dAsB (dBin (fEq false) (dVar 0) (dC (.int 0)))) (dCall φ__law_frac (dCons (dBin fMul (dBin fIx (dVar 1) (dC (.int 0))) (dBin fIx (dVar 2) (dC (.int 0)))) (dCons (dBin fMul (dBin fIx (dVar 1) (dC (.int 1))) (dBin fIx (dVar 2) (dC (.int 1)))) dNil))) (dBin fMod (dCall bInt (dCons (dBin fMul (dVar 1) (dVar 2)) dNil)) (dVar 0))))
def φ__law_mul : FN := fnP 3 3 d__law_mul
def c__law_inv_1 : D := (dVar 2)
def t__law_inv_2 : DB := (dAsB (dBin (fEq false) (dBin fMod (dCall bInt (dCons (dBin fMul (dVar 2) (dVar 1)) dNil)) (dVar 0)) (dC (.int 1))))
def d__law_inv : DS := (sSeq (sIf (dAsB (dBin (fEq false) (dVar 0) (dC (.int 0)))) (sRet (dCall φ__law_frac (dCons (dBin fIx (dVar 1) (dC (.int 1))) (dCons (dBin fIx (dVar 1) (dC (.int 0))) dNil)))) sSkip)
  (sRet (dBin fIx (dLc .tree [2] (dRg1 (dVar 0)) (.nm 2) t__law_inv_2 c__law_inv_1) (dC (.int 0)))))
def φ__law_inv : FN := fnP 2 3 d__law_inv
def s__law_heard_1 : DS := (sAsg (dTup (dCons (dC (.str "")) (dCons (dC .non) dNil))) (gTp 2 (gsCons (gNm 4) (gsCons (gNm 5) gsNil))))
def s__law_heard_2 : DS := (sTry exNames (sIf (dAsB (dBin (fEq false) (dVar 0) (dC (.int 0)))) (sSet 5 (dCall φ_amount_over (dCons (dVar 1) (dCons (dVar 2) (dCons (dVar 3) dNil))))) (sIf (dAsB (dBin (fEq false) (dVar 0) (dC (.int 1)))) (sSet 5 (dCall φ_amounts_of (dCons (dVar 1) dNil))) (sIf (dAsB (dBin (fEq false) (dVar 0) (dC (.int 2)))) (sSet 5 (dCall φ_amount_power (dCons (dVar 1) (dCons (dVar 2) (dCons (dVar 3) dNil))))) (sIf (dAsB (dBin (fEq false) (dVar 0) (dC (.int 3)))) (sSet 5 (dCall φ_amounts_sum (dCons (dVar 1) (dCons (dVar 2) dNil)))) (sSet 5 (dCall φ_amount_plus (dCons (dVar 1) (dCons (dVar 2) (dCons (dVar 3) dNil))))))))) [("NoPaper", (sSet 4 (dC (.str "none")))), ("Unfit", (sSet 4 (dC (.str "unfit"))))])
def s__law_heard_3 : DS := (sRet (dIf (dAsB (dBin (fEq true) (dVar 4) (dC (.str "")))) (dVar 4) (dVar 5)))
def d__law_heard : DS := (sSeq s__law_heard_1 (sSeq s__law_heard_2 s__law_heard_3))
def φ__law_heard : FN := fnP 4 6 d__law_heard
def s__law_pair_right_1 : DS := (sSet 3 (dCall φ__law_num (dCons (dVar 0) (dCons (dC (.int 0)) dNil))))
def s__law_pair_right_2 : DS := (sSet 4 (dLst .tree (dCons (dCall φ_amount_plus (dCons (dVar 0) (dCons (dVar 1) (dCons (dVar 2) dNil)))) (dCons (dCall φ_amount_less (dCons (dVar 0) (dCons (dVar 1) (dCons (dVar 2) dNil)))) (dCons (dCall φ_amount_times (dCons (dVar 0) (dCons (dVar 1) (dCons (dVar 2) dNil)))) (dCons (dCall φ__law_heard (dCons (dC (.int 0)) (dCons (dVar 0) (dCons (dVar 1) (dCons (dVar 2) dNil))))) dNil))))))
def s__law_pair_right_3 : DS := (sSet 5 (dLst .tree (dCons (dCall φ__law_sum (dCons (dVar 0) (dCons (dVar 1) (dCons (dVar 2) dNil)))) (dCons (dCall φ__law_sum (dCons (dVar 0) (dCons (dVar 1) (dCons (dCall φ__law_neg (dCons (dVar 0) (dCons (dVar 2) dNil))) dNil)))) (dCons (dCall φ__law_mul (dCons (dVar 0) (dCons (dVar 1) (dCons (dVar 2) dNil)))) (dCons (dIf (dAsB (dBin (fEq false) (dVar 2) (dVar 3))) (dC (.str "none")) (dCall φ__law_mul (dCons (dVar 0) (dCons (dVar 1) (dCons (dCall φ__law_inv (dCons (dVar 0) (dCons (dVar 2) dNil))) dNil))))) dNil))))))
def s__law_pair_right_4 : DS := (sRet (dCall (φ__law_same 8) (dCons (dVar 4) (dCons (dVar 5) dNil))))
def d__law_pair_right : DS := (sSeq s__law_pair_right_1 (sSeq s__law_pair_right_2 (sSeq s__law_pair_right_3 s__law_pair_right_4)))
def φ__law_pair_right : FN := fnP 3 6 d__law_pair_right
def c__law_long_right_1 : D := (dCall φ__law_of (dCons (dVar 0) (dCons (dVar 2) dNil)))
def b__law_long_right_2 : DS := (sPar 4 5 (dCons (dCall φ__law_sum (dCons (dVar 1) (dCons (dVar 4) (dCons (dVar 6) dNil)))) (dCons (dCall φ__law_mul (dCons (dVar 1) (dCons (dVar 5) (dCons (dVar 6) dNil)))) dNil)))
def b__law_long_right_3 : DS := (sSet 9 (dCall φ__law_mul (dCons (dVar 1) (dCons (dVar 9) (dCons (dVar 8) dNil)))))
def s__law_long_right_4 : DS := (sSet 3 (dCall bTuple (dCons (dLc .tree [13] (dRg1 (dCall φ__law_take (dCons (dVar 0) (dCons (dC (.int 6)) dNil)))) (.nm 13) dYes c__law_long_right_1) dNil)))
def s__law_long_right_5 : DS := (sPar 4 5 (dCons (dCall φ__law_num (dCons (dVar 1) (dCons (dC (.int 0)) dNil))) (dCons (dCall φ__law_num (dCons (dVar 1) (dCons (dC (.int 1)) dNil))) dNil)))
def s__law_long_right_6 : DS := (sFor (dItems (dVar 3)) (.nm 6) b__law_long_right_2)
def s__law_long_right_7 : DS := (sPar3 7 8 9 (dCons (dCall φ__law_take (dCons (dVar 0) (dCons (dC (.int 7)) dNil))) (dCons (dCall φ__law_of (dCons (dVar 0) (dCons (dVar 2) dNil))) (dCons (dCall φ__law_num (dCons (dVar 1) (dCons (dC (.int 1)) dNil))) dNil))))
def s__law_long_right_8 : DS := (sFor (dRg1 (dVar 7)) (.nm 10) b__law_long_right_3)
def s__law_long_right_9 : DS := (sSet 11 (dBin fSub (dCall φ__law_take (dCons (dVar 0) (dCons (dC (.int 200)) dNil))) (dC (.int 100))))
def s__law_long_right_10 : DS := (sSet 12 (dLst .tree (dCons (dCall φ_amounts_sum (dCons (dVar 1) (dCons (dVar 3) dNil))) (dCons (dCall φ_amounts_sum (dCons (dVar 1) (dCons (dCall (φ__law_lists 8) (dCons (dVar 3) dNil)) dNil))) (dCons (dCall φ_amounts_product (dCons (dVar 1) (dCons (dVar 3) dNil))) (dCons (dCall φ_amount_power (dCons (dVar 1) (dCons (dVar 8) (dCons (dVar 7) dNil)))) (dCons (dCall φ_amount_of (dCons (dVar 1) (dCons (dVar 11) dNil))) (dCons (dCall φ_amounts_sum (dCons (dVar 1) (dCons (dTup dNil) dNil))) (dCons (dCall φ_amounts_product (dCons (dVar 1) (dCons (dTup dNil) dNil))) dNil)))))))))
def s__law_long_right_11 : DS := (sRet (dCall (φ__law_same 8) (dCons (dVar 12) (dCons (dLst .tree (dCons (dVar 4) (dCons (dVar 4) (dCons (dVar 5) (dCons (dVar 9) (dCons (dCall φ__law_num (dCons (dVar 1) (dCons (dVar 11) dNil))) (dCons (dCall φ__law_num (dCons (dVar 1) (dCons (dC (.int 0)) dNil))) (dCons (dCall φ__law_num (dCons (dVar 1) (dCons (dC (.int 1)) dNil))) dNil)))))))) dNil))))
def d__law_long_right : DS := (sSeq s__law_long_right_4 (sSeq s__law_long_right_5 (sSeq s__law_long_right_6 (sSeq s__law_long_right_7 (sSeq s__law_long_right_8 (sSeq s__law_long_right_9 (sSeq s__law_long_right_10 s__law_long_right_11)))))))
def φ__law_long_right : FN := fnP 3 14 d__law_long_right
def c_law_1 : D := (dVar 13)
def t_law_2 : DB := (dNotB (dTru (dCall φ__law_pair_right (dCons (dVar 2) (dCons (dVar 4) (dCons (dVar 13) dNil))))))
def b_law_3 : DS := (sIf (dAsB (dBin (fEq true) (dLc .tree [13] (dItems (dVar 3)) (.nm 13) t_law_2 c_law_1) (dLst .tree dNil))) (sRet (dC (.bl false))) sSkip)
def c_law_4 : D := (dCall φ__law_frac (dCons (dBin fSub (dCall φ__law_take (dCons (dVar 1) (dCons (dC (.int 41)) dNil))) (dC (.int 20))) (dCons (dBin (fAdd .tree) (dC (.int 1)) (dCall φ__law_take (dCons (dVar 1) (dCons (dC (.int 20)) dNil)))) dNil)))
def c_law_5 : D := (dVar 13)
def t_law_6 : DB := (dNotB (dTru (dCall φ__law_pair_right (dCons (dC (.int 0)) (dCons (dVar 4) (dCons (dVar 13) dNil))))))
def b_law_7 : DS := (sIf (dAsB (dBin (fEq true) (dLc .tree [13] (dItems (dVar 5)) (.nm 13) t_law_6 c_law_5) (dLst .tree dNil))) (sRet (dC (.bl false))) sSkip)
def b_law_8 : DS := (sIf (dOrB (dNotB (dTru (dCall φ__law_long_right (dCons (dVar 1) (dCons (dVar 2) (dCons (dVar 3) dNil)))))) (dNotB (dTru (dCall φ__law_long_right (dCons (dVar 1) (dCons (dC (.int 0)) (dCons (dLst .tree (dCons (dTup (dCons (dC (.int 1)) (dCons (dC (.int 2)) dNil))) (dCons (dTup (dCons (dNeg (dC (.int 1))) (dCons (dC (.int 1)) dNil))) (dCons (dTup (dCons (dC (.int 3)) (dCons (dC (.int 4)) dNil))) (dCons (dTup (dCons (dC (.int 2)) (dCons (dC (.int 3)) dNil))) (dCons (dTup (dCons (dC (.int 0)) (dCons (dC (.int 1)) dNil))) (dCons (dTup (dCons (dC (.int 1)) (dCons (dC (.int 1)) dNil))) dNil))))))) dNil))))))) (sRet (dC (.bl false))) sSkip)
def c_law_9 : D := (dVar 11)
def t_law_10 : DB := (dTru (dCall φ_is_field (dCons (dVar 11) dNil)))
def c_law_11 : D := (dVar 11)
def t_law_12 : DB := (dAsB (dBin (fIsB true) (dCall φ_is_field (dCons (dVar 11) dNil)) (dC (.bl true))))
def c_law_13 : D := (dVar 11)
def t_law_14 : DB := (dTru (dCall φ_is_amount (dCons (dVar 2) (dCons (dVar 11) dNil))))
def c_law_15 : D := (dVar 11)
def t_law_16 : DB := (dTru (dCall φ_is_amount (dCons (dC (.int 0)) (dCons (dVar 11) dNil))))
def c_law_17 : D := (dVar 11)
def t_law_18 : DB := (dAsB (dBin (fIsB true) (dCall φ_is_amount (dCons (dVar 2) (dCons (dVar 11) dNil))) (dC (.bl true))))
def s_law_19 : DS := (sSet 1 (dCall φ__law_box (dCons (dCall φ__law_cells (dCons (dVar 0) (dCons (dC (.int 1)) dNil))) (dCons (dC (.int 0)) dNil))))
def s_law_20 : DS := (sSet 2 (dCall φ__law_of (dCons (dVar 1) (dCons (dLst .tree (dCons (dC (.int 2)) (dCons (dC (.int 3)) (dCons (dC (.int 5)) (dCons (dC (.int 7)) (dCons (dC (.int 11)) (dCons (dC (.int 13)) dNil))))))) dNil))))
def s_law_21 : DS := (sSet 3 (dLrg .tree (dVar 2)))
def s_law_22 : DS := (sIf (dNotB (dTru (dCall (φ__law_same 8) (dCons (dLst .tree (dCons (dCall φ_amounts_of (dCons (dVar 2) dNil)) (dCons (dCall φ__law_heard (dCons (dC (.int 1)) (dCons (dC (.int 0)) (dCons (dC (.int 0)) (dCons (dC (.int 0)) dNil))))) dNil))) (dCons (dLst .tree (dCons (dVar 3) (dCons (dC (.str "none")) dNil))) dNil))))) (sRet (dC (.bl false))) sSkip)
def s_law_23 : DS := (sFor (dItems (dVar 3)) (.nm 4) b_law_3)
def s_law_24 : DS := (sSet 5 (dBin (fAdd .tree) (dLc .tree [12] (dRg1 (dC (.int 8))) (.nm 12) dYes c_law_4) (dLst .tree (dCons (dTup (dCons (dC (.int 0)) (dCons (dC (.int 1)) dNil))) (dCons (dTup (dCons (dC (.int 1)) (dCons (dC (.int 1)) dNil))) (dCons (dTup (dCons (dNeg (dC (.int 20))) (dCons (dC (.int 1)) dNil))) (dCons (dTup (dCons (dC (.int 1)) (dCons (dC (.int 20)) dNil))) (dCons (dTup (dCons (dC (.int 20)) (dCons (dC (.int 19)) dNil))) dNil))))))))
def s_law_25 : DS := (sFor (dItems (dVar 5)) (.nm 4) b_law_7)
def s_law_26 : DS := (sFor (dRg1 (dC (.int 4))) (.nm 6) b_law_8)
def s_law_27 : DS := (sSet 7 (dLst .tree (dCons (dC .non) (dCons (dC (.bl true)) (dCons (dC (.str "2")) (dCons (dC (.int 1)) (dCons (dC (.int 4)) (dCons (dC (.int 6)) (dCons (dC (.int 9)) (dCons (dC (.int 17)) (dCons (dNeg (dC (.int 2))) (dCons (dTup (dCons (dC (.int 2)) dNil)) (dCons (dLst .tree (dCons (dC (.int 2)) dNil)) (dCons (dBin (fEq false) (dBin (fAdd .tree) (dC (.int 2)) (dBin fMul (dVar 2) (dC (.int 0)))) (dC (.int 1))) dNil))))))))))))))
def s_law_28 : DS := (sIf (dOrB (dAsB (dBin (fEq true) (dLc .tree [11] (dItems (dVar 7)) (.nm 11) t_law_10 c_law_9) (dLst .tree dNil))) (dAsB (dBin (fEq true) (dLc .tree [11] (dItems (dTup (dCons (dC (.int 0)) (dCons (dC (.int 2)) (dCons (dC (.int 3)) (dCons (dC (.int 5)) (dCons (dC (.int 7)) (dCons (dC (.int 11)) (dCons (dC (.int 13)) dNil))))))))) (.nm 11) t_law_12 c_law_11) (dLst .tree dNil)))) (sRet (dC (.bl false))) sSkip)
def s_law_29 : DS := (sSet 8 (dLc .tree [11] (dItems (dTup (dCons (dVar 2) (dCons (dNeg (dC (.int 1))) (dCons (dC (.bl true)) (dCons (dC (.bl false)) (dCons (dC .non) (dCons (dTup (dCons (dC (.int 0)) (dCons (dC (.int 1)) dNil))) (dCons (dC (.str "0")) (dCons (dLst .tree (dCons (dC (.int 0)) dNil)) dNil)))))))))) (.nm 11) t_law_14 c_law_13))
def s_law_30 : DS := (sSet 9 (dLc .tree [11] (dItems (dTup (dCons (dC (.int 0)) (dCons (dC (.int 1)) (dCons (dTup (dCons (dC (.int 2)) (dCons (dC (.int 4)) dNil))) (dCons (dTup (dCons (dC (.int 1)) (dCons (dC (.int 0)) dNil))) (dCons (dTup (dCons (dC (.int 1)) (dCons (dNeg (dC (.int 1))) dNil))) (dCons (dTup (dCons (dC (.int 0)) (dCons (dC (.int 2)) dNil))) (dCons (dTup (dCons (dC (.int 1)) dNil)) (dCons (dTup (dCons (dC (.int 1)) (dCons (dC (.int 2)) (dCons (dC (.int 3)) dNil)))) (dCons (dLst .tree (dCons (dC (.int 1)) (dCons (dC (.int 2)) dNil))) (dCons (dTup (dCons (dC (.bl true)) (dCons (dC (.int 2)) dNil))) (dCons (dTup (dCons (dC (.int 1)) (dCons (dC (.bl true)) dNil))) (dCons (dC .non) (dCons (dC (.str "1/2")) dNil))))))))))))))) (.nm 11) t_law_16 c_law_15))
def s_law_31 : DS := (sIf (dOrB (dAsB (dBin (fEq true) (dBin (fAdd .tree) (dVar 8) (dVar 9)) (dLst .tree dNil))) (dOrB (dAsB (dBin (fEq true) (dLc .tree [11] (dItems (dVar 3)) (.nm 11) t_law_18 c_law_17) (dLst .tree dNil))) (dAsB (dBin (fIsB true) (dCall φ_is_amount (dCons (dC (.int 0)) (dCons (dTup (dCons (dBin fPow (dC (.int 10)) (dC (.int 30))) (dCons (dC (.int 7)) dNil))) dNil))) (dC (.bl true)))))) (sRet (dC (.bl false))) sSkip)
def s_law_32 : DS := (sSet 10 (dLst .tree (dCons (dCall φ__law_heard (dCons (dC (.int 4)) (dCons (dC (.int 4)) (dCons (dC (.int 0)) (dCons (dC (.int 0)) dNil))))) (dCons (dCall φ__law_heard (dCons (dC (.int 4)) (dCons (dVar 2) (dCons (dVar 2) (dCons (dC (.int 0)) dNil))))) (dCons (dCall φ__law_heard (dCons (dC (.int 4)) (dCons (dVar 2) (dCons (dC (.int 0)) (dCons (dNeg (dC (.int 1))) dNil))))) (dCons (dCall φ__law_heard (dCons (dC (.int 4)) (dCons (dC (.int 0)) (dCons (dTup (dCons (dC (.int 2)) (dCons (dC (.int 4)) dNil))) (dCons (dTup (dCons (dC (.int 1)) (dCons (dC (.int 1)) dNil))) dNil))))) (dCons (dCall φ__law_heard (dCons (dC (.int 2)) (dCons (dVar 2) (dCons (dC (.int 1)) (dCons (dNeg (dC (.int 1))) dNil))))) (dCons (dCall φ__law_heard (dCons (dC (.int 3)) (dCons (dVar 2) (dCons (dTup (dCons (dC (.int 0)) (dCons (dVar 2) dNil))) (dCons (dC (.int 0)) dNil))))) (dCons (dCall φ__law_heard (dCons (dC (.int 3)) (dCons (dVar 2) (dCons (dC (.int 0)) (dCons (dC (.int 0)) dNil))))) (dCons (dCall φ__law_heard (dCons (dC (.int 0)) (dCons (dC (.int 0)) (dCons (dTup (dCons (dC (.int 1)) (dCons (dC (.int 1)) dNil))) (dCons (dTup (dCons (dC (.int 0)) (dCons (dC (.int 1)) dNil))) dNil))))) (dCons (dCall φ__law_heard (dCons (dC (.int 0)) (dCons (dC (.bl true)) (dCons (dC (.int 1)) (dCons (dC (.int 1)) dNil))))) (dCons (dCall φ__law_heard (dCons (dC (.int 4)) (dCons (dC (.int 0)) (dCons (dLst .tree (dCons (dC (.int 1)) (dCons (dC (.int 2)) dNil))) (dCons (dLst .tree (dCons (dC (.int 1)) (dCons (dC (.int 3)) dNil))) dNil))))) dNil))))))))))))
def s_law_33 : DS := (sRet (dCall (φ__law_same 8) (dCons (dVar 10) (dCons (dLst .tree (dCons (dC (.str "unfit")) (dCons (dC (.str "unfit")) (dCons (dC (.str "unfit")) (dCons (dC (.str "unfit")) (dCons (dC (.str "unfit")) (dCons (dC (.str "unfit")) (dCons (dC (.str "unfit")) (dCons (dC (.str "none")) (dCons (dC (.str "unfit")) (dCons (dTup (dCons (dC (.int 5)) (dCons (dC (.int 6)) dNil))) dNil))))))))))) dNil))))
def d_law : DS := (sSeq s_law_19 (sSeq s_law_20 (sSeq s_law_21 (sSeq s_law_22 (sSeq s_law_23 (sSeq s_law_24 (sSeq s_law_25 (sSeq s_law_26 (sSeq s_law_27 (sSeq s_law_28 (sSeq s_law_29 (sSeq s_law_30 (sSeq s_law_31 (sSeq s_law_32 s_law_33))))))))))))))
def φ_law : FN := fnD 1 14 d_law
end K10

namespace K10
open PySem PySem.Spec PyProof.Rows L2 Tw
abbrev st_is_number : Stmt := top 5
abbrev dd_is_number : He.DefD := ⟨("is_number", none), "is_number", "is_number", defArgs st_is_number, defBody st_is_number, defScope st_is_number, [], []⟩
theorem sc_is_number : FnScope ["thing"] ["thing"] (defScope st_is_number) := ⟨rfl, rfl, rfl, by decide +kernel, rfl, by decide +kernel, by decide +kernel⟩
abbrev st_is_count : Stmt := top 6
abbrev dd_is_count : He.DefD := ⟨("is_count", none), "is_count", "is_count", defArgs st_is_count, defBody st_is_count, defScope st_is_count, [], []⟩
theorem sc_is_count : FnScope ["thing"] ["thing"] (defScope st_is_count) := ⟨rfl, rfl, rfl, by decide +kernel, rfl, by decide +kernel, by decide +kernel⟩
abbrev st_is_below : Stmt := top 7
abbrev dd_is_below : He.DefD := ⟨("is_below", none), "is_below", "is_below", defArgs st_is_below, defBody st_is_below, defScope st_is_below, [], []⟩
theorem sc_is_below : FnScope ["thing", "bound"] ["thing", "bound"] (defScope st_is_below) := ⟨rfl, rfl, rfl, by decide +kernel, rfl, by decide +kernel, by decide +kernel⟩
abbrev st_is_pair : Stmt := top 8
abbrev dd_is_pair : He.DefD := ⟨("is_pair", none), "is_pair", "is_pair", defArgs st_is_pair, defBody st_is_pair, defScope st_is_pair, [], []⟩
theorem sc_is_pair : FnScope ["thing"] ["thing"] (defScope st_is_pair) := ⟨rfl, rfl, rfl, by decide +kernel, rfl, by decide +kernel, by decide +kernel⟩
abbrev st_tupled : Stmt := top 9
abbrev dd_tupled : He.DefD := ⟨("tupled", none), "tupled", "tupled", defArgs st_tupled, defBody st_tupled, defScope st_tupled, [], []⟩
theorem sc_tupled : FnScope ["thing", "part"] ["thing"] (defScope st_tupled) := ⟨rfl, rfl, rfl, by decide +kernel, rfl, by decide +kernel, by decide +kernel⟩
abbrev st_sure : Stmt := top 10
abbrev dd_sure : He.DefD := ⟨("sure", none), "sure", "sure", defArgs st_sure, defBody st_sure, defScope st_sure, [], []⟩
theorem sc_sure : FnScope ["is_so"] ["is_so"] (defScope st_sure) := ⟨rfl, rfl, rfl, by decide +kernel, rfl, by decide +kernel, by decide +kernel⟩
abbrev st_sure_count : Stmt := top 11
abbrev dd_sure_count : He.DefD := ⟨("sure_count", none), "sure_count", "sure_count", defArgs st_sure_count, defBody st_sure_count, defScope st_sure_count, [], []⟩
theorem sc_sure_count : FnScope ["number"] ["number"] (defScope st_sure_count) := ⟨rfl, rfl, rfl, by decide +kernel, rfl, by decide +kernel, by decide +kernel⟩
abbrev st_common_of : Stmt := top 14
abbrev dd_common_of : He.DefD := ⟨("common_of", none), "common_of", "common_of", defArgs st_common_of, defBody st_common_of, defScope st_common_of, [], []⟩
theorem sc_common_of : FnScope ["one", "other", "near", "far"] ["one", "other"] (defScope st_common_of) := ⟨rfl, rfl, rfl, by decide +kernel, rfl, by decide +kernel, by decide +kernel⟩
abbrev st_is_field : Stmt := top 15
abbrev dd_is_field : He.DefD := ⟨("is_field", none), "is_field", "is_field", defArgs st_is_field, defBody st_is_field, defScope st_is_field, [], []⟩
theorem sc_is_field : FnScope ["thing"] ["thing"] (defScope st_is_field) := ⟨rfl, rfl, rfl, by decide +kernel, rfl, by decide +kernel, by decide +kernel⟩
abbrev st_sure_field : Stmt := top 16
abbrev dd_sure_field : He.DefD := ⟨("sure_field", none), "sure_field", "sure_field", defArgs st_sure_field, defBody st_sure_field, defScope st_sure_field, [], []⟩
theorem sc_sure_field : FnScope ["field"] ["field"] (defScope st_sure_field) := ⟨rfl, rfl, rfl, by decide +kernel, rfl, by decide +kernel, by decide +kernel⟩
abbrev st_is_amount_in : Stmt := top 17
abbrev dd_is_amount_in : He.DefD := ⟨("is_amount_in", none), "is_amount_in", "is_amount_in", defArgs st_is_amount_in, defBody st_is_amount_in, defScope st_is_amount_in, [], []⟩
theorem sc_is_amount_in : FnScope ["field", "thing"] ["field", "thing"] (defScope st_is_amount_in) := ⟨rfl, rfl, rfl, by decide +kernel, rfl, by decide +kernel, by decide +kernel⟩
abbrev st_is_amount : Stmt := top 18
abbrev dd_is_amount : He.DefD := ⟨("is_amount", none), "is_amount", "is_amount", defArgs st_is_amount, defBody st_is_amount, defScope st_is_amount, [], []⟩
theorem sc_is_amount : FnScope ["field", "thing"] ["field", "thing"] (defScope st_is_amount) := ⟨rfl, rfl, rfl, by decide +kernel, rfl, by decide +kernel, by decide +kernel⟩
abbrev st_sure_amount : Stmt := top 19
abbrev dd_sure_amount : He.DefD := ⟨("sure_amount", none), "sure_amount", "sure_amount", defArgs st_sure_amount, defBody st_sure_amount, defScope st_sure_amount, [], []⟩
theorem sc_sure_amount : FnScope ["field", "amount", "own"] ["field", "amount"] (defScope st_sure_amount) := ⟨rfl, rfl, rfl, by decide +kernel, rfl, by decide +kernel, by decide +kernel⟩
abbrev st_fraction : Stmt := top 20
abbrev dd_fraction : He.DefD := ⟨("fraction", none), "fraction", "fraction", defArgs st_fraction, defBody st_fraction, defScope st_fraction, [], []⟩
theorem sc_fraction : FnScope ["top", "bottom", "shared", "divisor"] ["top", "bottom"] (defScope st_fraction) := ⟨rfl, rfl, rfl, by decide +kernel, rfl, by decide +kernel, by decide +kernel⟩
abbrev st_number_in : Stmt := top 21
abbrev dd_number_in : He.DefD := ⟨("number_in", none), "number_in", "number_in", defArgs st_number_in, defBody st_number_in, defScope st_number_in, [], []⟩
theorem sc_number_in : FnScope ["field", "number"] ["field", "number"] (defScope st_number_in) := ⟨rfl, rfl, rfl, by decide +kernel, rfl, by decide +kernel, by decide +kernel⟩
abbrev st_nought : Stmt := top 22
abbrev dd_nought : He.DefD := ⟨("nought", none), "nought", "nought", defArgs st_nought, defBody st_nought, defScope st_nought, [], []⟩
theorem sc_nought : FnScope ["field"] ["field"] (defScope st_nought) := ⟨rfl, rfl, rfl, by decide +kernel, rfl, by decide +kernel, by decide +kernel⟩
abbrev st_unit : Stmt := top 23
abbrev dd_unit : He.DefD := ⟨("unit", none), "unit", "unit", defArgs st_unit, defBody st_unit, defScope st_unit, [], []⟩
theorem sc_unit : FnScope ["field"] ["field"] (defScope st_unit) := ⟨rfl, rfl, rfl, by decide +kernel, rfl, by decide +kernel, by decide +kernel⟩
abbrev st_plus_in : Stmt := top 24
abbrev dd_plus_in : He.DefD := ⟨("plus_in", none), "plus_in", "plus_in", defArgs st_plus_in, defBody st_plus_in, defScope st_plus_in, [], []⟩
theorem sc_plus_in : FnScope ["field", "one", "other"] ["field", "one", "other"] (defScope st_plus_in) := ⟨rfl, rfl, rfl, by decide +kernel, rfl, by decide +kernel, by decide +kernel⟩
abbrev st_minus_in : Stmt := top 25
abbrev dd_minus_in : He.DefD := ⟨("minus_in", none), "minus_in", "minus_in", defArgs st_minus_in, defBody st_minus_in, defScope st_minus_in, [], []⟩
theorem sc_minus_in : FnScope ["field", "amount"] ["field", "amount"] (defScope st_minus_in) := ⟨rfl, rfl, rfl, by decide +kernel, rfl, by decide +kernel, by decide +kernel⟩
abbrev st_less_in : Stmt := top 26
abbrev dd_less_in : He.DefD := ⟨("less_in", none), "less_in", "less_in", defArgs st_less_in, defBody st_less_in, defScope st_less_in, [], []⟩
theorem sc_less_in : FnScope ["field", "one", "other"] ["field", "one", "other"] (defScope st_less_in) := ⟨rfl, rfl, rfl, by decide +kernel, rfl, by decide +kernel, by decide +kernel⟩
abbrev st_times_in : Stmt := top 27
abbrev dd_times_in : He.DefD := ⟨("times_in", none), "times_in", "times_in", defArgs st_times_in, defBody st_times_in, defScope st_times_in, [], []⟩
theorem sc_times_in : FnScope ["field", "one", "other"] ["field", "one", "other"] (defScope st_times_in) := ⟨rfl, rfl, rfl, by decide +kernel, rfl, by decide +kernel, by decide +kernel⟩
abbrev st_power_in : Stmt := top 28
abbrev dd_power_in : He.DefD := ⟨("power_in", none), "power_in", "power_in", defArgs st_power_in, defBody st_power_in, defScope st_power_in, [], []⟩
theorem sc_power_in : FnScope ["field", "amount", "many", "found", "_"] ["field", "amount", "many"] (defScope st_power_in) := ⟨rfl, rfl, rfl, by decide +kernel, rfl, by decide +kernel, by decide +kernel⟩
abbrev st_back_in : Stmt := top 29
abbrev dd_back_in : He.DefD := ⟨("back_in", none), "back_in", "back_in", defArgs st_back_in, defBody st_back_in, defScope st_back_in, [], []⟩
theorem sc_back_in : FnScope ["field", "amount"] ["field", "amount"] (defScope st_back_in) := ⟨rfl, rfl, rfl, by decide +kernel, rfl, by decide +kernel, by decide +kernel⟩
abbrev st_sum_in : Stmt := top 30
abbrev dd_sum_in : He.DefD := ⟨("sum_in", none), "sum_in", "sum_in", defArgs st_sum_in, defBody st_sum_in, defScope st_sum_in, [], []⟩
theorem sc_sum_in : FnScope ["field", "amounts", "found", "own"] ["field", "amounts"] (defScope st_sum_in) := ⟨rfl, rfl, rfl, by decide +kernel, rfl, by decide +kernel, by decide +kernel⟩
abbrev st_product_of_all : Stmt := top 31
abbrev dd_product_of_all : He.DefD := ⟨("product_of_all", none), "product_of_all", "product_of_all", defArgs st_product_of_all, defBody st_product_of_all, defScope st_product_of_all, [], []⟩
theorem sc_product_of_all : FnScope ["field", "amounts", "found", "own"] ["field", "amounts"] (defScope st_product_of_all) := ⟨rfl, rfl, rfl, by decide +kernel, rfl, by decide +kernel, by decide +kernel⟩
abbrev st_are_amounts_in : Stmt := top 32
abbrev dd_are_amounts_in : He.DefD := ⟨("are_amounts_in", none), "are_amounts_in", "are_amounts_in", defArgs st_are_amounts_in, defBody st_are_amounts_in, defScope st_are_amounts_in, [], []⟩
theorem sc_are_amounts_in : FnScope ["field", "thing", "own"] ["field", "thing"] (defScope st_are_amounts_in) := ⟨rfl, rfl, rfl, by decide +kernel, rfl, by decide +kernel, by decide +kernel⟩
abbrev st_sure_amounts : Stmt := top 33
abbrev dd_sure_amounts : He.DefD := ⟨("sure_amounts", none), "sure_amounts", "sure_amounts", defArgs st_sure_amounts, defBody st_sure_amounts, defScope st_sure_amounts, [], []⟩
theorem sc_sure_amounts : FnScope ["field", "amounts", "own", "told"] ["field", "amounts"] (defScope st_sure_amounts) := ⟨rfl, rfl, rfl, by decide +kernel, rfl, by decide +kernel, by decide +kernel⟩
abbrev st_sure_two_amounts : Stmt := top 34
abbrev dd_sure_two_amounts : He.DefD := ⟨("sure_two_amounts", none), "sure_two_amounts", "sure_two_amounts", defArgs st_sure_two_amounts, defBody st_sure_two_amounts, defScope st_sure_two_amounts, [], []⟩
theorem sc_sure_two_amounts : FnScope ["field", "one", "other", "own"] ["field", "one", "other"] (defScope st_sure_two_amounts) := ⟨rfl, rfl, rfl, by decide +kernel, rfl, by decide +kernel, by decide +kernel⟩
abbrev st_amount_of : Stmt := top 35
abbrev dd_amount_of : He.DefD := ⟨("amount_of", none), "amount_of", "amount_of", defArgs st_amount_of, defBody st_amount_of, defScope st_amount_of, [], []⟩
theorem sc_amount_of : FnScope ["field", "number", "own"] ["field", "number"] (defScope st_amount_of) := ⟨rfl, rfl, rfl, by decide +kernel, rfl, by decide +kernel, by decide +kernel⟩
abbrev st_amounts_of : Stmt := top 36
abbrev dd_amounts_of : He.DefD := ⟨("amounts_of", none), "amounts_of", "amounts_of", defArgs st_amounts_of, defBody st_amounts_of, defScope st_amounts_of, [], []⟩
theorem sc_amounts_of : FnScope ["field", "own"] ["field"] (defScope st_amounts_of) := ⟨rfl, rfl, rfl, by decide +kernel, rfl, by decide +kernel, by decide +kernel⟩
abbrev st_amount_plus : Stmt := top 37
abbrev dd_amount_plus : He.DefD := ⟨("amount_plus", none), "amount_plus", "amount_plus", defArgs st_amount_plus, defBody st_amount_plus, defScope st_amount_plus, [], []⟩
theorem sc_amount_plus : FnScope ["field", "one", "other", "own", "near", "far"] ["field", "one", "other"] (defScope st_amount_plus) := ⟨rfl, rfl, rfl, by decide +kernel, rfl, by decide +kernel, by decide +kernel⟩
abbrev st_amount_less : Stmt := top 38
abbrev dd_amount_less : He.DefD := ⟨("amount_less", none), "amount_less", "amount_less", defArgs st_amount_less, defBody st_amount_less, defScope st_amount_less, [], []⟩
theorem sc_amount_less : FnScope ["field", "one", "other", "own", "near", "far"] ["field", "one", "other"] (defScope st_amount_less) := ⟨rfl, rfl, rfl, by decide +kernel, rfl, by decide +kernel, by decide +kernel⟩
abbrev st_amount_times : Stmt := top 39
abbrev dd_amount_times : He.DefD := ⟨("amount_times", none), "amount_times", "amount_times", defArgs st_amount_times, defBody st_amount_times, defScope st_amount_times, [], []⟩
theorem sc_amount_times : FnScope ["field", "one", "other", "own", "near", "far"] ["field", "one", "other"] (defScope st_amount_times) := ⟨rfl, rfl, rfl, by decide +kernel, rfl, by decide +kernel, by decide +kernel⟩
abbrev st_amount_over : Stmt := top 40
abbrev dd_amount_over : He.DefD := ⟨("amount_over", none), "amount_over", "amount_over", defArgs st_amount_over, defBody st_amount_over, defScope st_amount_over, [], []⟩
theorem sc_amount_over : FnScope ["field", "one", "other", "own", "near", "far"] ["field", "one", "other"] (defScope st_amount_over) := ⟨rfl, rfl, rfl, by decide +kernel, rfl, by decide +kernel, by decide +kernel⟩
abbrev st_amount_power : Stmt := top 41
abbrev dd_amount_power : He.DefD := ⟨("amount_power", none), "amount_power", "amount_power", defArgs st_amount_power, defBody st_amount_power, defScope st_amount_power, [], []⟩
theorem sc_amount_power : FnScope ["field", "amount", "many", "own", "told"] ["field", "amount", "many"] (defScope st_amount_power) := ⟨rfl, rfl, rfl, by decide +kernel, rfl, by decide +kernel, by decide +kernel⟩
abbrev st_amounts_sum : Stmt := top 42
abbrev dd_amounts_sum : He.DefD := ⟨("amounts_sum", none), "amounts_sum", "amounts_sum", defArgs st_amounts_sum, defBody st_amounts_sum, defScope st_amounts_sum, [], []⟩
theorem sc_amounts_sum : FnScope ["field", "amounts", "own", "told"] ["field", "amounts"] (defScope st_amounts_sum) := ⟨rfl, rfl, rfl, by decide +kernel, rfl, by decide +kernel, by decide +kernel⟩
abbrev st_amounts_product : Stmt := top 43
abbrev dd_amounts_product : He.DefD := ⟨("amounts_product", none), "amounts_product", "amounts_product", defArgs st_amounts_product, defBody st_amounts_product, defScope st_amounts_product, [], []⟩
theorem sc_amounts_product : FnScope ["field", "amounts", "own", "told"] ["field", "amounts"] (defScope st_amounts_product) := ⟨rfl, rfl, rfl, by decide +kernel, rfl, by decide +kernel, by decide +kernel⟩
abbrev st__law_box : Stmt := top 45
abbrev dd__law_box : He.DefD := ⟨("_law_box", none), "_law_box", "_law_box", defArgs st__law_box, defBody st__law_box, defScope st__law_box, [], []⟩
theorem sc__law_box : FnScope ["script", "k", "cell"] ["script", "k"] (defScope st__law_box) := ⟨rfl, rfl, rfl, by decide +kernel, rfl, by decide +kernel, by decide +kernel⟩
abbrev st__law_take : Stmt := top 46
abbrev dd__law_take : He.DefD := ⟨("_law_take", none), "_law_take", "_law_take", defArgs st__law_take, defBody st__law_take, defScope st__law_take, [], []⟩
theorem sc__law_take : FnScope ["tin", "below_so", "drew_so", "once_so", "wide_so", "twice_so"] ["tin", "below_so"] (defScope st__law_take) := ⟨rfl, rfl, rfl, by decide +kernel, rfl, by decide +kernel, by decide +kernel⟩
abbrev st__law_cells : Stmt := top 47
abbrev dd__law_cells : He.DefD := ⟨("_law_cells", none), "_law_cells", "_law_cells", defArgs st__law_cells, defBody st__law_cells, defScope st__law_cells, [], []⟩
theorem sc__law_cells : FnScope ["script", "most_so", "cells_so", "k", "cell_so", "at_so"] ["script", "most_so"] (defScope st__law_cells) := ⟨rfl, rfl, rfl, by decide +kernel, rfl, by decide +kernel, by decide +kernel⟩
abbrev st__law_of : Stmt := top 48
abbrev dd__law_of : He.DefD := ⟨("_law_of", none), "_law_of", "_law_of", defArgs st__law_of, defBody st__law_of, defScope st__law_of, [], []⟩
theorem sc__law_of : FnScope ["tin", "goods_so"] ["tin", "goods_so"] (defScope st__law_of) := ⟨rfl, rfl, rfl, by decide +kernel, rfl, by decide +kernel, by decide +kernel⟩
abbrev st__law_same : Stmt := top 49
abbrev dd__law_same : He.DefD := ⟨("_law_same", none), "_law_same", "_law_same", defArgs st__law_same, defBody st__law_same, defScope st__law_same, [], []⟩
theorem sc__law_same : FnScope ["got", "due", "mine", "its"] ["got", "due"] (defScope st__law_same) := ⟨rfl, rfl, rfl, by decide +kernel, rfl, by decide +kernel, by decide +kernel⟩
abbrev st__law_lists : Stmt := top 50
abbrev dd__law_lists : He.DefD := ⟨("_law_lists", none), "_law_lists", "_law_lists", defArgs st__law_lists, defBody st__law_lists, defScope st__law_lists, [], []⟩
theorem sc__law_lists : FnScope ["matter", "bit"] ["matter"] (defScope st__law_lists) := ⟨rfl, rfl, rfl, by decide +kernel, rfl, by decide +kernel, by decide +kernel⟩
abbrev st__law_common : Stmt := top 51
abbrev dd__law_common : He.DefD := ⟨("_law_common", none), "_law_common", "_law_common", defArgs st__law_common, defBody st__law_common, defScope st__law_common, [], []⟩
theorem sc__law_common : FnScope ["a", "b"] ["a", "b"] (defScope st__law_common) := ⟨rfl, rfl, rfl, by decide +kernel, rfl, by decide +kernel, by decide +kernel⟩
abbrev st__law_frac : Stmt := top 52
abbrev dd__law_frac : He.DefD := ⟨("_law_frac", none), "_law_frac", "_law_frac", defArgs st__law_frac, defBody st__law_frac, defScope st__law_frac, [], []⟩
theorem sc__law_frac : FnScope ["top", "bottom", "divisor"] ["top", "bottom"] (defScope st__law_frac) := ⟨rfl, rfl, rfl, by decide +kernel, rfl, by decide +kernel, by decide +kernel⟩
abbrev st__law_num : Stmt := top 53
abbrev dd__law_num : He.DefD := ⟨("_law_num", none), "_law_num", "_law_num", defArgs st__law_num, defBody st__law_num, defScope st__law_num, [], []⟩
theorem sc__law_num : FnScope ["field", "number"] ["field", "number"] (defScope st__law_num) := ⟨rfl, rfl, rfl, by decide +kernel, rfl, by decide +kernel, by decide +kernel⟩
abbrev st__law_sum : Stmt := top 54
abbrev dd__law_sum : He.DefD := ⟨("_law_sum", none), "_law_sum", "_law_sum", defArgs st__law_sum, defBody st__law_sum, defScope st__law_sum, [], []⟩
theorem sc__law_sum : FnScope ["field", "one", "other"] ["field", "one", "other"] (defScope st__law_sum) := ⟨rfl, rfl, rfl, by decide +kernel, rfl, by decide +kernel, by decide +kernel⟩
abbrev st__law_neg : Stmt := top 55
abbrev dd__law_neg : He.DefD := ⟨("_law_neg", none), "_law_neg", "_law_neg", defArgs st__law_neg, defBody st__law_neg, defScope st__law_neg, [], []⟩
theorem sc__law_neg : FnScope ["field", "amount"] ["field", "amount"] (defScope st__law_neg) := ⟨rfl, rfl, rfl, by decide +kernel, rfl, by decide +kernel, by decide +kernel⟩
abbrev st__law_mul : Stmt := top 56
abbrev dd__law_mul : He.DefD := ⟨("_law_mul", none), "_law_mul", "_law_mul", defArgs st__law_mul, defBody st__law_mul, defScope st__law_mul, [], []⟩
theorem sc__law_mul : FnScope ["field", "one", "other"] ["field", "one", "other"] (defScope st__law_mul) := ⟨rfl, rfl, rfl, by decide +kernel, rfl, by decide +kernel, by decide +kernel⟩
abbrev st__law_inv : Stmt := top 57
abbrev dd__law_inv : He.DefD := ⟨("_law_inv", none), "_law_inv", "_law_inv", defArgs st__law_inv, defBody st__law_inv, defScope st__law_inv, [], []⟩
theorem sc__law_inv : FnScope ["field", "amount", "own"] ["field", "amount"] (defScope st__law_inv) := ⟨rfl, rfl, rfl, by decide +kernel, rfl, by decide +kernel, by decide +kernel⟩
abbrev st__law_heard : Stmt := top 58
abbrev dd__law_heard : He.DefD := ⟨("_law_heard", none), "_law_heard", "_law_heard", defArgs st__law_heard, defBody st__law_heard, defScope st__law_heard, [], []⟩
theorem sc__law_heard : FnScope ["door", "field", "one", "other", "let", "found"] ["door", "field", "one", "other"] (defScope st__law_heard) := ⟨rfl, rfl, rfl, by decide +kernel, rfl, by decide +kernel, by decide +kernel⟩
abbrev st__law_pair_right : Stmt := top 59
abbrev dd__law_pair_right : He.DefD := ⟨("_law_pair_right", none), "_law_pair_right", "_law_pair_right", defArgs st__law_pair_right, defBody st__law_pair_right, defScope st__law_pair_right, [], []⟩
theorem sc__law_pair_right : FnScope ["field", "one", "other", "zero", "got", "due"] ["field", "one", "other"] (defScope st__law_pair_right) := ⟨rfl, rfl, rfl, by decide +kernel, rfl, by decide +kernel, by decide +kernel⟩
abbrev st__law_long_right : Stmt := top 60
abbrev dd__law_long_right : He.DefD := ⟨("_law_long_right", none), "_law_long_right", "_law_long_right", defArgs st__law_long_right, defBody st__law_long_right, defScope st__law_long_right, [], []⟩
theorem sc__law_long_right : FnScope ["tin", "field", "lot", "some", "total", "whole", "own", "many", "one", "high", "lap", "number", "got", "k"] ["tin", "field", "lot"] (defScope st__law_long_right) := ⟨rfl, rfl, rfl, by decide +kernel, rfl, by decide +kernel, by decide +kernel⟩
abbrev st_law : Stmt := top 61
abbrev dd_law : He.DefD := ⟨("law", none), "law", "law", defArgs st_law, defBody st_law, defScope st_law, [], []⟩
theorem sc_law : FnScope ["script", "tin", "field", "whole", "one", "parts", "lap", "odds", "near", "far", "got", "own", "k", "other"] ["script"] (defScope st_law) := ⟨rfl, rfl, rfl, by decide +kernel, rfl, by decide +kernel, by decide +kernel⟩
abbrev xd_Unfit : ExD := ⟨"Unfit", "ValueError", "ValueError.__new__", "ValueError.__init__", [.type "ValueError", .type "Exception", .type "BaseException", .type "object"], "Unfit.__init__", ⟨4, 17, 4, 21⟩, ⟨5, 8, 5, 13⟩, ⟨5, 8, 5, 15⟩, ⟨5, 8, 5, 24⟩, ⟨5, 8, 5, 26⟩, ⟨5, 8, 5, 26⟩⟩
abbrev xd_NoPaper : ExD := ⟨"NoPaper", "LookupError", "LookupError.__new__", "LookupError.__init__", [.type "LookupError", .type "Exception", .type "BaseException", .type "object"], "NoPaper.__init__", ⟨8, 17, 8, 21⟩, ⟨9, 8, 9, 13⟩, ⟨9, 8, 9, 15⟩, ⟨9, 8, 9, 24⟩, ⟨9, 8, 9, 26⟩, ⟨9, 8, 9, 26⟩⟩
abbrev fn : List He.DefD := [dd_is_number, dd_is_count, dd_is_below, dd_is_pair, dd_tupled, dd_sure, dd_sure_count, dd_common_of, dd_is_field, dd_sure_field, dd_is_amount_in, dd_is_amount, dd_sure_amount, dd_fraction, dd_number_in, dd_nought, dd_unit, dd_plus_in, dd_minus_in, dd_less_in, dd_times_in, dd_power_in, dd_back_in, dd_sum_in, dd_product_of_all, dd_are_amounts_in, dd_sure_amounts, dd_sure_two_amounts, dd_amount_of, dd_amounts_of, dd_amount_plus, dd_amount_less, dd_amount_times, dd_amount_over, dd_amount_power, dd_amounts_sum, dd_amounts_product, dd__law_box, dd__law_take, dd__law_cells, dd__law_of, dd__law_same, dd__law_lists, dd__law_common, dd__law_frac, dd__law_num, dd__law_sum, dd__law_neg, dd__law_mul, dd__law_inv, dd__law_heard, dd__law_pair_right, dd__law_long_right, dd_law]
abbrev fa : List He.Fa := [.free "int", .free "isinstance", .free "bool", .glo "is_number", .glo "is_count", .glo "is_below", .free "tuple", .free "len", .int "PAIR" 2, .glo "is_pair", .free "list", .glo "tupled", .glo "sure", .glo "sure_count", .free "abs", .glo "common_of", .glo "FIELDS", .glo "is_field", .glo "sure_field", .glo "is_amount_in", .glo "is_amount", .glo "sure_amount", .glo "fraction", .glo "number_in", .glo "nought", .glo "unit", .glo "plus_in", .glo "minus_in", .glo "less_in", .glo "times_in", .free "range", .glo "power_in", .glo "back_in", .glo "sum_in", .glo "product_of_all", .free "all", .glo "are_amounts_in", .glo "sure_amounts", .glo "sure_two_amounts", .glo "amount_of", .glo "amounts_of", .glo "amount_plus", .glo "amount_less", .glo "amount_times", .glo "amount_over", .glo "amount_power", .glo "amounts_sum", .glo "amounts_product", .glo "_law_box", .glo "_law_take", .free "enumerate", .glo "_law_cells", .glo "_law_of", .free "zip", .free "str", .glo "_law_same", .glo "_law_lists", .glo "_law_common", .glo "_law_frac", .glo "_law_num", .glo "_law_sum", .glo "_law_neg", .glo "_law_mul", .glo "_law_inv", .glo "_law_heard", .glo "_law_pair_right", .glo "_law_long_right", .glo "law", .glo "Unfit", .glo "NoPaper"]
abbrev tups : List (Str × List He.Dv) := [("FIELDS", [.int 0, .int 2, .int 3, .int 5, .int 7, .int 11, .int 13])]
abbrev xs : List ExD := [xd_Unfit, xd_NoPaper]
abbrev hd : HdD := ⟨fa, tups, fn, xs, "/claim/cut.py"⟩
section
variable {P : Program} {w : World} {K : PySem.W.Frag} {mg : Str → Option Value} {base : Heap}
theorem ex_Unfit (Z : Fx hd P K mg base) : ExTxt P K mg "Unfit" (He.ga K "Unfit") "ValueError" "ValueError.__new__" "ValueError.__init__" [.type "ValueError", .type "Exception", .type "BaseException", .type "object"] := Z.exc 0 (d := xd_Unfit) rfl ⟨_, fun env => rfl⟩ PySem.F.excBase_ValueError PySem.W.kxs_ValueError
theorem ex_NoPaper (Z : Fx hd P K mg base) : ExTxt P K mg "NoPaper" (He.ga K "NoPaper") "LookupError" "LookupError.__new__" "LookupError.__init__" [.type "LookupError", .type "Exception", .type "BaseException", .type "object"] := Z.exc 1 (d := xd_NoPaper) rfl ⟨_, fun env => rfl⟩ PySem.F.excBase_LookupError PySem.W.kxs_LookupError
theorem exm (Z : Fx hd P K mg base) : Exm K mg exNames := Z.exm rfl (fun x hx => by
  simp only [List.mem_cons, List.not_mem_nil, or_false] at hx
  rcases hx with rfl | rfl
  · exact (ex_Unfit Z).gC
  · exact (ex_NoPaper Z).gC)
theorem ok_is_number (Z : Fx hd P K mg base) : Ok P w K mg base "is_number" 1 ["thing"] φ_is_number :=
  Z.okP 0 3 (d := dd_is_number) (x := "is_number") (N := ["thing"]) (ps := ["thing"]) (k := 0) (b := d_is_number) sc_is_number (fun cdv A outer s H E hr tk =>
    (ts_one (ts_ret (tr_and (tr_callB cIsi sIsi rfl (Z.free 1) (by decide +kernel) (tr_cons (tr_var 0) (tr_cons (tr_ty .int rfl (Z.free 0) (by decide +kernel)) tr_nil))) (tr_one (tr_not (tr_callB cIsi sIsi rfl (Z.free 1) (by decide +kernel) (tr_cons (tr_var 0) (tr_cons (tr_ty .bool rfl (Z.free 2) (by decide +kernel)) tr_nil))))))))) (fun _ _ _ _ _ _ us hl => match us, hl with | [_], _ => rfl) rfl rfl
theorem ok_is_count (Z : Fx hd P K mg base) : Ok P w K mg base "is_count" 2 ["thing"] φ_is_count :=
  Z.okP 1 4 (d := dd_is_count) (x := "is_count") (N := ["thing"]) (ps := ["thing"]) (k := 1) (b := d_is_count) sc_is_count (fun cdv A outer s H E hr tk =>
    (ts_one (ts_ret (tr_and (tr_own (ok_is_number Z) hr (by decide) tk (tr_cons (tr_var 0) tr_nil)) (tr_one (tr_cmp op_ge (sCmp _) (tr_var 0) tr_int (nomark _))))))) (fun _ _ _ _ _ _ us hl => match us, hl with | [_], _ => rfl) rfl rfl
theorem ok_is_below (Z : Fx hd P K mg base) : Ok P w K mg base "is_below" 3 ["thing", "bound"] φ_is_below :=
  Z.okP 2 5 (d := dd_is_below) (x := "is_below") (N := ["thing", "bound"]) (ps := ["thing", "bound"]) (k := 2) (b := d_is_below) sc_is_below (fun cdv A outer s H E hr tk =>
    (ts_one (ts_ret (tr_and (tr_own (ok_is_count Z) hr (by decide) tk (tr_cons (tr_var 0) tr_nil)) (tr_one (tr_cmp op_lt (sCmp _) (tr_var 0) (tr_var 1) (nomark _))))))) (fun _ _ _ _ _ _ us hl => match us, hl with | [_, _], _ => rfl) rfl rfl
theorem ok_is_pair (Z : Fx hd P K mg base) : Ok P w K mg base "is_pair" 1 ["thing"] φ_is_pair :=
  Z.okP 3 9 (d := dd_is_pair) (x := "is_pair") (N := ["thing"]) (ps := ["thing"]) (k := 0) (b := d_is_pair) sc_is_pair (fun cdv A outer s H E hr tk =>
    (ts_one (ts_ret (tr_and (tr_callB cIsi sIsi rfl (Z.free 1) (by decide +kernel) (tr_cons (tr_var 0) (tr_cons (tr_ty .tuple rfl (Z.free 6) (by decide +kernel)) tr_nil))) (tr_one (tr_cmp (op_eqD hr.units) sEq (tr_callB call_len sLen rfl (Z.free 7) (by decide +kernel) (tr_cons (tr_var 0) tr_nil)) (tr_glob (v := .int 2) (t := .int 2) rfl (Z.int 8).choose_spec ⟨_, rfl⟩ (fun _ => .int _)) (nomark _))))))) (fun _ _ _ _ _ _ us hl => match us, hl with | [_], _ => rfl) rfl rfl
theorem ok_tupled (Z : Fx hd P K mg base) : ∀ n : Nat, Ok P w K mg base "tupled" (n + 0) ["thing"] (φ_tupled n)
  | 0 => Z.ok0 4 11 (d := dd_tupled) (fun _ _ _ _ _ _ us hl => match us, hl with | [_], _ => rfl) rfl rfl
  | n + 1 => by
    have self := ok_tupled Z n
    have e : n + 1 + 0 = (n + 0) + 1 := by omega
    rw [e]
    exact Z.okP 4 11 (d := dd_tupled) (x := "tupled") (N := ["thing", "part"]) (ps := ["thing"]) (k := n + 0) (b := d_tupled (φ_tupled n)) sc_tupled (fun cdv A outer s H E hr tk =>
    (ts_one (ts_ret (tr_if (tr_tru (tr_callB cIsi sIsi rfl (Z.free 1) (by decide +kernel) (tr_cons (tr_var 0) (tr_cons (tr_tup (tr_cons (tr_ty .list rfl (Z.free 10) (by decide +kernel)) (tr_cons (tr_ty .tuple rfl (Z.free 6) (by decide +kernel)) tr_nil))) tr_nil)))) (tr_callTy call_tuple_of sTuple rfl (Z.free 6) (by decide +kernel) (tr_cons (tr_lc (own := [("part", 1)]) .tree (.nm 1) rfl sc_tupled.nd (tr_iseq (tr_var 0)) (blkOk_by (by kernel_rfl)) (fun _ _ _ _ _ => (pr_nm 1 sc_tupled.nd)) (fun _ _ _ _ _ => tr_yes) (fun _ _ _ _ _ => (tr_own self hr (by omega) takesN (tr_cons (tr_var 1) tr_nil)))) tr_nil)) (tr_var 0))))) (fun _ _ _ _ _ _ us hl => match us, hl with | [_], _ => rfl) rfl rfl
theorem ok_sure (Z : Fx hd P K mg base) : Ok P w K mg base "sure" 1 ["is_so"] φ_sure :=
  Z.okP 5 12 (d := dd_sure) (x := "sure") (N := ["is_so"]) (ps := ["is_so"]) (k := 0) (b := d_sure) sc_sure (fun cdv A outer s H E hr tk =>
    (ts_one (ts_if (tr_notB (tr_tru (tr_var 0))) (ts_one (ts_raise0 rfl tk (ex_Unfit Z) hr)) ts_nil))) (fun _ _ _ _ _ _ us hl => match us, hl with | [_], _ => rfl) rfl rfl
theorem ok_sure_count (Z : Fx hd P K mg base) : Ok P w K mg base "sure_count" 3 ["number"] φ_sure_count :=
  Z.okP 6 13 (d := dd_sure_count) (x := "sure_count") (N := ["number"]) (ps := ["number"]) (k := 2) (b := d_sure_count) sc_sure_count (fun cdv A outer s H E hr tk =>
    (ts_cons (ts_expr (tr_own (ok_sure Z) hr (by decide) tk (tr_cons (tr_own (ok_is_count Z) hr (by decide) tk (tr_cons (tr_var 0) tr_nil)) tr_nil)))
    (ts_one (ts_ret (tr_var 0))))) (fun _ _ _ _ _ _ us hl => match us, hl with | [_], _ => rfl) rfl rfl
theorem ok_common_of (Z : Fx hd P K mg base) : Ok P w K mg base "common_of" 1 ["one", "other"] φ_common_of :=
  Z.okP 7 15 (d := dd_common_of) (x := "common_of") (N := ["one", "other", "near", "far"]) (ps := ["one", "other"]) (k := 0) (b := d_common_of) sc_common_of (fun cdv A outer s H E hr tk =>
    (ts_cons (ts_par 2 3 rfl sc_common_of.nd (tr_cons (tr_callB call_abs sAbs rfl (Z.free 14) (by decide +kernel) (tr_cons (tr_var 0) tr_nil)) (tr_cons (tr_callB call_abs sAbs rfl (Z.free 14) (by decide +kernel) (tr_cons (tr_var 1) tr_nil)) tr_nil)))
    (ts_cons (ts_while 1000 (passes_of rfl) (tr_cmpT op_gt (sCmp _) (tr_var 3) tr_int (nomark _)) (ts_one (ts_par 2 3 rfl sc_common_of.nd (tr_cons (tr_var 3) (tr_cons (tr_op op_modN sMod (tr_var 2) (tr_var 3)) tr_nil)))))
    (ts_one (ts_ret (tr_var 2)))))) (fun _ _ _ _ _ _ us hl => match us, hl with | [_, _], _ => rfl) rfl rfl
theorem ok_is_field (Z : Fx hd P K mg base) : Ok P w K mg base "is_field" 2 ["thing"] φ_is_field :=
  Z.okP 8 17 (d := dd_is_field) (x := "is_field") (N := ["thing"]) (ps := ["thing"]) (k := 1) (b := d_is_field) sc_is_field (fun cdv A outer s H E hr tk =>
    (ts_one (ts_ret (tr_and (tr_own (ok_is_number Z) hr (by decide) tk (tr_cons (tr_var 0) tr_nil)) (tr_one (tr_cmp (oIn (u65 hr)) sIn (tr_var 0) (tr_glob (v := .ref (He.ga K "FIELDS")) (t := (.tup [.int 0, .int 2, .int 3, .int 5, .int 7, .int 11, .int 13])) rfl (Z.glo 16) rfl (fun S => .tup (Says.tup Z.c 0 rfl S) (.cons (.int _) (.cons (.int _) (.cons (.int _) (.cons (.int _) (.cons (.int _) (.cons (.int _) (.cons (.int _) .nil))))))))) rfl)))))) (fun _ _ _ _ _ _ us hl => match us, hl with | [_], _ => rfl) rfl rfl
theorem ok_sure_field (Z : Fx hd P K mg base) : Ok P w K mg base "sure_field" 3 ["field"] φ_sure_field :=
  Z.okP 9 18 (d := dd_sure_field) (x := "sure_field") (N := ["field"]) (ps := ["field"]) (k := 2) (b := d_sure_field) sc_sure_field (fun cdv A outer s H E hr tk =>
    (ts_cons (ts_expr (tr_own (ok_sure Z) hr (by decide) tk (tr_cons (tr_own (ok_is_field Z) hr (by decide) tk (tr_cons (tr_var 0) tr_nil)) tr_nil)))
    (ts_one (ts_ret (tr_var 0))))) (fun _ _ _ _ _ _ us hl => match us, hl with | [_], _ => rfl) rfl rfl
theorem ok_is_amount_in (Z : Fx hd P K mg base) : Ok P w K mg base "is_amount_in" 4 ["field", "thing"] φ_is_amount_in :=
  Z.okP 10 19 (d := dd_is_amount_in) (x := "is_amount_in") (N := ["field", "thing"]) (ps := ["field", "thing"]) (k := 3) (b := d_is_amount_in) sc_is_amount_in (fun cdv A outer s H E hr tk =>
    (ts_cons (ts_if (tr_cmpT op_gt (sCmp _) (tr_var 0) tr_int (nomark _)) (ts_one (ts_ret (tr_own (ok_is_below Z) hr (by decide) tk (tr_cons (tr_var 1) (tr_cons (tr_var 0) tr_nil))))) ts_nil)
    (ts_cons (ts_if (PW.pt (tr_orB (tr_notB (tr_tru (tr_own (ok_is_pair Z) hr (by decide) tk (tr_cons (tr_var 1) tr_nil)))) (tr_orB (tr_notB (tr_tru (tr_own (ok_is_number Z) hr (by decide) tk (tr_cons (tr_ix (tr_var 1) tr_int) tr_nil)))) (tr_or1 (tr_notB (tr_tru (tr_own (ok_is_number Z) hr (by decide) tk (tr_cons (tr_ix (tr_var 1) tr_int) tr_nil)))))))) (ts_one (ts_ret tr_bl)) ts_nil)
    (ts_one (ts_ret (tr_and (tr_cmp op_gt (sCmp _) (tr_ix (tr_var 1) tr_int) tr_int (nomark _)) (tr_one (tr_cmp (op_eqD hr.units) sEq (tr_own (ok_common_of Z) hr (by decide) tk (tr_cons (tr_ix (tr_var 1) tr_int) (tr_cons (tr_ix (tr_var 1) tr_int) tr_nil))) tr_int (nomark _))))))))) (fun _ _ _ _ _ _ us hl => match us, hl with | [_, _], _ => rfl) rfl rfl
theorem ok_is_amount (Z : Fx hd P K mg base) : Ok P w K mg base "is_amount" 5 ["field", "thing"] φ_is_amount :=
  Z.okP 11 20 (d := dd_is_amount) (x := "is_amount") (N := ["field", "thing"]) (ps := ["field", "thing"]) (k := 4) (b := d_is_amount) sc_is_amount (fun cdv A outer s H E hr tk =>
    (ts_one (ts_ret (tr_own (ok_is_amount_in Z) hr (by decide) tk (tr_cons (tr_own (ok_sure_field Z) hr (by decide) tk (tr_cons (tr_var 0) tr_nil)) (tr_cons (tr_var 1) tr_nil)))))) (fun _ _ _ _ _ _ us hl => match us, hl with | [_, _], _ => rfl) rfl rfl
theorem ok_sure_amount (Z : Fx hd P K mg base) : Ok P w K mg base "sure_amount" 9 ["field", "amount"] φ_sure_amount :=
  Z.okP 12 21 (d := dd_sure_amount) (x := "sure_amount") (N := ["field", "amount", "own"]) (ps := ["field", "amount"]) (k := 8) (b := d_sure_amount) sc_sure_amount (fun cdv A outer s H E hr tk =>
    (ts_cons (ts_set 2 sc_sure_amount.nd (tr_own (ok_tupled Z (8 : Nat)) hr (by decide) tk (tr_cons (tr_var 1) tr_nil)))
    (ts_cons (ts_expr (tr_own (ok_sure Z) hr (by decide) tk (tr_cons (tr_own (ok_is_amount_in Z) hr (by decide) tk (tr_cons (tr_var 0) (tr_cons (tr_var 2) tr_nil))) tr_nil)))
    (ts_one (ts_ret (tr_var 2)))))) (fun _ _ _ _ _ _ us hl => match us, hl with | [_, _], _ => rfl) rfl rfl
theorem ok_fraction (Z : Fx hd P K mg base) : Ok P w K mg base "fraction" 2 ["top", "bottom"] φ_fraction :=
  Z.okP 13 22 (d := dd_fraction) (x := "fraction") (N := ["top", "bottom", "shared", "divisor"]) (ps := ["top", "bottom"]) (k := 1) (b := d_fraction) sc_fraction (fun cdv A outer s H E hr tk =>
    (ts_cons (ts_set 2 sc_fraction.nd (tr_own (ok_common_of Z) hr (by decide) tk (tr_cons (tr_var 0) (tr_cons (tr_var 1) tr_nil))))
    (ts_cons (ts_set 3 sc_fraction.nd (tr_if (tr_cmpT op_gt (sCmp _) (tr_var 1) tr_int (nomark _)) (tr_var 2) (tr_neg (tr_var 2))))
    (ts_one (ts_ret (tr_tup (tr_cons (tr_op oDiv sDiv (tr_var 0) (tr_var 3)) (tr_cons (tr_op oDiv sDiv (tr_var 1) (tr_var 3)) tr_nil)))))))) (fun _ _ _ _ _ _ us hl => match us, hl with | [_, _], _ => rfl) rfl rfl
theorem ok_number_in (Z : Fx hd P K mg base) : Ok P w K mg base "number_in" 1 ["field", "number"] φ_number_in :=
  Z.okP 14 23 (d := dd_number_in) (x := "number_in") (N := ["field", "number"]) (ps := ["field", "number"]) (k := 0) (b := d_number_in) sc_number_in (fun cdv A outer s H E hr tk =>
    (ts_one (ts_ret (tr_if (tr_cmpT (op_eqD hr.units) sEq (tr_var 0) tr_int (nomark _)) (tr_tup (tr_cons (tr_var 1) (tr_cons tr_int tr_nil))) (tr_op op_modN sMod (tr_var 1) (tr_var 0)))))) (fun _ _ _ _ _ _ us hl => match us, hl with | [_, _], _ => rfl) rfl rfl
theorem ok_nought (Z : Fx hd P K mg base) : Ok P w K mg base "nought" 2 ["field"] φ_nought :=
  Z.okP 15 24 (d := dd_nought) (x := "nought") (N := ["field"]) (ps := ["field"]) (k := 1) (b := d_nought) sc_nought (fun cdv A outer s H E hr tk =>
    (ts_one (ts_ret (tr_own (ok_number_in Z) hr (by decide) tk (tr_cons (tr_var 0) (tr_cons tr_int tr_nil)))))) (fun _ _ _ _ _ _ us hl => match us, hl with | [_], _ => rfl) rfl rfl
theorem ok_unit (Z : Fx hd P K mg base) : Ok P w K mg base "unit" 2 ["field"] φ_unit :=
  Z.okP 16 25 (d := dd_unit) (x := "unit") (N := ["field"]) (ps := ["field"]) (k := 1) (b := d_unit) sc_unit (fun cdv A outer s H E hr tk =>
    (ts_one (ts_ret (tr_own (ok_number_in Z) hr (by decide) tk (tr_cons (tr_var 0) (tr_cons tr_int tr_nil)))))) (fun _ _ _ _ _ _ us hl => match us, hl with | [_], _ => rfl) rfl rfl
theorem ok_plus_in (Z : Fx hd P K mg base) : Ok P w K mg base "plus_in" 3 ["field", "one", "other"] φ_plus_in :=
  Z.okP 17 26 (d := dd_plus_in) (x := "plus_in") (N := ["field", "one", "other"]) (ps := ["field", "one", "other"]) (k := 2) (b := d_plus_in) sc_plus_in (fun cdv A outer s H E hr tk =>
    (ts_cons (ts_if (tr_cmpT (op_eqD hr.units) sEq (tr_var 0) tr_int (nomark _)) (ts_one (ts_ret (tr_own (ok_fraction Z) hr (by decide) tk (tr_cons (tr_op oAdd (sAdd .tree) (tr_op oMul sMul (tr_ix (tr_var 1) tr_int) (tr_ix (tr_var 2) tr_int)) (tr_op oMul sMul (tr_ix (tr_var 2) tr_int) (tr_ix (tr_var 1) tr_int))) (tr_cons (tr_op oMul sMul (tr_ix (tr_var 1) tr_int) (tr_ix (tr_var 2) tr_int)) tr_nil))))) ts_nil)
    (ts_one (ts_ret (tr_op op_modN sMod (tr_op oAdd (sAdd .tree) (tr_var 1) (tr_var 2)) (tr_var 0)))))) (fun _ _ _ _ _ _ us hl => match us, hl with | [_, _, _], _ => rfl) rfl rfl
theorem ok_minus_in (Z : Fx hd P K mg base) : Ok P w K mg base "minus_in" 1 ["field", "amount"] φ_minus_in :=
  Z.okP 18 27 (d := dd_minus_in) (x := "minus_in") (N := ["field", "amount"]) (ps := ["field", "amount"]) (k := 0) (b := d_minus_in) sc_minus_in (fun cdv A outer s H E hr tk =>
    (ts_one (ts_ret (tr_if (tr_cmpT (op_eqD hr.units) sEq (tr_var 0) tr_int (nomark _)) (tr_tup (tr_cons (tr_neg (tr_ix (tr_var 1) tr_int)) (tr_cons (tr_ix (tr_var 1) tr_int) tr_nil))) (tr_op op_modN sMod (tr_neg (tr_var 1)) (tr_var 0)))))) (fun _ _ _ _ _ _ us hl => match us, hl with | [_, _], _ => rfl) rfl rfl
theorem ok_less_in (Z : Fx hd P K mg base) : Ok P w K mg base "less_in" 4 ["field", "one", "other"] φ_less_in :=
  Z.okP 19 28 (d := dd_less_in) (x := "less_in") (N := ["field", "one", "other"]) (ps := ["field", "one", "other"]) (k := 3) (b := d_less_in) sc_less_in (fun cdv A outer s H E hr tk =>
    (ts_one (ts_ret (tr_own (ok_plus_in Z) hr (by decide) tk (tr_cons (tr_var 0) (tr_cons (tr_var 1) (tr_cons (tr_own (ok_minus_in Z) hr (by decide) tk (tr_cons (tr_var 0) (tr_cons (tr_var 2) tr_nil))) tr_nil))))))) (fun _ _ _ _ _ _ us hl => match us, hl with | [_, _, _], _ => rfl) rfl rfl
theorem ok_times_in (Z : Fx hd P K mg base) : Ok P w K mg base "times_in" 3 ["field", "one", "other"] φ_times_in :=
  Z.okP 20 29 (d := dd_times_in) (x := "times_in") (N := ["field", "one", "other"]) (ps := ["field", "one", "other"]) (k := 2) (b := d_times_in) sc_times_in (fun cdv A outer s H E hr tk =>
    (ts_one (ts_ret (tr_if (tr_cmpT (op_eqD hr.units) sEq (tr_var 0) tr_int (nomark _)) (tr_own (ok_fraction Z) hr (by decide) tk (tr_cons (tr_op oMul sMul (tr_ix (tr_var 1) tr_int) (tr_ix (tr_var 2) tr_int)) (tr_cons (tr_op oMul sMul (tr_ix (tr_var 1) tr_int) (tr_ix (tr_var 2) tr_int)) tr_nil))) (tr_op op_modN sMod (tr_op oMul sMul (tr_var 1) (tr_var 2)) (tr_var 0)))))) (fun _ _ _ _ _ _ us hl => match us, hl with | [_, _, _], _ => rfl) rfl rfl
theorem ok_power_in (Z : Fx hd P K mg base) : Ok P w K mg base "power_in" 4 ["field", "amount", "many"] φ_power_in :=
  Z.okP 21 31 (d := dd_power_in) (x := "power_in") (N := ["field", "amount", "many", "found", "_"]) (ps := ["field", "amount", "many"]) (k := 3) (b := d_power_in) sc_power_in (fun cdv A outer s H E hr tk =>
    (ts_cons (ts_set 3 sc_power_in.nd (tr_own (ok_unit Z) hr (by decide) tk (tr_cons (tr_var 0) tr_nil)))
    (ts_cons (ts_for (.nm 4) (passes_of rfl) rfl (tr_irg1 rfl (Z.free 30) (tr_var 2)) (pr_nm 4 sc_power_in.nd) (ts_one (ts_set 3 sc_power_in.nd (tr_own (ok_times_in Z) hr (by decide) tk (tr_cons (tr_var 0) (tr_cons (tr_var 3) (tr_cons (tr_var 1) tr_nil)))))))
    (ts_one (ts_ret (tr_var 3)))))) (fun _ _ _ _ _ _ us hl => match us, hl with | [_, _, _], _ => rfl) rfl rfl
theorem ok_back_in (Z : Fx hd P K mg base) : Ok P w K mg base "back_in" 5 ["field", "amount"] φ_back_in :=
  Z.okP 22 32 (d := dd_back_in) (x := "back_in") (N := ["field", "amount"]) (ps := ["field", "amount"]) (k := 4) (b := d_back_in) sc_back_in (fun cdv A outer s H E hr tk =>
    (ts_one (ts_ret (tr_if (tr_cmpT (op_eqD hr.units) sEq (tr_var 0) tr_int (nomark _)) (tr_own (ok_fraction Z) hr (by decide) tk (tr_cons (tr_ix (tr_var 1) tr_int) (tr_cons (tr_ix (tr_var 1) tr_int) tr_nil))) (tr_own (ok_power_in Z) hr (by decide) tk (tr_cons (tr_var 0) (tr_cons (tr_var 1) (tr_cons (tr_op op_sub sSub (tr_var 0) tr_int) tr_nil)))))))) (fun _ _ _ _ _ _ us hl => match us, hl with | [_, _], _ => rfl) rfl rfl
theorem ok_sum_in (Z : Fx hd P K mg base) : Ok P w K mg base "sum_in" 4 ["field", "amounts"] φ_sum_in :=
  Z.okP 23 33 (d := dd_sum_in) (x := "sum_in") (N := ["field", "amounts", "found", "own"]) (ps := ["field", "amounts"]) (k := 3) (b := d_sum_in) sc_sum_in (fun cdv A outer s H E hr tk =>
    (ts_cons (ts_set 2 sc_sum_in.nd (tr_own (ok_nought Z) hr (by decide) tk (tr_cons (tr_var 0) tr_nil)))
    (ts_cons (ts_for (.nm 3) (passes_of rfl) rfl (tr_iseq (tr_var 1)) (pr_nm 3 sc_sum_in.nd) (ts_one (ts_set 2 sc_sum_in.nd (tr_own (ok_plus_in Z) hr (by decide) tk (tr_cons (tr_var 0) (tr_cons (tr_var 2) (tr_cons (tr_var 3) tr_nil)))))))
    (ts_one (ts_ret (tr_var 2)))))) (fun _ _ _ _ _ _ us hl => match us, hl with | [_, _], _ => rfl) rfl rfl
theorem ok_product_of_all (Z : Fx hd P K mg base) : Ok P w K mg base "product_of_all" 4 ["field", "amounts"] φ_product_of_all :=
  Z.okP 24 34 (d := dd_product_of_all) (x := "product_of_all") (N := ["field", "amounts", "found", "own"]) (ps := ["field", "amounts"]) (k := 3) (b := d_product_of_all) sc_product_of_all (fun cdv A outer s H E hr tk =>
    (ts_cons (ts_set 2 sc_product_of_all.nd (tr_own (ok_unit Z) hr (by decide) tk (tr_cons (tr_var 0) tr_nil)))
    (ts_cons (ts_for (.nm 3) (passes_of rfl) rfl (tr_iseq (tr_var 1)) (pr_nm 3 sc_product_of_all.nd) (ts_one (ts_set 2 sc_product_of_all.nd (tr_own (ok_times_in Z) hr (by decide) tk (tr_cons (tr_var 0) (tr_cons (tr_var 2) (tr_cons (tr_var 3) tr_nil)))))))
    (ts_one (ts_ret (tr_var 2)))))) (fun _ _ _ _ _ _ us hl => match us, hl with | [_, _], _ => rfl) rfl rfl
theorem ok_are_amounts_in (Z : Fx hd P K mg base) : Ok P w K mg base "are_amounts_in" 5 ["field", "thing"] φ_are_amounts_in :=
  Z.okP 25 36 (d := dd_are_amounts_in) (x := "are_amounts_in") (N := ["field", "thing", "own"]) (ps := ["field", "thing"]) (k := 4) (b := d_are_amounts_in) sc_are_amounts_in (fun cdv A outer s H E hr tk =>
    (ts_one (ts_ret (tr_and (tr_callB cIsi sIsi rfl (Z.free 1) (by decide +kernel) (tr_cons (tr_var 1) (tr_cons (tr_ty .tuple rfl (Z.free 6) (by decide +kernel)) tr_nil))) (tr_one (tr_callB (cr_all rfl) sAll rfl (Z.free 35) (by decide +kernel) (tr_cons (tr_lc (own := [("own", 2)]) .tree (.nm 2) rfl sc_are_amounts_in.nd (tr_iseq (tr_var 1)) (blkOk_by (by kernel_rfl)) (fun _ _ _ _ _ => (pr_nm 2 sc_are_amounts_in.nd)) (fun _ _ _ _ _ => tr_yes) (fun _ _ _ _ _ => (tr_own (ok_is_amount_in Z) hr (by decide) takesN (tr_cons (tr_var 0) (tr_cons (tr_var 2) tr_nil))))) tr_nil))))))) (fun _ _ _ _ _ _ us hl => match us, hl with | [_, _], _ => rfl) rfl rfl
theorem ok_sure_amounts (Z : Fx hd P K mg base) : Ok P w K mg base "sure_amounts" 9 ["field", "amounts"] φ_sure_amounts :=
  Z.okP 26 37 (d := dd_sure_amounts) (x := "sure_amounts") (N := ["field", "amounts", "own", "told"]) (ps := ["field", "amounts"]) (k := 8) (b := d_sure_amounts) sc_sure_amounts (fun cdv A outer s H E hr tk =>
    (ts_cons (ts_par 2 3 rfl sc_sure_amounts.nd (tr_cons (tr_own (ok_sure_field Z) hr (by decide) tk (tr_cons (tr_var 0) tr_nil)) (tr_cons (tr_own (ok_tupled Z (8 : Nat)) hr (by decide) tk (tr_cons (tr_var 1) tr_nil)) tr_nil)))
    (ts_cons (ts_expr (tr_own (ok_sure Z) hr (by decide) tk (tr_cons (tr_own (ok_are_amounts_in Z) hr (by decide) tk (tr_cons (tr_var 2) (tr_cons (tr_var 3) tr_nil))) tr_nil)))
    (ts_one (ts_ret (tr_tup (tr_cons (tr_var 2) (tr_cons (tr_var 3) tr_nil)))))))) (fun _ _ _ _ _ _ us hl => match us, hl with | [_, _], _ => rfl) rfl rfl
theorem ok_sure_two_amounts (Z : Fx hd P K mg base) : Ok P w K mg base "sure_two_amounts" 10 ["field", "one", "other"] φ_sure_two_amounts :=
  Z.okP 27 38 (d := dd_sure_two_amounts) (x := "sure_two_amounts") (N := ["field", "one", "other", "own"]) (ps := ["field", "one", "other"]) (k := 9) (b := d_sure_two_amounts) sc_sure_two_amounts (fun cdv A outer s H E hr tk =>
    (ts_cons (ts_set 3 sc_sure_two_amounts.nd (tr_own (ok_sure_field Z) hr (by decide) tk (tr_cons (tr_var 0) tr_nil)))
    (ts_one (ts_ret (tr_tup (tr_cons (tr_var 3) (tr_cons (tr_own (ok_sure_amount Z) hr (by decide) tk (tr_cons (tr_var 3) (tr_cons (tr_var 1) tr_nil))) (tr_cons (tr_own (ok_sure_amount Z) hr (by decide) tk (tr_cons (tr_var 3) (tr_cons (tr_var 2) tr_nil))) tr_nil)))))))) (fun _ _ _ _ _ _ us hl => match us, hl with | [_, _, _], _ => rfl) rfl rfl
theorem ok_amount_of (Z : Fx hd P K mg base) : Ok P w K mg base "amount_of" 4 ["field", "number"] φ_amount_of :=
  Z.okP 28 39 (d := dd_amount_of) (x := "amount_of") (N := ["field", "number", "own"]) (ps := ["field", "number"]) (k := 3) (b := d_amount_of) sc_amount_of (fun cdv A outer s H E hr tk =>
    (ts_cons (ts_set 2 sc_amount_of.nd (tr_own (ok_sure_field Z) hr (by decide) tk (tr_cons (tr_var 0) tr_nil)))
    (ts_cons (ts_expr (tr_own (ok_sure Z) hr (by decide) tk (tr_cons (tr_own (ok_is_number Z) hr (by decide) tk (tr_cons (tr_var 1) tr_nil)) tr_nil)))
    (ts_one (ts_ret (tr_own (ok_number_in Z) hr (by decide) tk (tr_cons (tr_var 2) (tr_cons (tr_var 1) tr_nil)))))))) (fun _ _ _ _ _ _ us hl => match us, hl with | [_, _], _ => rfl) rfl rfl
theorem ok_amounts_of (Z : Fx hd P K mg base) : Ok P w K mg base "amounts_of" 4 ["field"] φ_amounts_of :=
  Z.okP 29 40 (d := dd_amounts_of) (x := "amounts_of") (N := ["field", "own"]) (ps := ["field"]) (k := 3) (b := d_amounts_of) sc_amounts_of (fun cdv A outer s H E hr tk =>
    (ts_cons (ts_set 1 sc_amounts_of.nd (tr_own (ok_sure_field Z) hr (by decide) tk (tr_cons (tr_var 0) tr_nil)))
    (ts_cons (ts_if (tr_cmpT (op_eqD hr.units) sEq (tr_var 1) tr_int (nomark _)) (ts_one (ts_raise0 rfl tk (ex_NoPaper Z) hr)) ts_nil)
    (ts_one (ts_ret (tr_lrg .tree rfl rfl (Z.free 10) rfl (Z.free 30) (tr_var 1))))))) (fun _ _ _ _ _ _ us hl => match us, hl with | [_], _ => rfl) rfl rfl
theorem ok_amount_plus (Z : Fx hd P K mg base) : Ok P w K mg base "amount_plus" 11 ["field", "one", "other"] φ_amount_plus :=
  Z.okP 30 41 (d := dd_amount_plus) (x := "amount_plus") (N := ["field", "one", "other", "own", "near", "far"]) (ps := ["field", "one", "other"]) (k := 10) (b := d_amount_plus) sc_amount_plus (fun cdv A outer s H E hr tk =>
    (ts_cons (ts_asg (tr_own (ok_sure_two_amounts Z) hr (by decide) tk (tr_cons (tr_var 0) (tr_cons (tr_var 1) (tr_cons (tr_var 2) tr_nil)))) (tr_gtup rfl (tr_gcons (fun _ _ _ _ _ h => h) (tr_gname 3 sc_amount_plus.nd) (tr_gcons (fun _ _ _ _ _ h => h) (tr_gname 4 sc_amount_plus.nd) (tr_gcons (fun _ _ _ _ _ h => h) (tr_gname 5 sc_amount_plus.nd) tr_gnil)))))
    (ts_one (ts_ret (tr_own (ok_plus_in Z) hr (by decide) tk (tr_cons (tr_var 3) (tr_cons (tr_var 4) (tr_cons (tr_var 5) tr_nil)))))))) (fun _ _ _ _ _ _ us hl => match us, hl with | [_, _, _], _ => rfl) rfl rfl
theorem ok_amount_less (Z : Fx hd P K mg base) : Ok P w K mg base "amount_less" 11 ["field", "one", "other"] φ_amount_less :=
  Z.okP 31 42 (d := dd_amount_less) (x := "amount_less") (N := ["field", "one", "other", "own", "near", "far"]) (ps := ["field", "one", "other"]) (k := 10) (b := d_amount_less) sc_amount_less (fun cdv A outer s H E hr tk =>
    (ts_cons (ts_asg (tr_own (ok_sure_two_amounts Z) hr (by decide) tk (tr_cons (tr_var 0) (tr_cons (tr_var 1) (tr_cons (tr_var 2) tr_nil)))) (tr_gtup rfl (tr_gcons (fun _ _ _ _ _ h => h) (tr_gname 3 sc_amount_less.nd) (tr_gcons (fun _ _ _ _ _ h => h) (tr_gname 4 sc_amount_less.nd) (tr_gcons (fun _ _ _ _ _ h => h) (tr_gname 5 sc_amount_less.nd) tr_gnil)))))
    (ts_one (ts_ret (tr_own (ok_less_in Z) hr (by decide) tk (tr_cons (tr_var 3) (tr_cons (tr_var 4) (tr_cons (tr_var 5) tr_nil)))))))) (fun _ _ _ _ _ _ us hl => match us, hl with | [_, _, _], _ => rfl) rfl rfl
theorem ok_amount_times (Z : Fx hd P K mg base) : Ok P w K mg base "amount_times" 11 ["field", "one", "other"] φ_amount_times :=
  Z.okP 32 43 (d := dd_amount_times) (x := "amount_times") (N := ["field", "one", "other", "own", "near", "far"]) (ps := ["field", "one", "other"]) (k := 10) (b := d_amount_times) sc_amount_times (fun cdv A outer s H E hr tk =>
    (ts_cons (ts_asg (tr_own (ok_sure_two_amounts Z) hr (by decide) tk (tr_cons (tr_var 0) (tr_cons (tr_var 1) (tr_cons (tr_var 2) tr_nil)))) (tr_gtup rfl (tr_gcons (fun _ _ _ _ _ h => h) (tr_gname 3 sc_amount_times.nd) (tr_gcons (fun _ _ _ _ _ h => h) (tr_gname 4 sc_amount_times.nd) (tr_gcons (fun _ _ _ _ _ h => h) (tr_gname 5 sc_amount_times.nd) tr_gnil)))))
    (ts_one (ts_ret (tr_own (ok_times_in Z) hr (by decide) tk (tr_cons (tr_var 3) (tr_cons (tr_var 4) (tr_cons (tr_var 5) tr_nil)))))))) (fun _ _ _ _ _ _ us hl => match us, hl with | [_, _, _], _ => rfl) rfl rfl
theorem ok_amount_over (Z : Fx hd P K mg base) : Ok P w K mg base "amount_over" 11 ["field", "one", "other"] φ_amount_over :=
  Z.okP 33 44 (d := dd_amount_over) (x := "amount_over") (N := ["field", "one", "other", "own", "near", "far"]) (ps := ["field", "one", "other"]) (k := 10) (b := d_amount_over) sc_amount_over (fun cdv A outer s H E hr tk =>
    (ts_cons (ts_asg (tr_own (ok_sure_two_amounts Z) hr (by decide) tk (tr_cons (tr_var 0) (tr_cons (tr_var 1) (tr_cons (tr_var 2) tr_nil)))) (tr_gtup rfl (tr_gcons (fun _ _ _ _ _ h => h) (tr_gname 3 sc_amount_over.nd) (tr_gcons (fun _ _ _ _ _ h => h) (tr_gname 4 sc_amount_over.nd) (tr_gcons (fun _ _ _ _ _ h => h) (tr_gname 5 sc_amount_over.nd) tr_gnil)))))
    (ts_cons (ts_if (tr_cmpT (op_eqD hr.units) sEq (tr_var 5) (tr_own (ok_nought Z) hr (by decide) tk (tr_cons (tr_var 3) tr_nil)) (nomark _)) (ts_one (ts_raise0 rfl tk (ex_NoPaper Z) hr)) ts_nil)
    (ts_one (ts_ret (tr_own (ok_times_in Z) hr (by decide) tk (tr_cons (tr_var 3) (tr_cons (tr_var 4) (tr_cons (tr_own (ok_back_in Z) hr (by decide) tk (tr_cons (tr_var 3) (tr_cons (tr_var 5) tr_nil))) tr_nil))))))))) (fun _ _ _ _ _ _ us hl => match us, hl with | [_, _, _], _ => rfl) rfl rfl
theorem ok_amount_power (Z : Fx hd P K mg base) : Ok P w K mg base "amount_power" 10 ["field", "amount", "many"] φ_amount_power :=
  Z.okP 34 45 (d := dd_amount_power) (x := "amount_power") (N := ["field", "amount", "many", "own", "told"]) (ps := ["field", "amount", "many"]) (k := 9) (b := d_amount_power) sc_amount_power (fun cdv A outer s H E hr tk =>
    (ts_cons (ts_set 3 sc_amount_power.nd (tr_own (ok_sure_field Z) hr (by decide) tk (tr_cons (tr_var 0) tr_nil)))
    (ts_cons (ts_set 4 sc_amount_power.nd (tr_own (ok_sure_amount Z) hr (by decide) tk (tr_cons (tr_var 3) (tr_cons (tr_var 1) tr_nil))))
    (ts_one (ts_ret (tr_own (ok_power_in Z) hr (by decide) tk (tr_cons (tr_var 3) (tr_cons (tr_var 4) (tr_cons (tr_own (ok_sure_count Z) hr (by decide) tk (tr_cons (tr_var 2) tr_nil)) tr_nil))))))))) (fun _ _ _ _ _ _ us hl => match us, hl with | [_, _, _], _ => rfl) rfl rfl
theorem ok_amounts_sum (Z : Fx hd P K mg base) : Ok P w K mg base "amounts_sum" 10 ["field", "amounts"] φ_amounts_sum :=
  Z.okP 35 46 (d := dd_amounts_sum) (x := "amounts_sum") (N := ["field", "amounts", "own", "told"]) (ps := ["field", "amounts"]) (k := 9) (b := d_amounts_sum) sc_amounts_sum (fun cdv A outer s H E hr tk =>
    (ts_cons (ts_asg (tr_own (ok_sure_amounts Z) hr (by decide) tk (tr_cons (tr_var 0) (tr_cons (tr_var 1) tr_nil))) (tr_gtup rfl (tr_gcons (fun _ _ _ _ _ h => h) (tr_gname 2 sc_amounts_sum.nd) (tr_gcons (fun _ _ _ _ _ h => h) (tr_gname 3 sc_amounts_sum.nd) tr_gnil))))
    (ts_one (ts_ret (tr_own (ok_sum_in Z) hr (by decide) tk (tr_cons (tr_var 2) (tr_cons (tr_var 3) tr_nil))))))) (fun _ _ _ _ _ _ us hl => match us, hl with | [_, _], _ => rfl) rfl rfl
theorem ok_amounts_product (Z : Fx hd P K mg base) : Ok P w K mg base "amounts_product" 10 ["field", "amounts"] φ_amounts_product :=
  Z.okP 36 47 (d := dd_amounts_product) (x := "amounts_product") (N := ["field", "amounts", "own", "told"]) (ps := ["field", "amounts"]) (k := 9) (b := d_amounts_product) sc_amounts_product (fun cdv A outer s H E hr tk =>
    (ts_cons (ts_asg (tr_own (ok_sure_amounts Z) hr (by decide) tk (tr_cons (tr_var 0) (tr_cons (tr_var 1) tr_nil))) (tr_gtup rfl (tr_gcons (fun _ _ _ _ _ h => h) (tr_gname 2 sc_amounts_product.nd) (tr_gcons (fun _ _ _ _ _ h => h) (tr_gname 3 sc_amounts_product.nd) tr_gnil))))
    (ts_one (ts_ret (tr_own (ok_product_of_all Z) hr (by decide) tk (tr_cons (tr_var 2) (tr_cons (tr_var 3) tr_nil))))))) (fun _ _ _ _ _ _ us hl => match us, hl with | [_, _], _ => rfl) rfl rfl
theorem ok__law_box (Z : Fx hd P K mg base) : Ok P w K mg base "_law_box" 1 ["script", "k"] φ__law_box :=
  Z.ok1 37 48 (d := dd__law_box) (x := "_law_box") (N := ["script", "k", "cell"]) (ps := ["script", "k"]) (k := 0) (b := d__law_box) sc__law_box (fun cdv A outer s H E hr tk =>
    (ts_cons (ts_set 2 sc__law_box.nd (tr_if (tr_cmpT op_lt (sCmp _) (tr_var 1) (tr_callB call_len sLen rfl (Z.free 7) (by decide +kernel) (tr_cons (tr_var 0) tr_nil)) (nomark _)) (tr_ix (tr_var 0) (tr_var 1)) tr_int))
    (ts_one (ts_ret (tr_lst .mu (tr_cons (tr_op oMul sMul (tr_callB call_abs sAbs rfl (Z.free 14) (by decide +kernel) (tr_cons (tr_var 2) tr_nil)) (tr_callTy call_int1 sIntC rfl (Z.free 0) (by decide +kernel) (tr_cons (tr_cmp op_ge (sCmp _) (tr_callB call_abs sAbs rfl (Z.free 14) (by decide +kernel) (tr_cons (tr_var 2) tr_nil)) (tr_op op_pow sPow tr_int tr_int) (nomark _)) tr_nil))) (tr_cons (tr_op oAdd (sAdd .tree) (tr_op oAdd (sAdd .tree) (tr_op op_modN sMod (tr_callTy call_int1 sIntC rfl (Z.free 0) (by decide +kernel) (tr_cons (tr_var 2) tr_nil)) tr_int) (tr_op oMul sMul tr_int (tr_var 1))) tr_int) (tr_cons tr_int tr_nil)))))))) (fun _ _ _ _ _ _ us hl => match us, hl with | [_, _], _ => rfl) rfl rfl
theorem ok__law_take (Z : Fx hd P K mg base) : Ok P w K mg base "_law_take" 1 ["tin", "below_so"] φ__law_take :=
  Z.okP 38 49 (d := dd__law_take) (x := "_law_take") (N := ["tin", "below_so", "drew_so", "once_so", "wide_so", "twice_so"]) (ps := ["tin", "below_so"]) (k := 0) (b := d__law_take) sc__law_take (fun cdv A outer s H E hr tk =>
    (ts_cons (ts_if (tr_cmpT op_gt (sCmp _) (tr_ix (tr_var 0) tr_int) tr_int (nomark _)) (ts_cons (ts_set 2 sc__law_take.nd (tr_op op_modN sMod (tr_callTy call_int1 sIntC rfl (Z.free 0) (by decide +kernel) (tr_cons (tr_ix (tr_var 0) tr_int) tr_nil)) (tr_var 1)))
    (ts_cons (ts_asg (tr_op oDiv sDiv (tr_ix (tr_var 0) tr_int) (tr_var 1)) (tr_gsub (tr_var 0) tr_int))
    (ts_one (ts_ret (tr_var 2))))) ts_nil)
    (ts_cons (ts_asg (tr_op oAdd (sAdd .tree) (tr_ix (tr_var 0) tr_int) tr_int) (tr_gsub (tr_var 0) tr_int))
    (ts_cons (ts_set 3 sc__law_take.nd (tr_op op_modN sMod (tr_callTy call_int1 sIntC rfl (Z.free 0) (by decide +kernel) (tr_cons (tr_op oMul sMul (tr_op oAdd (sAdd .tree) (tr_ix (tr_var 0) tr_int) (tr_op oMul sMul tr_int (tr_ix (tr_var 0) tr_int))) (tr_op oAdd (sAdd .tree) tr_int (tr_ix (tr_var 0) tr_int))) tr_nil)) tr_int))
    (ts_cons (ts_set 4 sc__law_take.nd (tr_op oAdd (sAdd .tree) (tr_op op_modN sMod (tr_callTy call_int1 sIntC rfl (Z.free 0) (by decide +kernel) (tr_cons (tr_var 3) tr_nil)) tr_int) tr_int))
    (ts_cons (ts_set 5 sc__law_take.nd (tr_op op_modN sMod (tr_callTy call_int1 sIntC rfl (Z.free 0) (by decide +kernel) (tr_cons (tr_op oMul sMul (tr_op oAdd (sAdd .tree) (tr_op oAdd (sAdd .tree) (tr_var 3) (tr_ix (tr_var 0) tr_int)) (tr_op oDiv sDiv (tr_ix (tr_var 0) tr_int) tr_int)) (tr_var 4)) tr_nil)) tr_int))
    (ts_one (ts_ret (tr_op op_modN sMod (tr_callTy call_int1 sIntC rfl (Z.free 0) (by decide +kernel) (tr_cons (tr_op oDiv sDiv (tr_op op_modN sMod (tr_callTy call_int1 sIntC rfl (Z.free 0) (by decide +kernel) (tr_cons (tr_op oAdd (sAdd .tree) (tr_op oMul sMul (tr_var 5) tr_int) (tr_var 3)) tr_nil)) tr_int) tr_int) tr_nil)) (tr_var 1)))))))))) (fun _ _ _ _ _ _ us hl => match us, hl with | [_, _], _ => rfl) rfl rfl
theorem ok__law_cells (Z : Fx hd P K mg base) : Ok P w K mg base "_law_cells" 1 ["script", "most_so"] φ__law_cells :=
  Z.ok1 39 51 (d := dd__law_cells) (x := "_law_cells") (N := ["script", "most_so", "cells_so", "k", "cell_so", "at_so"]) (ps := ["script", "most_so"]) (k := 0) (b := d__law_cells) sc__law_cells (fun cdv A outer s H E hr tk =>
    (ts_cons (ts_set 2 sc__law_cells.nd (tr_or (tr_callTy call_list_of (sList .mu) rfl (Z.free 10) (by decide +kernel) (tr_cons (tr_sl .tree (tr_var 0) tr_noP (tr_soP (tr_var 1))) tr_nil)) (tr_one (tr_lst .mu (tr_cons tr_int tr_nil)))))
    (ts_cons (ts_for (.tp [(.nm 3), (.nm 4)]) (passes_of rfl) rfl (tr_ienum rfl (Z.free 50) (tr_sl .tree (tr_var 0) (tr_soP (tr_var 1)) (tr_soP tr_int))) (pr_tp rfl (pr_cons (pr_nm 3 sc__law_cells.nd) (pr_cons (pr_nm 4 sc__law_cells.nd) pr_nil))) (ts_cons (ts_set 5 sc__law_cells.nd (tr_op op_modN sMod (tr_callTy call_int1 sIntC rfl (Z.free 0) (by decide +kernel) (tr_cons (tr_var 3) tr_nil)) (tr_var 1)))
    (ts_one (ts_asg (tr_op oAdd (sAdd .tree) (tr_ix (tr_var 2) (tr_var 5)) (tr_op oMul sMul (tr_var 4) (tr_op oAdd (sAdd .tree) (tr_var 3) tr_int))) (tr_gsub (tr_var 2) (tr_var 5))))))
    (ts_one (ts_ret (tr_var 2)))))) (fun _ _ _ _ _ _ us hl => match us, hl with | [_, _], _ => rfl) rfl rfl
theorem ok__law_of (Z : Fx hd P K mg base) : Ok P w K mg base "_law_of" 2 ["tin", "goods_so"] φ__law_of :=
  Z.okP 40 52 (d := dd__law_of) (x := "_law_of") (N := ["tin", "goods_so"]) (ps := ["tin", "goods_so"]) (k := 1) (b := d__law_of) sc__law_of (fun cdv A outer s H E hr tk =>
    (ts_one (ts_ret (tr_ix (tr_var 1) (tr_own (ok__law_take Z) hr (by decide) tk (tr_cons (tr_var 0) (tr_cons (tr_callB call_len sLen rfl (Z.free 7) (by decide +kernel) (tr_cons (tr_var 1) tr_nil)) tr_nil))))))) (fun _ _ _ _ _ _ us hl => match us, hl with | [_, _], _ => rfl) rfl rfl
theorem ok__law_same (Z : Fx hd P K mg base) : ∀ n : Nat, Ok P w K mg base "_law_same" (n + 0) ["got", "due"] (φ__law_same n)
  | 0 => Z.ok0 41 55 (d := dd__law_same) (fun _ _ _ _ _ _ us hl => match us, hl with | [_, _], _ => rfl) rfl rfl
  | n + 1 => by
    have self := ok__law_same Z n
    have e : n + 1 + 0 = (n + 0) + 1 := by omega
    rw [e]
    exact Z.okP 41 55 (d := dd__law_same) (x := "_law_same") (N := ["got", "due", "mine", "its"]) (ps := ["got", "due"]) (k := n + 0) (b := d__law_same (φ__law_same n)) sc__law_same (fun cdv A outer s H E hr tk =>
    (ts_cons (ts_if (tr_tru (tr_callB cIsi sIsi rfl (Z.free 1) (by decide +kernel) (tr_cons (tr_var 1) (tr_cons (tr_tup (tr_cons (tr_ty .list rfl (Z.free 10) (by decide +kernel)) (tr_cons (tr_ty .tuple rfl (Z.free 6) (by decide +kernel)) tr_nil))) tr_nil)))) (ts_cons (ts_if (PW.pt (tr_orB (tr_cmpT (op_neD hr.units) sNe (tr_callB cIsi sIsi rfl (Z.free 1) (by decide +kernel) (tr_cons (tr_var 0) (tr_cons (tr_ty .list rfl (Z.free 10) (by decide +kernel)) tr_nil))) (tr_callB cIsi sIsi rfl (Z.free 1) (by decide +kernel) (tr_cons (tr_var 1) (tr_cons (tr_ty .list rfl (Z.free 10) (by decide +kernel)) tr_nil))) (nomark _)) (tr_or1 (tr_cmpT (op_neD hr.units) sNe (tr_callB cIsi sIsi rfl (Z.free 1) (by decide +kernel) (tr_cons (tr_var 0) (tr_cons (tr_ty .tuple rfl (Z.free 6) (by decide +kernel)) tr_nil))) (tr_callB cIsi sIsi rfl (Z.free 1) (by decide +kernel) (tr_cons (tr_var 1) (tr_cons (tr_ty .tuple rfl (Z.free 6) (by decide +kernel)) tr_nil))) (nomark _))))) (ts_one (ts_ret tr_bl)) ts_nil)
    (ts_one (ts_ret (tr_and (tr_cmp (op_eqD hr.units) sEq (tr_callB call_len sLen rfl (Z.free 7) (by decide +kernel) (tr_cons (tr_var 0) tr_nil)) (tr_callB call_len sLen rfl (Z.free 7) (by decide +kernel) (tr_cons (tr_var 1) tr_nil)) (nomark _)) (tr_one (tr_callB (cr_all rfl) sAll rfl (Z.free 35) (by decide +kernel) (tr_cons (tr_lc (own := [("mine", 2), ("its", 3)]) .tree (.tp [(.nm 2), (.nm 3)]) rfl sc__law_same.nd (tr_izip rfl (Z.free 53) (tr_var 0) (tr_var 1)) (blkOk_by (by kernel_rfl)) (fun _ _ _ _ _ => (pr_tp rfl (pr_cons (pr_nm 2 sc__law_same.nd) (pr_cons (pr_nm 3 sc__law_same.nd) pr_nil)))) (fun _ _ _ _ _ => tr_yes) (fun _ _ _ _ _ => (tr_own self hr (by omega) takesN (tr_cons (tr_var 2) (tr_cons (tr_var 3) tr_nil))))) tr_nil))))))) ts_nil)
    (ts_cons (ts_if (PW.pt (tr_orB (tr_isNT (tr_var 1)) (tr_or1 (tr_tru (tr_callB cIsi sIsi rfl (Z.free 1) (by decide +kernel) (tr_cons (tr_var 1) (tr_cons (tr_tup (tr_cons (tr_ty .bool rfl (Z.free 2) (by decide +kernel)) (tr_cons (tr_ty .str rfl (Z.free 54) (by decide +kernel)) tr_nil))) tr_nil))))))) (ts_one (ts_ret (tr_and (tr_cmp (op_eqD hr.units) sEq (tr_var 0) (tr_var 1) (nomark _)) (tr_and (tr_cmp (op_eqD hr.units) sEq (tr_callB cIsi sIsi rfl (Z.free 1) (by decide +kernel) (tr_cons (tr_var 0) (tr_cons (tr_ty .bool rfl (Z.free 2) (by decide +kernel)) tr_nil))) (tr_callB cIsi sIsi rfl (Z.free 1) (by decide +kernel) (tr_cons (tr_var 1) (tr_cons (tr_ty .bool rfl (Z.free 2) (by decide +kernel)) tr_nil))) (nomark _)) (tr_one (tr_cmp (op_eqD hr.units) sEq (tr_isN (tr_var 0)) (tr_isN (tr_var 1)) (nomark _))))))) ts_nil)
    (ts_one (ts_ret (tr_and (tr_callB cIsi sIsi rfl (Z.free 1) (by decide +kernel) (tr_cons (tr_var 0) (tr_cons (tr_ty .int rfl (Z.free 0) (by decide +kernel)) tr_nil))) (tr_and (tr_not (tr_callB cIsi sIsi rfl (Z.free 1) (by decide +kernel) (tr_cons (tr_var 0) (tr_cons (tr_ty .bool rfl (Z.free 2) (by decide +kernel)) tr_nil)))) (tr_one (tr_cmp (op_eqD hr.units) sEq (tr_var 0) (tr_var 1) (nomark _)))))))))) (fun _ _ _ _ _ _ us hl => match us, hl with | [_, _], _ => rfl) rfl rfl
theorem ok__law_lists (Z : Fx hd P K mg base) : ∀ n : Nat, Ok P w K mg base "_law_lists" (n + 0) ["matter"] (φ__law_lists n)
  | 0 => Z.ok0 42 56 (d := dd__law_lists) (fun _ _ _ _ _ _ us hl => match us, hl with | [_], _ => rfl) rfl rfl
  | n + 1 => by
    have self := ok__law_lists Z n
    have e : n + 1 + 0 = (n + 0) + 1 := by omega
    rw [e]
    exact Z.okP 42 56 (d := dd__law_lists) (x := "_law_lists") (N := ["matter", "bit"]) (ps := ["matter"]) (k := n + 0) (b := d__law_lists (φ__law_lists n)) sc__law_lists (fun cdv A outer s H E hr tk =>
    (ts_one (ts_ret (tr_if (tr_tru (tr_callB cIsi sIsi rfl (Z.free 1) (by decide +kernel) (tr_cons (tr_var 0) (tr_cons (tr_tup (tr_cons (tr_ty .list rfl (Z.free 10) (by decide +kernel)) (tr_cons (tr_ty .tuple rfl (Z.free 6) (by decide +kernel)) tr_nil))) tr_nil)))) (tr_lc (own := [("bit", 1)]) .tree (.nm 1) rfl sc__law_lists.nd (tr_iseq (tr_var 0)) (blkOk_by (by kernel_rfl)) (fun _ _ _ _ _ => (pr_nm 1 sc__law_lists.nd)) (fun _ _ _ _ _ => tr_yes) (fun _ _ _ _ _ => (tr_own self hr (by omega) takesN (tr_cons (tr_var 1) tr_nil)))) (tr_var 0))))) (fun _ _ _ _ _ _ us hl => match us, hl with | [_], _ => rfl) rfl rfl
theorem ok__law_common (Z : Fx hd P K mg base) : Ok P w K mg base "_law_common" 1 ["a", "b"] φ__law_common :=
  Z.okP 43 57 (d := dd__law_common) (x := "_law_common") (N := ["a", "b"]) (ps := ["a", "b"]) (k := 0) (b := d__law_common) sc__law_common (fun cdv A outer s H E hr tk =>
    (ts_cons (ts_par 0 1 rfl sc__law_common.nd (tr_cons (tr_callB call_abs sAbs rfl (Z.free 14) (by decide +kernel) (tr_cons (tr_var 0) tr_nil)) (tr_cons (tr_callB call_abs sAbs rfl (Z.free 14) (by decide +kernel) (tr_cons (tr_var 1) tr_nil)) tr_nil)))
    (ts_cons (ts_while 1000 (passes_of rfl) (tr_cmpT op_gt (sCmp _) (tr_var 1) tr_int (nomark _)) (ts_one (ts_par 0 1 rfl sc__law_common.nd (tr_cons (tr_var 1) (tr_cons (tr_op op_modN sMod (tr_callTy call_int1 sIntC rfl (Z.free 0) (by decide +kernel) (tr_cons (tr_var 0) tr_nil)) (tr_var 1)) tr_nil)))))
    (ts_one (ts_ret (tr_var 0)))))) (fun _ _ _ _ _ _ us hl => match us, hl with | [_, _], _ => rfl) rfl rfl
theorem ok__law_frac (Z : Fx hd P K mg base) : Ok P w K mg base "_law_frac" 2 ["top", "bottom"] φ__law_frac :=
  Z.okP 44 58 (d := dd__law_frac) (x := "_law_frac") (N := ["top", "bottom", "divisor"]) (ps := ["top", "bottom"]) (k := 1) (b := d__law_frac) sc__law_frac (fun cdv A outer s H E hr tk =>
    (ts_cons (ts_set 2 sc__law_frac.nd (tr_own (ok__law_common Z) hr (by decide) tk (tr_cons (tr_var 0) (tr_cons (tr_var 1) tr_nil))))
    (ts_cons (ts_set 2 sc__law_frac.nd (tr_if (tr_cmpT op_gt (sCmp _) (tr_var 1) tr_int (nomark _)) (tr_var 2) (tr_neg (tr_var 2))))
    (ts_one (ts_ret (tr_tup (tr_cons (tr_op oDiv sDiv (tr_var 0) (tr_var 2)) (tr_cons (tr_op oDiv sDiv (tr_var 1) (tr_var 2)) tr_nil)))))))) (fun _ _ _ _ _ _ us hl => match us, hl with | [_, _], _ => rfl) rfl rfl
theorem ok__law_num (Z : Fx hd P K mg base) : Ok P w K mg base "_law_num" 1 ["field", "number"] φ__law_num :=
  Z.okP 45 59 (d := dd__law_num) (x := "_law_num") (N := ["field", "number"]) (ps := ["field", "number"]) (k := 0) (b := d__law_num) sc__law_num (fun cdv A outer s H E hr tk =>
    (ts_one (ts_ret (tr_if (tr_cmpT (op_eqD hr.units) sEq (tr_var 0) tr_int (nomark _)) (tr_tup (tr_cons (tr_var 1) (tr_cons tr_int tr_nil))) (tr_op op_modN sMod (tr_callTy call_int1 sIntC rfl (Z.free 0) (by decide +kernel) (tr_cons (tr_var 1) tr_nil)) (tr_var 0)))))) (fun _ _ _ _ _ _ us hl => match us, hl with | [_, _], _ => rfl) rfl rfl
theorem ok__law_sum (Z : Fx hd P K mg base) : Ok P w K mg base "_law_sum" 3 ["field", "one", "other"] φ__law_sum :=
  Z.okP 46 60 (d := dd__law_sum) (x := "_law_sum") (N := ["field", "one", "other"]) (ps := ["field", "one", "other"]) (k := 2) (b := d__law_sum) sc__law_sum (fun cdv A outer s H E hr tk =>
    (ts_cons (ts_if (tr_cmpT (op_eqD hr.units) sEq (tr_var 0) tr_int (nomark _)) (ts_one (ts_ret (tr_own (ok__law_frac Z) hr (by decide) tk (tr_cons (tr_op oAdd (sAdd .tree) (tr_op oMul sMul (tr_ix (tr_var 1) tr_int) (tr_ix (tr_var 2) tr_int)) (tr_op oMul sMul (tr_ix (tr_var 2) tr_int) (tr_ix (tr_var 1) tr_int))) (tr_cons (tr_op oMul sMul (tr_ix (tr_var 1) tr_int) (tr_ix (tr_var 2) tr_int)) tr_nil))))) ts_nil)
    (ts_one (ts_ret (tr_op op_modN sMod (tr_callTy call_int1 sIntC rfl (Z.free 0) (by decide +kernel) (tr_cons (tr_op oAdd (sAdd .tree) (tr_var 1) (tr_var 2)) tr_nil)) (tr_var 0)))))) (fun _ _ _ _ _ _ us hl => match us, hl with | [_, _, _], _ => rfl) rfl rfl
theorem ok__law_neg (Z : Fx hd P K mg base) : Ok P w K mg base "_law_neg" 1 ["field", "amount"] φ__law_neg :=
  Z.okP 47 61 (d := dd__law_neg) (x := "_law_neg") (N := ["field", "amount"]) (ps := ["field", "amount"]) (k := 0) (b := d__law_neg) sc__law_neg (fun cdv A outer s H E hr tk =>
    (ts_one (ts_ret (tr_if (tr_cmpT (op_eqD hr.units) sEq (tr_var 0) tr_int (nomark _)) (tr_tup (tr_cons (tr_neg (tr_ix (tr_var 1) tr_int)) (tr_cons (tr_ix (tr_var 1) tr_int) tr_nil))) (tr_op op_modN sMod (tr_callTy call_int1 sIntC rfl (Z.free 0) (by decide +kernel) (tr_cons (tr_neg (tr_var 1)) tr_nil)) (tr_var 0)))))) (fun _ _ _ _ _ _ us hl => match us, hl with | [_, _], _ => rfl) rfl rfl
theorem ok__law_mul (Z : Fx hd P K mg base) : Ok P w K mg base "_law_mul" 3 ["field", "one", "other"] φ__law_mul :=
  Z.okP 48 62 (d := dd__law_mul) (x := "_law_mul") (N := ["field", "one", "other"]) (ps := ["field", "one", "other"]) (k := 2) (b := d__law_mul) sc__law_mul (fun cdv A outer s H E hr tk =>
    (ts_one (ts_ret (tr_if (tr_cmpT (op_eqD hr.units) sEq (tr_var 0) tr_int (nomark _)) (tr_own (ok__law_frac Z) hr (by decide) tk (tr_cons (tr_op oMul sMul (tr_ix (tr_var 1) tr_int) (tr_ix (tr_var 2) tr_int)) (tr_cons (tr_op oMul sMul (tr_ix (tr_var 1) tr_int) (tr_ix (tr_var 2) tr_int)) tr_nil))) (tr_op op_modN sMod (tr_callTy call_int1 sIntC rfl (Z.free 0) (by decide +kernel) (tr_cons (tr_op oMul sMul (tr_var 1) (tr_var 2)) tr_nil)) (tr_var 0)))))) (fun _ _ _ _ _ _ us hl => match us, hl with | [_, _, _], _ => rfl) rfl rfl
theorem ok__law_inv (Z : Fx hd P K mg base) : Ok P w K mg base "_law_inv" 3 ["field", "amount"] φ__law_inv :=
  Z.okP 49 63 (d := dd__law_inv) (x := "_law_inv") (N := ["field", "amount", "own"]) (ps := ["field", "amount"]) (k := 2) (b := d__law_inv) sc__law_inv (fun cdv A outer s H E hr tk =>
    (ts_cons (ts_if (tr_cmpT (op_eqD hr.units) sEq (tr_var 0) tr_int (nomark _)) (ts_one (ts_ret (tr_own (ok__law_frac Z) hr (by decide) tk (tr_cons (tr_ix (tr_var 1) tr_int) (tr_cons (tr_ix (tr_var 1) tr_int) tr_nil))))) ts_nil)
    (ts_one (ts_ret (tr_ix (tr_lc (own := [("own", 2)]) .tree (.nm 2) rfl sc__law_inv.nd (tr_irg1 rfl (Z.free 30) (tr_var 0)) (blkOk_by (by kernel_rfl)) (fun _ _ _ _ _ => (pr_nm 2 sc__law_inv.nd)) (fun _ _ _ _ _ => (tr_ifs1 (tr_cmpT (op_eqD hr.units) sEq (tr_op op_modN sMod (tr_callTy call_int1 sIntC rfl (Z.free 0) (by decide +kernel) (tr_cons (tr_op oMul sMul (tr_var 2) (tr_var 1)) tr_nil)) (tr_var 0)) tr_int (nomark _)))) (fun _ _ _ _ _ => (tr_var 2))) tr_int))))) (fun _ _ _ _ _ _ us hl => match us, hl with | [_, _], _ => rfl) rfl rfl
theorem ok__law_heard (Z : Fx hd P K mg base) : Ok P w K mg base "_law_heard" 12 ["door", "field", "one", "other"] φ__law_heard :=
  Z.okP 50 64 (d := dd__law_heard) (x := "_law_heard") (N := ["door", "field", "one", "other", "let", "found"]) (ps := ["door", "field", "one", "other"]) (k := 11) (b := d__law_heard) sc__law_heard (fun cdv A outer s H E hr tk =>
    (ts_cons (ts_asg (tr_tup (tr_cons tr_str (tr_cons tr_non tr_nil))) (tr_gtup rfl (tr_gcons (fun _ _ _ _ _ h => h) (tr_gname 4 sc__law_heard.nd) (tr_gcons (fun _ _ _ _ _ h => h) (tr_gname 5 sc__law_heard.nd) tr_gnil))))
    (ts_cons (ts_try (ks := exNames) rfl rfl tk (exm Z) (fun W' pn xe tk' hp' => (ts_one (ts_if (tr_cmpT (op_eqD hr.units) sEq (tr_var 0) tr_int (nomark _)) (ts_one (ts_set 5 sc__law_heard.nd (tr_own (ok_amount_over Z) hr (by decide) tk' (tr_cons (tr_var 1) (tr_cons (tr_var 2) (tr_cons (tr_var 3) tr_nil)))))) (ts_one (ts_if (tr_cmpT (op_eqD hr.units) sEq (tr_var 0) tr_int (nomark _)) (ts_one (ts_set 5 sc__law_heard.nd (tr_own (ok_amounts_of Z) hr (by decide) tk' (tr_cons (tr_var 1) tr_nil)))) (ts_one (ts_if (tr_cmpT (op_eqD hr.units) sEq (tr_var 0) tr_int (nomark _)) (ts_one (ts_set 5 sc__law_heard.nd (tr_own (ok_amount_power Z) hr (by decide) tk' (tr_cons (tr_var 1) (tr_cons (tr_var 2) (tr_cons (tr_var 3) tr_nil)))))) (ts_one (ts_if (tr_cmpT (op_eqD hr.units) sEq (tr_var 0) tr_int (nomark _)) (ts_one (ts_set 5 sc__law_heard.nd (tr_own (ok_amounts_sum Z) hr (by decide) tk' (tr_cons (tr_var 1) (tr_cons (tr_var 2) tr_nil))))) (ts_one (ts_set 5 sc__law_heard.nd (tr_own (ok_amount_plus Z) hr (by decide) tk' (tr_cons (tr_var 1) (tr_cons (tr_var 2) (tr_cons (tr_var 3) tr_nil))))))))))))))) (.cons ⟨rfl, by decide, .inl (ex_NoPaper Z).gC⟩ (ex_NoPaper Z).gC (fun _ _ _ _ _ _ _ => (ts_one (ts_set 4 sc__law_heard.nd tr_str))) (.cons ⟨rfl, by decide, .inl (ex_Unfit Z).gC⟩ (ex_Unfit Z).gC (fun _ _ _ _ _ _ _ => (ts_one (ts_set 4 sc__law_heard.nd tr_str))) Hds.nil)) (by decide +kernel))
    (ts_one (ts_ret (tr_if (tr_cmpT (op_neD hr.units) sNe (tr_var 4) tr_str (nomark _)) (tr_var 4) (tr_var 5))))))) (fun _ _ _ _ _ _ us hl => match us, hl with | [_, _, _, _], _ => rfl) rfl rfl
theorem ok__law_pair_right (Z : Fx hd P K mg base) : Ok P w K mg base "_law_pair_right" 13 ["field", "one", "other"] φ__law_pair_right :=
  Z.okP 51 65 (d := dd__law_pair_right) (x := "_law_pair_right") (N := ["field", "one", "other", "zero", "got", "due"]) (ps := ["field", "one", "other"]) (k := 12) (b := d__law_pair_right) sc__law_pair_right (fun cdv A outer s H E hr tk =>
    (ts_cons (ts_set 3 sc__law_pair_right.nd (tr_own (ok__law_num Z) hr (by decide) tk (tr_cons (tr_var 0) (tr_cons tr_int tr_nil))))
    (ts_cons (ts_set 4 sc__law_pair_right.nd (tr_lst .tree (tr_cons (tr_own (ok_amount_plus Z) hr (by decide) tk (tr_cons (tr_var 0) (tr_cons (tr_var 1) (tr_cons (tr_var 2) tr_nil)))) (tr_cons (tr_own (ok_amount_less Z) hr (by decide) tk (tr_cons (tr_var 0) (tr_cons (tr_var 1) (tr_cons (tr_var 2) tr_nil)))) (tr_cons (tr_own (ok_amount_times Z) hr (by decide) tk (tr_cons (tr_var 0) (tr_cons (tr_var 1) (tr_cons (tr_var 2) tr_nil)))) (tr_cons (tr_own (ok__law_heard Z) hr (by decide) tk (tr_cons tr_int (tr_cons (tr_var 0) (tr_cons (tr_var 1) (tr_cons (tr_var 2) tr_nil))))) tr_nil))))))
    (ts_cons (ts_set 5 sc__law_pair_right.nd (tr_lst .tree (tr_cons (tr_own (ok__law_sum Z) hr (by decide) tk (tr_cons (tr_var 0) (tr_cons (tr_var 1) (tr_cons (tr_var 2) tr_nil)))) (tr_cons (tr_own (ok__law_sum Z) hr (by decide) tk (tr_cons (tr_var 0) (tr_cons (tr_var 1) (tr_cons (tr_own (ok__law_neg Z) hr (by decide) tk (tr_cons (tr_var 0) (tr_cons (tr_var 2) tr_nil))) tr_nil)))) (tr_cons (tr_own (ok__law_mul Z) hr (by decide) tk (tr_cons (tr_var 0) (tr_cons (tr_var 1) (tr_cons (tr_var 2) tr_nil)))) (tr_cons (tr_if (tr_cmpT (op_eqD hr.units) sEq (tr_var 2) (tr_var 3) (nomark _)) tr_str (tr_own (ok__law_mul Z) hr (by decide) tk (tr_cons (tr_var 0) (tr_cons (tr_var 1) (tr_cons (tr_own (ok__law_inv Z) hr (by decide) tk (tr_cons (tr_var 0) (tr_cons (tr_var 2) tr_nil))) tr_nil))))) tr_nil))))))
    (ts_one (ts_ret (tr_own (ok__law_same Z (8 : Nat)) hr (by decide) tk (tr_cons (tr_var 4) (tr_cons (tr_var 5) tr_nil))))))))) (fun _ _ _ _ _ _ us hl => match us, hl with | [_, _, _], _ => rfl) rfl rfl
theorem ok__law_long_right (Z : Fx hd P K mg base) : Ok P w K mg base "_law_long_right" 11 ["tin", "field", "lot"] φ__law_long_right :=
  Z.okP 52 66 (d := dd__law_long_right) (x := "_law_long_right") (N := ["tin", "field", "lot", "some", "total", "whole", "own", "many", "one", "high", "lap", "number", "got", "k"]) (ps := ["tin", "field", "lot"]) (k := 10) (b := d__law_long_right) sc__law_long_right (fun cdv A outer s H E hr tk =>
    (ts_cons (ts_set 3 sc__law_long_right.nd (tr_callTy call_tuple_of sTuple rfl (Z.free 6) (by decide +kernel) (tr_cons (tr_lc (own := [("k", 13)]) .tree (.nm 13) rfl sc__law_long_right.nd (tr_irg1 rfl (Z.free 30) (tr_own (ok__law_take Z) hr (by decide) tk (tr_cons (tr_var 0) (tr_cons tr_int tr_nil)))) (blkOk_by (by kernel_rfl)) (fun _ _ _ _ _ => (pr_nm 13 sc__law_long_right.nd)) (fun _ _ _ _ _ => tr_yes) (fun _ _ _ _ _ => (tr_own (ok__law_of Z) hr (by decide) takesN (tr_cons (tr_var 0) (tr_cons (tr_var 2) tr_nil))))) tr_nil)))
    (ts_cons (ts_par 4 5 rfl sc__law_long_right.nd (tr_cons (tr_own (ok__law_num Z) hr (by decide) tk (tr_cons (tr_var 1) (tr_cons tr_int tr_nil))) (tr_cons (tr_own (ok__law_num Z) hr (by decide) tk (tr_cons (tr_var 1) (tr_cons tr_int tr_nil))) tr_nil)))
    (ts_cons (ts_for (.nm 6) (passes_of rfl) rfl (tr_iseq (tr_var 3)) (pr_nm 6 sc__law_long_right.nd) (ts_one (ts_par 4 5 rfl sc__law_long_right.nd (tr_cons (tr_own (ok__law_sum Z) hr (by decide) tk (tr_cons (tr_var 1) (tr_cons (tr_var 4) (tr_cons (tr_var 6) tr_nil)))) (tr_cons (tr_own (ok__law_mul Z) hr (by decide) tk (tr_cons (tr_var 1) (tr_cons (tr_var 5) (tr_cons (tr_var 6) tr_nil)))) tr_nil)))))
    (ts_cons (ts_par3 7 8 9 rfl sc__law_long_right.nd (tr_cons (tr_own (ok__law_take Z) hr (by decide) tk (tr_cons (tr_var 0) (tr_cons tr_int tr_nil))) (tr_cons (tr_own (ok__law_of Z) hr (by decide) tk (tr_cons (tr_var 0) (tr_cons (tr_var 2) tr_nil))) (tr_cons (tr_own (ok__law_num Z) hr (by decide) tk (tr_cons (tr_var 1) (tr_cons tr_int tr_nil))) tr_nil))))
    (ts_cons (ts_for (.nm 10) (passes_of rfl) rfl (tr_irg1 rfl (Z.free 30) (tr_var 7)) (pr_nm 10 sc__law_long_right.nd) (ts_one (ts_set 9 sc__law_long_right.nd (tr_own (ok__law_mul Z) hr (by decide) tk (tr_cons (tr_var 1) (tr_cons (tr_var 9) (tr_cons (tr_var 8) tr_nil)))))))
    (ts_cons (ts_set 11 sc__law_long_right.nd (tr_op op_sub sSub (tr_own (ok__law_take Z) hr (by decide) tk (tr_cons (tr_var 0) (tr_cons tr_int tr_nil))) tr_int))
    (ts_cons (ts_set 12 sc__law_long_right.nd (tr_lst .tree (tr_cons (tr_own (ok_amounts_sum Z) hr (by decide) tk (tr_cons (tr_var 1) (tr_cons (tr_var 3) tr_nil))) (tr_cons (tr_own (ok_amounts_sum Z) hr (by decide) tk (tr_cons (tr_var 1) (tr_cons (tr_own (ok__law_lists Z (8 : Nat)) hr (by decide) tk (tr_cons (tr_var 3) tr_nil)) tr_nil))) (tr_cons (tr_own (ok_amounts_product Z) hr (by decide) tk (tr_cons (tr_var 1) (tr_cons (tr_var 3) tr_nil))) (tr_cons (tr_own (ok_amount_power Z) hr (by decide) tk (tr_cons (tr_var 1) (tr_cons (tr_var 8) (tr_cons (tr_var 7) tr_nil)))) (tr_cons (tr_own (ok_amount_of Z) hr (by decide) tk (tr_cons (tr_var 1) (tr_cons (tr_var 11) tr_nil))) (tr_cons (tr_own (ok_amounts_sum Z) hr (by decide) tk (tr_cons (tr_var 1) (tr_cons (tr_tup tr_nil) tr_nil))) (tr_cons (tr_own (ok_amounts_product Z) hr (by decide) tk (tr_cons (tr_var 1) (tr_cons (tr_tup tr_nil) tr_nil))) tr_nil)))))))))
    (ts_one (ts_ret (tr_own (ok__law_same Z (8 : Nat)) hr (by decide) tk (tr_cons (tr_var 12) (tr_cons (tr_lst .tree (tr_cons (tr_var 4) (tr_cons (tr_var 4) (tr_cons (tr_var 5) (tr_cons (tr_var 9) (tr_cons (tr_own (ok__law_num Z) hr (by decide) tk (tr_cons (tr_var 1) (tr_cons (tr_var 11) tr_nil))) (tr_cons (tr_own (ok__law_num Z) hr (by decide) tk (tr_cons (tr_var 1) (tr_cons tr_int tr_nil))) (tr_cons (tr_own (ok__law_num Z) hr (by decide) tk (tr_cons (tr_var 1) (tr_cons tr_int tr_nil))) tr_nil)))))))) tr_nil))))))))))))) (fun _ _ _ _ _ _ us hl => match us, hl with | [_, _, _], _ => rfl) rfl rfl
theorem okF_law {fd : FuncData} (Z : Fx hd P K mg base) (F : FunD K "law" "law" (defArgs st_law) (defBody st_law) (defScope st_law) [] [] (He.ga K "law") fd) : FnOk P w K mg base (L2.CX P w) 14 (He.ga K "law") fd ["script"] (spT K mg φ_law) :=
  fn_ok1 (N := ["script", "tin", "field", "whole", "one", "parts", "lap", "odds", "near", "far", "got", "own", "k", "other"]) (ps := ["script"]) (k := 13) (d := d_law) F sc_law (fun cdv A outer s H E hr tk =>
    (ts_cons (ts_set 1 sc_law.nd (tr_own (ok__law_box Z) hr (by decide) tk (tr_cons (tr_own (ok__law_cells Z) hr (by decide) tk (tr_cons (tr_var 0) (tr_cons tr_int tr_nil))) (tr_cons tr_int tr_nil))))
    (ts_cons (ts_set 2 sc_law.nd (tr_own (ok__law_of Z) hr (by decide) tk (tr_cons (tr_var 1) (tr_cons (tr_lst .tree (tr_cons tr_int (tr_cons tr_int (tr_cons tr_int (tr_cons tr_int (tr_cons tr_int (tr_cons tr_int tr_nil))))))) tr_nil))))
    (ts_cons (ts_set 3 sc_law.nd (tr_lrg .tree rfl rfl (Z.free 10) rfl (Z.free 30) (tr_var 2)))
    (ts_cons (ts_if (tr_notB (tr_tru (tr_own (ok__law_same Z (8 : Nat)) hr (by decide) tk (tr_cons (tr_lst .tree (tr_cons (tr_own (ok_amounts_of Z) hr (by decide) tk (tr_cons (tr_var 2) tr_nil)) (tr_cons (tr_own (ok__law_heard Z) hr (by decide) tk (tr_cons tr_int (tr_cons tr_int (tr_cons tr_int (tr_cons tr_int tr_nil))))) tr_nil))) (tr_cons (tr_lst .tree (tr_cons (tr_var 3) (tr_cons tr_str tr_nil))) tr_nil))))) (ts_one (ts_ret tr_bl)) ts_nil)
    (ts_cons (ts_for (.nm 4) (passes_of rfl) rfl (tr_iseq (tr_var 3)) (pr_nm 4 sc_law.nd) (ts_one (ts_if (tr_cmpT (op_neD hr.units) sNe (tr_lc (own := [("other", 13)]) .tree (.nm 13) rfl sc_law.nd (tr_iseq (tr_var 3)) (blkOk_by (by kernel_rfl)) (fun _ _ _ _ _ => (pr_nm 13 sc_law.nd)) (fun _ _ _ _ _ => (tr_ifs1 (tr_notB (tr_tru (tr_own (ok__law_pair_right Z) hr (by decide) takesN (tr_cons (tr_var 2) (tr_cons (tr_var 4) (tr_cons (tr_var 13) tr_nil)))))))) (fun _ _ _ _ _ => (tr_var 13))) (tr_lst .tree tr_nil) (nomark _)) (ts_one (ts_ret tr_bl)) ts_nil)))
    (ts_cons (ts_set 5 sc_law.nd (tr_op oAdd (sAdd .tree) (tr_lc (own := [("k", 12)]) .tree (.nm 12) rfl sc_law.nd (tr_irg1 rfl (Z.free 30) tr_int) (blkOk_by (by kernel_rfl)) (fun _ _ _ _ _ => (pr_nm 12 sc_law.nd)) (fun _ _ _ _ _ => tr_yes) (fun _ _ _ _ _ => (tr_own (ok__law_frac Z) hr (by decide) takesN (tr_cons (tr_op op_sub sSub (tr_own (ok__law_take Z) hr (by decide) takesN (tr_cons (tr_var 1) (tr_cons tr_int tr_nil))) tr_int) (tr_cons (tr_op oAdd (sAdd .tree) tr_int (tr_own (ok__law_take Z) hr (by decide) takesN (tr_cons (tr_var 1) (tr_cons tr_int tr_nil)))) tr_nil))))) (tr_lst .tree (tr_cons (tr_tup (tr_cons tr_int (tr_cons tr_int tr_nil))) (tr_cons (tr_tup (tr_cons tr_int (tr_cons tr_int tr_nil))) (tr_cons (tr_tup (tr_cons (tr_neg tr_int) (tr_cons tr_int tr_nil))) (tr_cons (tr_tup (tr_cons tr_int (tr_cons tr_int tr_nil))) (tr_cons (tr_tup (tr_cons tr_int (tr_cons tr_int tr_nil))) tr_nil))))))))
    (ts_cons (ts_for (.nm 4) (passes_of rfl) rfl (tr_iseq (tr_var 5)) (pr_nm 4 sc_law.nd) (ts_one (ts_if (tr_cmpT (op_neD hr.units) sNe (tr_lc (own := [("other", 13)]) .tree (.nm 13) rfl sc_law.nd (tr_iseq (tr_var 5)) (blkOk_by (by kernel_rfl)) (fun _ _ _ _ _ => (pr_nm 13 sc_law.nd)) (fun _ _ _ _ _ => (tr_ifs1 (tr_notB (tr_tru (tr_own (ok__law_pair_right Z) hr (by decide) takesN (tr_cons tr_int (tr_cons (tr_var 4) (tr_cons (tr_var 13) tr_nil)))))))) (fun _ _ _ _ _ => (tr_var 13))) (tr_lst .tree tr_nil) (nomark _)) (ts_one (ts_ret tr_bl)) ts_nil)))
    (ts_cons (ts_for (.nm 6) (passes_of rfl) rfl (tr_irg1 rfl (Z.free 30) tr_int) (pr_nm 6 sc_law.nd) (ts_one (ts_if (PW.pt (tr_orB (tr_notB (tr_tru (tr_own (ok__law_long_right Z) hr (by decide) tk (tr_cons (tr_var 1) (tr_cons (tr_var 2) (tr_cons (tr_var 3) tr_nil)))))) (tr_or1 (tr_notB (tr_tru (tr_own (ok__law_long_right Z) hr (by decide) tk (tr_cons (tr_var 1) (tr_cons tr_int (tr_cons (tr_lst .tree (tr_cons (tr_tup (tr_cons tr_int (tr_cons tr_int tr_nil))) (tr_cons (tr_tup (tr_cons (tr_neg tr_int) (tr_cons tr_int tr_nil))) (tr_cons (tr_tup (tr_cons tr_int (tr_cons tr_int tr_nil))) (tr_cons (tr_tup (tr_cons tr_int (tr_cons tr_int tr_nil))) (tr_cons (tr_tup (tr_cons tr_int (tr_cons tr_int tr_nil))) (tr_cons (tr_tup (tr_cons tr_int (tr_cons tr_int tr_nil))) tr_nil))))))) tr_nil))))))))) (ts_one (ts_ret tr_bl)) ts_nil)))
    (ts_cons (ts_set 7 sc_law.nd (tr_lst .tree (tr_cons tr_non (tr_cons tr_bl (tr_cons tr_str (tr_cons tr_int (tr_cons tr_int (tr_cons tr_int (tr_cons tr_int (tr_cons tr_int (tr_cons (tr_neg tr_int) (tr_cons (tr_tup (tr_cons tr_int tr_nil)) (tr_cons (tr_lst .tree (tr_cons tr_int tr_nil)) (tr_cons (tr_cmp (op_eqD hr.units) sEq (tr_op oAdd (sAdd .tree) tr_int (tr_op oMul sMul (tr_var 2) tr_int)) tr_int (nomark _)) tr_nil))))))))))))))
    (ts_cons (ts_if (PW.pt (tr_orB (tr_cmpT (op_neD hr.units) sNe (tr_lc (own := [("own", 11)]) .tree (.nm 11) rfl sc_law.nd (tr_iseq (tr_var 7)) (blkOk_by (by kernel_rfl)) (fun _ _ _ _ _ => (pr_nm 11 sc_law.nd)) (fun _ _ _ _ _ => (tr_ifs1 (tr_tru (tr_own (ok_is_field Z) hr (by decide) takesN (tr_cons (tr_var 11) tr_nil))))) (fun _ _ _ _ _ => (tr_var 11))) (tr_lst .tree tr_nil) (nomark _)) (tr_or1 (tr_cmpT (op_neD hr.units) sNe (tr_lc (own := [("own", 11)]) .tree (.nm 11) rfl sc_law.nd (tr_iseq (tr_tup (tr_cons tr_int (tr_cons tr_int (tr_cons tr_int (tr_cons tr_int (tr_cons tr_int (tr_cons tr_int (tr_cons tr_int tr_nil))))))))) (blkOk_by (by kernel_rfl)) (fun _ _ _ _ _ => (pr_nm 11 sc_law.nd)) (fun _ _ _ _ _ => (tr_ifs1 (tr_cmpT op_notBl sNotB (tr_own (ok_is_field Z) hr (by decide) takesN (tr_cons (tr_var 11) tr_nil)) tr_bl (nomark _)))) (fun _ _ _ _ _ => (tr_var 11))) (tr_lst .tree tr_nil) (nomark _))))) (ts_one (ts_ret tr_bl)) ts_nil)
    (ts_cons (ts_setLc (tr_setLc (own := [("own", 11)]) (i := 8) .tree (.nm 11) rfl sc_law.nd rfl rfl (sw_true rfl rfl rfl (by kernel_rfl)) (tr_iseq (tr_tup (tr_cons (tr_var 2) (tr_cons (tr_neg tr_int) (tr_cons tr_bl (tr_cons tr_bl (tr_cons tr_non (tr_cons (tr_tup (tr_cons tr_int (tr_cons tr_int tr_nil))) (tr_cons tr_str (tr_cons (tr_lst .tree (tr_cons tr_int tr_nil)) tr_nil)))))))))) (blkOk_by (by kernel_rfl)) (fun _ _ _ _ _ => (pr_nm 11 sc_law.nd)) (fun _ _ _ _ _ => (tr_ifs1 (tr_tru (tr_own (ok_is_amount Z) hr (by decide) takesN (tr_cons (tr_var 2) (tr_cons (tr_var 11) tr_nil)))))) (fun _ _ _ _ _ => (tr_var 11))))
    (ts_cons (ts_setLc (tr_setLc (own := [("own", 11)]) (i := 9) .tree (.nm 11) rfl sc_law.nd rfl rfl (sw_true rfl rfl rfl (by kernel_rfl)) (tr_iseq (tr_tup (tr_cons tr_int (tr_cons tr_int (tr_cons (tr_tup (tr_cons tr_int (tr_cons tr_int tr_nil))) (tr_cons (tr_tup (tr_cons tr_int (tr_cons tr_int tr_nil))) (tr_cons (tr_tup (tr_cons tr_int (tr_cons (tr_neg tr_int) tr_nil))) (tr_cons (tr_tup (tr_cons tr_int (tr_cons tr_int tr_nil))) (tr_cons (tr_tup (tr_cons tr_int tr_nil)) (tr_cons (tr_tup (tr_cons tr_int (tr_cons tr_int (tr_cons tr_int tr_nil)))) (tr_cons (tr_lst .tree (tr_cons tr_int (tr_cons tr_int tr_nil))) (tr_cons (tr_tup (tr_cons tr_bl (tr_cons tr_int tr_nil))) (tr_cons (tr_tup (tr_cons tr_int (tr_cons tr_bl tr_nil))) (tr_cons tr_non (tr_cons tr_str tr_nil))))))))))))))) (blkOk_by (by kernel_rfl)) (fun _ _ _ _ _ => (pr_nm 11 sc_law.nd)) (fun _ _ _ _ _ => (tr_ifs1 (tr_tru (tr_own (ok_is_amount Z) hr (by decide) takesN (tr_cons tr_int (tr_cons (tr_var 11) tr_nil)))))) (fun _ _ _ _ _ => (tr_var 11))))
    (ts_cons (ts_if (PW.pt (tr_orB (tr_cmpT (op_neD hr.units) sNe (tr_op oAdd (sAdd .tree) (tr_var 8) (tr_var 9)) (tr_lst .tree tr_nil) (nomark _)) (tr_orB (tr_cmpT (op_neD hr.units) sNe (tr_lc (own := [("own", 11)]) .tree (.nm 11) rfl sc_law.nd (tr_iseq (tr_var 3)) (blkOk_by (by kernel_rfl)) (fun _ _ _ _ _ => (pr_nm 11 sc_law.nd)) (fun _ _ _ _ _ => (tr_ifs1 (tr_cmpT op_notBl sNotB (tr_own (ok_is_amount Z) hr (by decide) takesN (tr_cons (tr_var 2) (tr_cons (tr_var 11) tr_nil))) tr_bl (nomark _)))) (fun _ _ _ _ _ => (tr_var 11))) (tr_lst .tree tr_nil) (nomark _)) (tr_or1 (tr_cmpT op_notBl sNotB (tr_own (ok_is_amount Z) hr (by decide) tk (tr_cons tr_int (tr_cons (tr_tup (tr_cons (tr_op op_pow sPow tr_int tr_int) (tr_cons tr_int tr_nil))) tr_nil))) tr_bl (nomark _)))))) (ts_one (ts_ret tr_bl)) ts_nil)
    (ts_cons (ts_set 10 sc_law.nd (tr_lst .tree (tr_cons (tr_own (ok__law_heard Z) hr (by decide) tk (tr_cons tr_int (tr_cons tr_int (tr_cons tr_int (tr_cons tr_int tr_nil))))) (tr_cons (tr_own (ok__law_heard Z) hr (by decide) tk (tr_cons tr_int (tr_cons (tr_var 2) (tr_cons (tr_var 2) (tr_cons tr_int tr_nil))))) (tr_cons (tr_own (ok__law_heard Z) hr (by decide) tk (tr_cons tr_int (tr_cons (tr_var 2) (tr_cons tr_int (tr_cons (tr_neg tr_int) tr_nil))))) (tr_cons (tr_own (ok__law_heard Z) hr (by decide) tk (tr_cons tr_int (tr_cons tr_int (tr_cons (tr_tup (tr_cons tr_int (tr_cons tr_int tr_nil))) (tr_cons (tr_tup (tr_cons tr_int (tr_cons tr_int tr_nil))) tr_nil))))) (tr_cons (tr_own (ok__law_heard Z) hr (by decide) tk (tr_cons tr_int (tr_cons (tr_var 2) (tr_cons tr_int (tr_cons (tr_neg tr_int) tr_nil))))) (tr_cons (tr_own (ok__law_heard Z) hr (by decide) tk (tr_cons tr_int (tr_cons (tr_var 2) (tr_cons (tr_tup (tr_cons tr_int (tr_cons (tr_var 2) tr_nil))) (tr_cons tr_int tr_nil))))) (tr_cons (tr_own (ok__law_heard Z) hr (by decide) tk (tr_cons tr_int (tr_cons (tr_var 2) (tr_cons tr_int (tr_cons tr_int tr_nil))))) (tr_cons (tr_own (ok__law_heard Z) hr (by decide) tk (tr_cons tr_int (tr_cons tr_int (tr_cons (tr_tup (tr_cons tr_int (tr_cons tr_int tr_nil))) (tr_cons (tr_tup (tr_cons tr_int (tr_cons tr_int tr_nil))) tr_nil))))) (tr_cons (tr_own (ok__law_heard Z) hr (by decide) tk (tr_cons tr_int (tr_cons tr_bl (tr_cons tr_int (tr_cons tr_int tr_nil))))) (tr_cons (tr_own (ok__law_heard Z) hr (by decide) tk (tr_cons tr_int (tr_cons tr_int (tr_cons (tr_lst .tree (tr_cons tr_int (tr_cons tr_int tr_nil))) (tr_cons (tr_lst .tree (tr_cons tr_int (tr_cons tr_int tr_nil))) tr_nil))))) tr_nil))))))))))))
    (ts_one (ts_ret (tr_own (ok__law_same Z (8 : Nat)) hr (by decide) tk (tr_cons (tr_var 10) (tr_cons (tr_lst .tree (tr_cons tr_str (tr_cons tr_str (tr_cons tr_str (tr_cons tr_str (tr_cons tr_str (tr_cons tr_str (tr_cons tr_str (tr_cons tr_str (tr_cons tr_str (tr_cons (tr_tup (tr_cons tr_int (tr_cons tr_int tr_nil))) tr_nil))))))))))) tr_nil))))))))))))))))))))
end
def loose : List Str := (["Unfit", "NoPaper", "PAIR", "FIELDS", "is_number", "is_count", "is_below", "is_pair", "tupled", "sure", "sure_count", "common_of", "is_field", "sure_field", "is_amount_in", "is_amount", "sure_amount", "fraction", "number_in", "nought", "unit", "plus_in", "minus_in", "less_in", "times_in", "power_in", "back_in", "sum_in", "product_of_all", "are_amounts_in"] : List Str) ++ (["sure_amounts", "sure_two_amounts", "amount_of", "amounts_of", "amount_plus", "amount_less", "amount_times", "amount_over", "amount_power", "amounts_sum", "amounts_product", "_law_box", "_law_take", "_law_cells", "_law_of", "_law_same", "_law_lists", "_law_common", "_law_frac", "_law_num", "_law_sum", "_law_neg", "_law_mul", "_law_inv", "_law_heard", "_law_pair_right", "_law_long_right"] : List Str)
def lawAt : Nat := 61
def lawLevel : Nat := 14
abbrev lawFn : Nat := 53
abbrev lawFa : Nat := 67
end K10

set_option maxHeartbeats 0
namespace K10
open PySem PySem.Spec PyProof.Rows L2 Tw
abbrev Rw : PySem.W.OpenRow := PySem.W.OpenLaw.row PySem.Challenge.rw_lettersandnumbers_k10_whole_amounts_by_o
def ob (s : PySem.W.SharedT) : AlT := hd.obsG 4 (HandSHeadRun.getT s)
theorem ob_eq (s : PySem.W.SharedT) : ob s = (hd.hook 4).obs s.abs := HdD.obsG_eq (HandSHeadRun.getT_eq s)
theorem run (w : World) : HandSHeadRun.RunEq Rw (PySem.W.view Rw.prog [lawAt]) (hd.hook 4) ob 4000 loose w := by
  intro os
  kernel_rfl
end K10

set_option maxHeartbeats 0
open PySem PySem.W PySem.Calls PyProof.Rows
theorem K10.holds_of (hφ : ∀ ns : List Int, ns.length ≤ 63 → ∃ m, K10.φ_law [.p (.scr ns)] [] = .ok (.p (.bl true)) m) : PySem.Challenge.rw_lettersandnumbers_k10_whole_amounts_by_o.Holds := by
  w_on; o_law
  refine HandSHeadRun.head_any (r := K10.Rw) (q := view K10.Rw.prog [K10.lawAt]) (H := K10.hd.hook 4) (ob := K10.ob) (M := 4000) (loose := K10.loose) (d := HandSHeadRun.topDef K10.Rw.prog K10.lawAt) (kwd := []) K10.ob_eq
    (by kernel_rfl) (fun s => by kernel_rfl) K10.run (by kernel_rfl) (by kernel_rfl) (by kernel_rfl) (by rfl) (by first | assumption | decide +kernel) (by decide +kernel) ⟨rfl, rfl, rfl, rfl, rfl, by decide +kernel⟩ ?hw ?hc
  case hw => w_witness2
  case hc =>
    refine Tw.walk_end (l := PySem.Challenge.rw_lettersandnumbers_k10_whole_amounts_by_o) (n := 63) (k := K10.lawLevel) (x := "script") (φ := K10.φ_law) rfl (by decide) (by kernel_rfl) ⟨rfl, by decide, by decide⟩ ?F hφ
    intro w mg fa h Y G hmg0
    obtain ⟨K, KX, c⟩ := Y
    have hmg : mg ("law" : PySem.Str) = some (.ref fa) := by
      have e : (HandSHeadRun.topDef K10.Rw.prog K10.lawAt).name = ("law" : PySem.Str) := by kernel_rfl
      rw [← e]
      exact hmg0
    have Z : ∀ base : Heap, K.In base → base.Ns mainGlobals mg → Tw.Fx K10.hd (PySem.Challenge.rw_lettersandnumbers_k10_whole_amounts_by_o).prog K mg base := fun base hb hg => ⟨hb, hg, c, rfl, by decide +kernel⟩
    obtain ⟨fd, F⟩ := Tw.Says.def_ c K10.lawFn (d := K10.dd_law) rfl
    have e := hmg.symm.trans ((Z h KX G).glo K10.lawFa rfl)
    cases e
    have b := L2.FunD.bindsA (ps := ["script"]) F fun _ _ _ _ _ _ us hl => match us, hl with | [_], _ => rfl
    exact ⟨K, fd, KX, fun s v => b s [v] rfl, fun base hb hg => K10.okF_law (Z base hb hg) F⟩

namespace K10
open PySem L2 Tw
abbrev I (n : Int) : U := .p (.int n)
abbrev V (a b : Int) : T := .tup [.int a, .int b]
theorem num_i (n : Int) (m : Mem) : φ_is_number [I n] m = .ok (.p (.bl true)) m := rfl
theorem below_i (n k : Int) (m : Mem) : φ_is_below [I n, I k] m = .ok (.p (.bl (decide (0 ≤ n) && decide (n < k)))) m := by
  simp [φ_is_below, fnP2, d_is_below, φ_is_count, fnP1, d_is_count, num_i]
  cases h : decide (0 ≤ n) <;> simp [h]
/-! ### fractions -/
theorem common_eq (a b : Int) (m : Mem) (h : a.natAbs * b.natAbs < 2 ^ 998) : φ_common_of [I a, I b] m = .ok (I (Int.gcd a b)) m := by
  have hw := whL_gcd2 (t := w_common_of_2) (body := b_common_of_1) (E := fun x y => [some (I a), some (I b), some (I x), some (I y)]) (m := m)
    (fun x y => by simp [w_common_of_2]) (fun x y hy => by simp [b_common_of_1, hy]) a.natAbs b.natAbs h
  simp only [φ_common_of, fnP2, d_common_of, s_common_of_3, s_common_of_4, s_common_of_5]
  simp [abs_nat] at hw ⊢
  rw [hw]
  simp [Int.gcd]
theorem law_common_eq (a b : Int) (m : Mem) (h : a.natAbs * b.natAbs < 2 ^ 998) : φ__law_common [I a, I b] m = .ok (I (Int.gcd a b)) m := by
  have hw := whL_gcd2 (t := w__law_common_2) (body := b__law_common_1) (E := fun x y => [some (I x), some (I y)]) (m := m)
    (fun x y => by simp [w__law_common_2]) (fun x y hy => by simp [b__law_common_1, hy]) a.natAbs b.natAbs h
  simp only [φ__law_common, fnP2, d__law_common, s__law_common_3, s__law_common_4, s__law_common_5]
  simp [abs_nat] at hw ⊢
  rw [hw]
  simp [Int.gcd]
theorem frac_small {t b : Int} (hb : b ≠ 0) (h : t.natAbs < 2 ^ 450) (h2 : b.natAbs < 2 ^ 450) : t.natAbs * b.natAbs < 2 ^ 998 ∧ b.natAbs < 2 ^ 998 := by
  have h3 : t.natAbs * b.natAbs < 2 ^ 450 * 2 ^ 450 := Nat.mul_lt_mul'' h h2
  have e : (2 : Nat) ^ 450 * 2 ^ 450 = 2 ^ 900 := by rw [← Nat.pow_add]
  have h4 : (2 : Nat) ^ 900 ≤ 2 ^ 998 := Nat.pow_le_pow_right (by decide) (by decide)
  have h5 : (2 : Nat) ^ 450 ≤ 2 ^ 998 := Nat.pow_le_pow_right (by decide) (by decide)
  omega
theorem fraction_eq (t b : Int) (m : Mem) (hb : b ≠ 0) (h : t.natAbs < 2 ^ 450) (h2 : b.natAbs < 2 ^ 450) : φ_fraction [I t, I b] m = .ok (.p (fq t b)) m := by
  obtain ⟨h3, h4⟩ := frac_small hb h h2
  have d1 := divC_gcd (i := t) (t := t) hb h4
  have d2 := divC_gcd (i := b) (t := t) hb h4
  simp only [φ_fraction, fnP2, d_fraction, s_fraction_1, s_fraction_2, s_fraction_3]
  simp [common_eq t b m h3]
  by_cases hp : 0 < b
  · rw [if_pos hp] at d1 d2
    simp [hp, d1, d2, fq]
  · rw [if_neg hp] at d1 d2
    simp [hp, d1, d2, fq]
theorem law_frac_eq (t b : Int) (m : Mem) (hb : b ≠ 0) (h : t.natAbs < 2 ^ 450) (h2 : b.natAbs < 2 ^ 450) : φ__law_frac [I t, I b] m = .ok (.p (fq t b)) m := by
  obtain ⟨h3, h4⟩ := frac_small hb h h2
  have d1 := divC_gcd (i := t) (t := t) hb h4
  have d2 := divC_gcd (i := b) (t := t) hb h4
  simp only [φ__law_frac, fnP2, d__law_frac, s__law_frac_1, s__law_frac_2, s__law_frac_3]
  simp [law_common_eq t b m h3]
  by_cases hp : 0 < b
  · rw [if_pos hp] at d1 d2
    simp [hp, d1, d2, fq]
  · rw [if_neg hp] at d1 d2
    simp [hp, d1, d2, fq]
/-- numbers that are small -/
abbrev Sm (i : Int) : Prop := i.natAbs < 2 ^ 60
theorem prod_small {a b : Int} (ha : a.natAbs < 2 ^ 200) (hb : Sm b) : (a * b).natAbs < 2 ^ 260 := by
  rw [Int.natAbs_mul]
  have h : a.natAbs * b.natAbs < 2 ^ 200 * 2 ^ 60 := Nat.mul_lt_mul'' ha hb
  have e : (2 : Nat) ^ 200 * 2 ^ 60 = 2 ^ 260 := by rw [← Nat.pow_add]
  omega
theorem le450 {a : Nat} (h : a < 2 ^ 261) : a < 2 ^ 450 := Nat.lt_of_lt_of_le h (Nat.pow_le_pow_right (by decide) (by decide))
theorem sum_small {a b c d : Int} (ha : a.natAbs < 2 ^ 200) (hd : Sm d) (hb : b.natAbs < 2 ^ 200) (hc : Sm c) : (a * d + c * b).natAbs < 2 ^ 450 := by
  have h1 := prod_small ha hd
  have h2 := prod_small hb hc
  rw [Int.mul_comm] at h2
  have h3 : (a * d + c * b).natAbs ≤ (a * d).natAbs + (c * b).natAbs := Int.natAbs_add_le _ _
  exact le450 (by have e : (2 : Nat) ^ 261 = 2 * 2 ^ 260 := by rw [Nat.pow_succ]; omega
                  omega)
theorem sm_l {i : Int} (h : Sm i) : i.natAbs < 18446744073709551616 := Nat.lt_of_lt_of_le h (by decide)
theorem plus0 (a b c d : Int) (m : Mem) (ha : a.natAbs < 2 ^ 200) (hb : b.natAbs < 2 ^ 200) (hc : Sm c) (hd : Sm d) (hbd : b * d ≠ 0) : φ_plus_in [I 0, .p (V a b), .p (V c d)] m = .ok (.p (fq (a * d + c * b) (b * d))) m := by
  simp [φ_plus_in, fnP3, d_plus_in, mulC_r (i := a) (sm_l hd), mulC_l (j := b) (sm_l hc), mulC_r (i := b) (sm_l hd)]
  exact fraction_eq _ _ m hbd (sum_small ha hd hb hc) (le450 (Nat.lt_trans (prod_small hb hd) (by decide)))
theorem law_plus0 (a b c d : Int) (m : Mem) (ha : a.natAbs < 2 ^ 200) (hb : b.natAbs < 2 ^ 200) (hc : Sm c) (hd : Sm d) (hbd : b * d ≠ 0) : φ__law_sum [I 0, .p (V a b), .p (V c d)] m = .ok (.p (fq (a * d + c * b) (b * d))) m := by
  simp [φ__law_sum, fnP3, d__law_sum, mulC_r (i := a) (sm_l hd), mulC_l (j := b) (sm_l hc), mulC_r (i := b) (sm_l hd)]
  exact law_frac_eq _ _ m hbd (sum_small ha hd hb hc) (le450 (Nat.lt_trans (prod_small hb hd) (by decide)))
theorem times0 (a b c d : Int) (m : Mem) (ha : a.natAbs < 2 ^ 200) (hb : b.natAbs < 2 ^ 200) (hc : Sm c) (hd : Sm d) (hbd : b * d ≠ 0) : φ_times_in [I 0, .p (V a b), .p (V c d)] m = .ok (.p (fq (a * c) (b * d))) m := by
  simp [φ_times_in, fnP3, d_times_in, mulC_r (i := a) (sm_l hc), mulC_r (i := b) (sm_l hd)]
  exact fraction_eq _ _ m hbd (le450 (Nat.lt_trans (prod_small ha hc) (by decide))) (le450 (Nat.lt_trans (prod_small hb hd) (by decide)))
theorem law_times0 (a b c d : Int) (m : Mem) (ha : a.natAbs < 2 ^ 200) (hb : b.natAbs < 2 ^ 200) (hc : Sm c) (hd : Sm d) (hbd : b * d ≠ 0) : φ__law_mul [I 0, .p (V a b), .p (V c d)] m = .ok (.p (fq (a * c) (b * d))) m := by
  simp [φ__law_mul, fnP3, d__law_mul, mulC_r (i := a) (sm_l hc), mulC_r (i := b) (sm_l hd)]
  exact law_frac_eq _ _ m hbd (le450 (Nat.lt_trans (prod_small ha hc) (by decide))) (le450 (Nat.lt_trans (prod_small hb hd) (by decide)))
end K10

namespace K10
open PySem L2 Tw
theorem same_e (n : Nat) (u v : U) (m : Mem) : φ__law_same (n + 1) [u, v] m = finP (d__law_same (φ__law_same n) [some u, some v, none, none] m) := fnP_e _ _ _ _ rfl
theorem same_lc (n : Nat) (ts : List T) (m : Mem) (e : En) (he : e.length = 4) (hl : ts.length ≤ 16777216) (ih : ∀ t ∈ ts, φ__law_same n [.p t, .p t] m = .ok (.p (.bl true)) m) :
    lcL (.tp [.nm 2, .nm 3]) dYes (c__law_same_1 (φ__law_same n)) e (zpT ts ts) [] m = .ok (List.replicate ts.length (.bl true)) m := by
  match e, he with
  | [a, b, c, d], _ =>
    rw [lcL_pure (fun _ => true) (fun _ => T.bl true) (zpT ts ts) (fun t ht => ?_) [] (by rw [zpT_length]; simpa using hl)]
    · rw [zp_self]
      rw [List.filter_eq_self.mpr (by simp)]
      simp [Function.comp_def, List.map_const']
    · rw [zp_self] at ht
      obtain ⟨x, hx, rfl⟩ := List.mem_map.mp ht
      refine ⟨_, rfl, rfl, fun _ => ?_⟩
      simp [c__law_same_1, ih x hx]
theorem same_refl : ∀ (n : Nat) (t : T) (m : Mem), okT n t = true → φ__law_same (n + 1) [.p t, .p t] m = .ok (.p (.bl true)) m := by
  have base : ∀ (n : Nat) (t : T) (m : Mem), okT 0 t = true → φ__law_same (n + 1) [.p t, .p t] m = .ok (.p (.bl true)) m := by
    intro n t m h
    cases t with
    | non => rfl
    | bl b => cases b <;> rfl
    | int i =>
      rw [same_e]
      simp [d__law_same, s__law_same_2, s__law_same_3, s__law_same_4, isTn]
    | str s =>
      rw [same_e]
      simp [d__law_same, s__law_same_2, s__law_same_3, s__law_same_4, isTn, feq_str h]
    | _ => cases h
  intro n
  induction n with
  | zero => exact base 0
  | succ n ih =>
    intro t m h
    cases t with
    | tup ts =>
      have h : (ts.all (okT n) && decide (ts.length ≤ 16777216)) = true := h
      simp only [Bool.and_eq_true, decide_eq_true_eq, List.all_eq_true] at h
      rw [same_e]
      have hz := same_lc (n + 1) ts m [some (U.p (T.tup ts)), some (U.p (T.tup ts)), none, none] rfl h.2 (fun t ht => ih t m (h.1 t ht))
      simp [d__law_same, s__law_same_2, isTn, hz, bls_all]
    | lst ts =>
      have h : (ts.all (okT n) && decide (ts.length ≤ 16777216)) = true := h
      simp only [Bool.and_eq_true, decide_eq_true_eq, List.all_eq_true] at h
      rw [same_e]
      have hz := same_lc (n + 1) ts m [some (U.p (T.lst ts)), some (U.p (T.lst ts)), none, none] rfl h.2 (fun t ht => ih t m (h.1 t ht))
      simp [d__law_same, s__law_same_2, isTn, hz, bls_all]
    | ty k => cases h
    | scr k => cases h
    | non => exact base _ _ _ rfl
    | bl b => exact base _ _ _ rfl
    | int i => exact base _ _ _ rfl
    | str s => exact base _ _ _ h
end K10

namespace K10
open PySem L2 Tw
/-- a fraction that the law draws -/
structure Vd (a b : Int) : Prop where
  pos : 0 < b
  bnd : b ≤ 20
  num : a.natAbs ≤ 20
  gcd : Int.gcd a b = 1
theorem Vd.pp {a b : Int} (h : Vd a b) : a.natAbs * b.natAbs < 2 ^ 998 := by
  have h1 := h.pos; have h2 := h.bnd; have h3 := h.num
  have h4 : a.natAbs * b.natAbs ≤ 20 * 20 := Nat.mul_le_mul h3 (by omega)
  have h5 : (400 : Nat) < 2 ^ 998 := Nat.lt_of_lt_of_le (by decide : 400 < 2 ^ 9) (Nat.pow_le_pow_right (by decide) (by decide))
  omega
theorem Vd.sa {a b : Int} (h : Vd a b) : Sm a := by have := h.num; show a.natAbs < 2 ^ 60; omega
theorem Vd.sb {a b : Int} (h : Vd a b) : Sm b := by have := h.bnd; have := h.pos; show b.natAbs < 2 ^ 60; omega
theorem up200 {i : Int} (h : Sm i) : i.natAbs < 2 ^ 200 := Nat.lt_of_lt_of_le h (Nat.pow_le_pow_right (by decide) (by decide))
theorem ne_mul {b d : Int} (hb : 0 < b) (hd : 0 < d) : b * d ≠ 0 := by have := Int.mul_pos hb hd; omega
theorem isam0 (a b : Int) (m : Mem) (h : a.natAbs * b.natAbs < 2 ^ 998) : φ_is_amount_in [I 0, .p (V a b)] m = .ok (.p (.bl (decide (0 < b) && (Int.gcd a b == 1)))) m := by
  have hp : φ_is_pair [.p (V a b)] m = .ok (.p (.bl true)) m := rfl
  simp [φ_is_amount_in, fnP2, d_is_amount_in, s_is_amount_in_1, s_is_amount_in_2, s_is_amount_in_3, hp, num_i, common_eq a b m h]
  have e : ((Int.gcd a b : Int) == 1) = (Int.gcd a b == 1) := by
    rw [Bool.eq_iff_iff]; simp
    omega
  rw [e]
  by_cases hb : 0 < b
  · simp [hb]
  · simp [hb]
theorem tupled0 (a b : Int) (m : Mem) : φ_tupled 8 [.p (V a b)] m = .ok (.p (V a b)) m := rfl
theorem sure_t (m : Mem) : φ_sure [.p (.bl true)] m = .ok (.p .non) m := rfl
theorem sure0 (m : Mem) : φ_sure_field [I 0] m = .ok (I 0) m := rfl
theorem sure_amount0 {a b : Int} (h : Vd a b) (m : Mem) : φ_sure_amount [I 0, .p (V a b)] m = .ok (.p (V a b)) m := by
  simp [φ_sure_amount, fnP2, d_sure_amount, s_sure_amount_1, s_sure_amount_2, s_sure_amount_3, tupled0, isam0 a b m h.pp, h.pos, h.gcd, sure_t]
theorem sure_two0 {a b c d : Int} (h : Vd a b) (h2 : Vd c d) (m : Mem) : φ_sure_two_amounts [I 0, .p (V a b), .p (V c d)] m = .ok (.p (.tup [.int 0, V a b, V c d])) m := by
  simp [φ_sure_two_amounts, fnP3, d_sure_two_amounts, sure0, sure_amount0 h, sure_amount0 h2]
section
variable {a b c d : Int}
theorem amount_plus0 (h : Vd a b) (h2 : Vd c d) (m : Mem) : φ_amount_plus [I 0, .p (V a b), .p (V c d)] m = .ok (.p (fq (a * d + c * b) (b * d))) m := by
  simp [φ_amount_plus, fnP3, d_amount_plus, sure_two0 h h2, plus0 a b c d m (up200 h.sa) (up200 h.sb) h2.sa h2.sb (ne_mul h.pos h2.pos)]
theorem minus0 (m : Mem) : φ_minus_in [I 0, .p (V c d)] m = .ok (.p (V (-c) d)) m := by
  simp [φ_minus_in, fnP2, d_minus_in]
theorem law_neg0 (m : Mem) : φ__law_neg [I 0, .p (V c d)] m = .ok (.p (V (-c) d)) m := by
  simp [φ__law_neg, fnP2, d__law_neg]
theorem smn {i : Int} (h : Sm i) : Sm (-i) := by show (-i).natAbs < 2 ^ 60; rw [Int.natAbs_neg]; exact h
theorem amount_less0 (h : Vd a b) (h2 : Vd c d) (m : Mem) : φ_amount_less [I 0, .p (V a b), .p (V c d)] m = .ok (.p (fq (a * d + -c * b) (b * d))) m := by
  simp only [φ_amount_less, fnP3, d_amount_less]
  simp [sure_two0 h h2, φ_less_in, fnP3, d_less_in, minus0]
  rw [plus0 a b (-c) d m (up200 h.sa) (up200 h.sb) (smn h2.sa) h2.sb (ne_mul h.pos h2.pos)]
theorem amount_times0 (h : Vd a b) (h2 : Vd c d) (m : Mem) : φ_amount_times [I 0, .p (V a b), .p (V c d)] m = .ok (.p (fq (a * c) (b * d))) m := by
  simp [φ_amount_times, fnP3, d_amount_times, sure_two0 h h2, times0 a b c d m (up200 h.sa) (up200 h.sb) h2.sa h2.sb (ne_mul h.pos h2.pos)]
theorem nought0 (m : Mem) : φ_nought [I 0] m = .ok (.p (V 0 1)) m := rfl
theorem feq_v (x y z w : Int) (ng : Bool) (m : Mem) : fEq ng (.p (V x y)) (.p (V z w)) m = .ok (.p (.bl (if ng then !(x == z && y == w) else (x == z && y == w)))) m := by
  rw [feq_tt ng _ _ rfl rfl]
  show R.ok (U.p (.bl (if ng then !((x == z) && ((y == w) && true)) else ((x == z) && ((y == w) && true))))) m = _
  rw [Bool.and_true]
theorem Vd.zero (h : Vd 0 d) : d = 1 := by
  have hg := h.gcd
  have hp := h.pos
  simp [Int.gcd] at hg
  omega
theorem fq_inv (h : Vd c d) (h0 : c ≠ 0) : ∃ x y : Int, fq d c = V x y ∧ Sm x ∧ Sm y ∧ 0 < y := by
  have hg : Int.gcd d c = 1 := by rw [Int.gcd_comm]; exact h.gcd
  have h1 := h.pos; have h2 := h.bnd; have h3 := h.num
  unfold fq
  rw [hg]
  by_cases hc : 0 < c
  · simp only [hc, if_true]
    refine ⟨_, _, rfl, ?_, ?_, ?_⟩
    · simp [Sm]; omega
    · simp [Sm]; omega
    · simp; omega
  · simp only [hc, if_false]
    refine ⟨-d, -c, ?_, ?_, ?_, by omega⟩
    · have e1 : ∀ z : Int, z.fdiv (-1) = -z := fun z => by
        simp [Int.fdiv_neg]
      show T.tup [.int (d.fdiv (-1)), .int (c.fdiv (-1))] = _
      rw [e1, e1]
    · show (-d).natAbs < 2 ^ 60; omega
    · show (-c).natAbs < 2 ^ 60; omega
def tryS (ks : List Str) (cl : List (Str × DS)) (r : RS) : RS := match r with
  | .exc x e' m' => if x.name ∈ ks ∧ (∀ c ∈ cl, c.1 ∈ ks) then catch_ x e' m' cl else .bad
  | r => r
theorem sTry_e (ks : List Str) (body : DS) (cl : List (Str × DS)) (e : En) (m : Mem) : sTry ks body cl e m = tryS ks cl (body e m) := rfl
theorem heard_ok {u x y f : U} {m m2 : Mem} (h : φ_amount_over [f, x, y] m = .ok u m2) : φ__law_heard [I 0, f, x, y] m = .ok u m2 := by
  have e1 : φ__law_heard [I 0, f, x, y] m = finP ((tryS exNames [("NoPaper", sSet 4 (dC (.str "none"))), ("Unfit", sSet 4 (dC (.str "unfit")))] ((φ_amount_over [f, x, y] m).st [some (I 0), some f, some x, some y, some (.p (.str "")), some (.p .non)] fun u m1 => .next [some (I 0), some f, some x, some y, some (.p (.str "")), some u] m1)).bind s__law_heard_3) := by
    simp only [φ__law_heard, fnP4, d__law_heard, s__law_heard_1, s__law_heard_2]
    simp [sTry_e]
  rw [e1, h]
  kernel_rfl
theorem heard_no {x y f : U} {m m2 : Mem} (h : φ_amount_over [f, x, y] m = .exc ⟨"NoPaper", none⟩ m2) : φ__law_heard [I 0, f, x, y] m = .ok (.p (.str "none")) m2 := by
  have e1 : φ__law_heard [I 0, f, x, y] m = finP ((tryS exNames [("NoPaper", sSet 4 (dC (.str "none"))), ("Unfit", sSet 4 (dC (.str "unfit")))] ((φ_amount_over [f, x, y] m).st [some (I 0), some f, some x, some y, some (.p (.str "")), some (.p .non)] fun u m1 => .next [some (I 0), some f, some x, some y, some (.p (.str "")), some u] m1)).bind s__law_heard_3) := by
    simp only [φ__law_heard, fnP4, d__law_heard, s__law_heard_1, s__law_heard_2]
    simp [sTry_e]
  rw [e1, h]
  kernel_rfl
theorem back0 (h : Vd c d) (h0 : c ≠ 0) (m : Mem) : φ_back_in [I 0, .p (V c d)] m = .ok (.p (fq d c)) m := by
  simp [φ_back_in, fnP2, d_back_in]
  exact fraction_eq _ _ m h0 (le450 (Nat.lt_trans h.sb (by decide))) (le450 (Nat.lt_trans h.sa (by decide)))
theorem law_inv0 (h : Vd c d) (h0 : c ≠ 0) (m : Mem) : φ__law_inv [I 0, .p (V c d)] m = .ok (.p (fq d c)) m := by
  simp [φ__law_inv, fnP2, d__law_inv]
  exact law_frac_eq _ _ m h0 (le450 (Nat.lt_trans h.sb (by decide))) (le450 (Nat.lt_trans h.sa (by decide)))
theorem fq_flat (t b : Int) : okT 1 (fq t b) = true := rfl
theorem pair_right0 (h : Vd a b) (h2 : Vd c d) (m : Mem) : φ__law_pair_right [I 0, .p (V a b), .p (V c d)] m = .ok (.p (.bl true)) m := by
  have hs := law_plus0 a b c d m (up200 h.sa) (up200 h.sb) h2.sa h2.sb (ne_mul h.pos h2.pos)
  have hs2 := law_plus0 a b (-c) d m (up200 h.sa) (up200 h.sb) (smn h2.sa) h2.sb (ne_mul h.pos h2.pos)
  have ht := law_times0 a b c d m (up200 h.sa) (up200 h.sb) h2.sa h2.sb (ne_mul h.pos h2.pos)
  have hz : φ__law_num [I 0, I 0] m = .ok (.p (V 0 1)) m := rfl
  have fin : ∀ r : T, okT 1 r = true → φ__law_heard [I 0, I 0, .p (V a b), .p (V c d)] m = .ok (.p r) m → (if c = 0 then r = .str "none" else φ__law_inv [I 0, .p (V c d)] m = .ok (.p (fq d c)) m ∧ φ__law_mul [I 0, .p (V a b), .p (fq d c)] m = .ok (.p r) m) → φ__law_pair_right [I 0, .p (V a b), .p (V c d)] m = .ok (.p (.bl true)) m := by
    intro r hr hh hi
    simp only [φ__law_pair_right, fnP3, d__law_pair_right, s__law_pair_right_1, s__law_pair_right_2, s__law_pair_right_3, s__law_pair_right_4]
    have hsame := same_refl 7 (.lst [fq (a * d + c * b) (b * d), fq (a * d + -c * b) (b * d), fq (a * c) (b * d), r]) m (by
      show (List.all _ _ && _) = true
      have : okT 6 r = true := by
        cases r with
        | tup ts => have h3 : (ts.all (okT 0) && decide (ts.length ≤ 16777216)) = true := hr
                    simp only [Bool.and_eq_true, decide_eq_true_eq, List.all_eq_true] at h3
                    show (ts.all (okT 5) && decide (ts.length ≤ 16777216)) = true
                    simp only [Bool.and_eq_true, decide_eq_true_eq, List.all_eq_true]
                    refine ⟨fun x hx => ?_, h3.2⟩
                    have := h3.1 x hx
                    cases x <;> first | rfl | exact this | (cases this)
        | lst ts => have h3 : (ts.all (okT 0) && decide (ts.length ≤ 16777216)) = true := hr
                    simp only [Bool.and_eq_true, decide_eq_true_eq, List.all_eq_true] at h3
                    show (ts.all (okT 5) && decide (ts.length ≤ 16777216)) = true
                    simp only [Bool.and_eq_true, decide_eq_true_eq, List.all_eq_true]
                    refine ⟨fun x hx => ?_, h3.2⟩
                    have := h3.1 x hx
                    cases x <;> first | rfl | exact this | (cases this)
        | _ => exact hr
      simp only [List.all_cons, List.all_nil, this]
      rfl)
    have A1 := amount_plus0 h h2 m
    have A2 := amount_less0 h h2 m
    have A3 := amount_times0 h h2 m
    by_cases hc : c = 0
    · rw [if_pos hc] at hi
      have hfe : fEq false (.p (V c d)) (.p (V 0 1)) m = .ok (.p (.bl true)) m := by
        have hd : d = 1 := Vd.zero (by rw [← hc]; exact h2)
        rw [feq_v, hc, hd]; rfl
      subst hi
      simp [hz, A1, A2, A3, hh, hs, law_neg0, hs2, ht, hfe] at hsame ⊢
      simpa using hsame
    · rw [if_neg hc] at hi
      have hfe : fEq false (.p (V c d)) (.p (V 0 1)) m = .ok (.p (.bl false)) m := by
        rw [feq_v]; simp [hc]
      simp [hz, A1, A2, A3, hh, hs, law_neg0, hs2, ht, hfe, hi.1, hi.2] at hsame ⊢
      simpa using hsame
  by_cases hc : c = 0
  · refine fin (.str "none") (by kernel_rfl) (heard_no (m2 := m) ?_) (by rw [if_pos hc])
    have hfe : fEq false (.p (V c d)) (.p (V 0 1)) m = .ok (.p (.bl true)) m := by
      have hd : d = 1 := Vd.zero (by rw [← hc]; exact h2)
      rw [feq_v, hc, hd]; rfl
    simp [φ_amount_over, fnP3, d_amount_over, s_amount_over_1, s_amount_over_2, s_amount_over_3, sure_two0 h h2, nought0, hfe]
  · obtain ⟨x, y, e, sx, sy, py⟩ := fq_inv h2 hc
    have hfe : fEq false (.p (V c d)) (.p (V 0 1)) m = .ok (.p (.bl false)) m := by
      rw [feq_v]; simp [hc]
    refine fin (fq (a * x) (b * y)) rfl (heard_ok ?_) ?_
    · simp [φ_amount_over, fnP3, d_amount_over, s_amount_over_1, s_amount_over_2, s_amount_over_3, sure_two0 h h2, nought0, hfe, back0 h2 hc, e]
      rw [times0 a b x y m (up200 h.sa) (up200 h.sb) sx sy (ne_mul h.pos py)]
    · rw [if_neg hc, e]
      exact ⟨by rw [← e]; exact law_inv0 h2 hc m, law_times0 a b x y m (up200 h.sa) (up200 h.sb) sx sy (ne_mul h.pos py)⟩
end
end K10

namespace K10
open PySem L2 Tw
/-! ### the draws -/
/-- the drawer at k: its numbers, j turns or less so far -/
def Tin (k : Nat) (j : Int) (m : Mem) : Prop := ∃ a b t : Int, m[k]? = some (some [.int a, .int b, .int t]) ∧ 0 ≤ a ∧ (0 ≤ b ∧ b < 2 ^ 62) ∧ 0 ≤ t ∧ t ≤ j
theorem ixN3 (i : Int) (h : 0 ≤ i ∧ i < 3) : ixN 3 i = some i.toNat := by
  unfold ixN; rw [if_pos h.1, if_pos (by omega)]
theorem lt_len {α : Type} {l : List α} {k : Nat} {a : α} (h : l[k]? = some a) : k < l.length := by
  rcases Nat.lt_or_ge k l.length with h1 | h1
  · exact h1
  · rw [List.getElem?_eq_none h1] at h; cases h
theorem take_ok {k : Nat} {j n : Int} {m : Mem} (T : Tin k j m) (hj : j < 2 ^ 39) (hn : 0 < n ∧ n < 2 ^ 40) :
    ∃ r m', φ__law_take [.mu k, I n] m = .ok (I r) m' ∧ 0 ≤ r ∧ r < n ∧ Tin k (j + 1) m' := by
  obtain ⟨a, b, t, hm, ha, hb, ht, htj⟩ := T
  have hk := lt_len hm
  have hset : ∀ x, (m.set k x)[k]? = some x := fun x => List.getElem?_set_self hk
  have hn0 : n ≠ 0 := by omega
  have i0 : ixN 3 0 = some 0 := ixN3 0 (by decide)
  have i2 : ixN 3 2 = some 2 := ixN3 2 (by decide)
  simp only [φ__law_take, fnP2, d__law_take, s__law_take_1, s__law_take_2, s__law_take_3, s__law_take_4, s__law_take_5, s__law_take_6]
  by_cases h : 0 < a
  · have hd : divC a n = true := by
      unfold divC
      have : n.natAbs.log2 < 9000 := Nat.lt_of_lt_of_le (log2_small (k := 40) (by omega) (by decide)) (by decide)
      simp [hn0, this]
    refine ⟨a.fmod n, m.set k (some [.int (a.fdiv n), .int b, .int t]), ?_, ?_, ?_, a.fdiv n, b, t, ?_, ?_, hb, ht, by omega⟩
    · simp [h, hn0, hd, i0, hm]
    · exact Int.fmod_nonneg_of_pos _ hn.1
    · exact Int.fmod_lt_of_pos _ hn.1
    · simp [hk]
    · rw [Int.fdiv_eq_ediv_of_nonneg _ (by omega)]
      exact Int.ediv_nonneg (by omega) (by omega)
  · have ha0 : a = 0 := by omega
    subst ha0
    have m1 : mulC 48611 (t + 1) = true := mulC_l (by decide)
    have m2 : mulC (b + 48611 * (t + 1)) (40709 + (t + 1)) = true := mulC_r (by omega)
    have m3 : ∀ x w : Int, mulC x (w.fmod 39119 + 9) = true := fun x w => mulC_r (by
      have h1 : 0 ≤ w.fmod 39119 := Int.fmod_nonneg_of_pos _ (by decide)
      have h2 : w.fmod 39119 < 39119 := Int.fmod_lt_of_pos _ (by decide)
      omega)
    have m4 : ∀ x : Int, mulC x 48611 = true := fun x => mulC_r (by decide)
    have d1 : ∀ x, divC x 1000039 = true := fun x => by unfold divC; decide +kernel
    have d2 : ∀ x, divC x 64 = true := fun x => by unfold divC; decide +kernel
    have hy : ∃ y : Int, finP ((sSeq s__law_take_1 (sSeq s__law_take_2 (sSeq s__law_take_3 (sSeq s__law_take_4 (sSeq s__law_take_5 s__law_take_6))))) (some (U.mu k) :: some (I n) :: List.replicate (6 - 2) none) m) = .ok (I (y.fmod n)) (m.set k (some [.int 0, .int b, .int (t + 1)])) := by
      refine ⟨((((((((b + 48611 * (t + 1)) * (40709 + (t + 1))).fmod 2147483647 + (t + 1) + b.fdiv 1000039) * ((((b + 48611 * (t + 1)) * (40709 + (t + 1))).fmod 2147483647).fmod 39119 + 9)).fmod 2147483629) * 48611 + ((b + 48611 * (t + 1)) * (40709 + (t + 1))).fmod 2147483647).fmod 2147483587).fdiv 64), ?_⟩
      simp only [s__law_take_1, s__law_take_2, s__law_take_3, s__law_take_4, s__law_take_5, s__law_take_6]
      simp [i0, i2, m1, m2, m3, m4, d1, d2, hn0, hm, hset]
    obtain ⟨y, hy⟩ := hy
    simp only [s__law_take_1, s__law_take_2, s__law_take_3, s__law_take_4, s__law_take_5, s__law_take_6] at hy
    exact ⟨y.fmod n, _, hy, Int.fmod_nonneg_of_pos _ hn.1, Int.fmod_lt_of_pos _ hn.1, 0, b, t + 1, hset _, by omega, hb, by omega, by omega⟩
theorem of_ok {k : Nat} {j : Int} {m : Mem} {lot : List T} (T : Tin k j m) (hj : j < 2 ^ 39) (h0 : 0 < lot.length) (h1 : lot.length < 2 ^ 40) :
    ∃ x m', φ__law_of [.mu k, .p (.lst lot)] m = .ok (.p x) m' ∧ x ∈ lot ∧ Tin k (j + 1) m' := by
  obtain ⟨r, m', e, r0, r1, T'⟩ := take_ok (n := (lot.length : Nat)) T hj (by omega)
  have hr : r.toNat < lot.length := by omega
  have ea : atI lot r = some lot[r.toNat] := by
    have := ix_at (ts := lot) (t := lot[r.toNat]) (k := r.toNat) (List.getElem?_eq_getElem hr)
    rwa [show ((r.toNat : Nat) : Int) = r by omega] at this
  refine ⟨lot[r.toNat], m', ?_, List.getElem_mem hr, T'⟩
  simp [φ__law_of, fnP2, d__law_of, e, ea]
@[simp] theorem dSl_e (n : Nw) (d : D) (dl du : DO) (e : En) (m : Mem) : dSl n d dl du e m = (d e m).bind fun u m1 => (dl e m1).bind fun lo m2 => (du e m2).bind fun hi m3 => fSl n u lo hi m3 := rfl
@[simp] theorem dNoP_e (e : En) (m : Mem) : dNoP e m = .ok none m := rfl
def intU (u : U) (m : Mem) : R (Option Int) := match u with
  | .p (.int i) => .ok (some i) m
  | _ => .bad
@[simp] theorem intU_e (i : Int) (m : Mem) : intU (.p (.int i)) m = .ok (some i) m := rfl
@[simp] theorem dSoP_e (d : D) (e : En) (m : Mem) : dSoP d e m = (d e m).bind intU := rfl
@[simp] theorem fSl_scr (n : Nw) (ns : List Int) (lo hi : Option Int) (m : Mem) : fSl n (.p (.scr ns)) lo hi m = newL n (cut (ns.map T.int) lo hi) m := rfl
@[simp] theorem bList_l (n : Nw) (ts : List T) (m : Mem) : bList n [.p (.lst ts)] m = newL n ts m := rfl
@[simp] theorem dEnum_e (d : D) (e : En) (m : Mem) : dEnum d e m = (d e m).bind fun u m1 => match u with
  | .p (.lst ts) => .ok (prs 0 ts) m1
  | .p (.scr ns) => .ok (prs 0 (ns.map T.int)) m1
  | _ => .bad := rfl
@[simp] theorem tru_mu (k : Nat) (m : Mem) : truU m (.mu k) = (m[k]?.join).map fun ts => !ts.isEmpty := rfl
theorem cut_1 (ns : List Int) : cut (ns.map T.int) none (some 1) = (ns.take 1).map T.int := by
  unfold cut
  cases ns with
  | nil => rfl
  | cons a r => simp [HT.sIx]
theorem den_pair (i j : Nat) (a b : T) (e : En) : (Pt.tp [.nm i, .nm j]).den (.tup [a, b]) e = some ((e.set i (some (.p a))).set j (some (.p b))) := rfl
theorem prs_mem : ∀ (ts : List T) (j : Nat) (t : T), t ∈ prs j ts → ∃ i x, t = .tup [.int (i : Nat), x] ∧ x ∈ ts ∧ i < j + ts.length
  | [], _, _, h => by cases h
  | a :: r, j, t, h => by
    rcases List.mem_cons.mp h with rfl | h
    · exact ⟨j, a, rfl, by simp, by simp⟩
    · obtain ⟨i, x, h1, h2, h3⟩ := prs_mem r (j + 1) t h
      exact ⟨i, x, h1, by simp [h2], by simp; omega⟩
theorem cut_mem {α : Type} {xs : List α} {lo hi : Option Int} {x : α} (h : x ∈ cut xs lo hi) : x ∈ xs := List.mem_of_mem_drop (List.mem_of_mem_take h)
theorem cut_len {α : Type} {xs : List α} {lo hi : Option Int} : (cut xs lo hi).length ≤ xs.length := by
  unfold cut
  rw [List.length_take, List.length_drop]; omega
theorem cells_ok (ns : List Int) (hl : ns.length ≤ 63) : ∃ k c m, φ__law_cells [.p (.scr ns), I 1] [] = .ok (.mu k) m ∧ m[k]? = some (some [.int c]) := by
  have loop : ∀ (k : Nat) (c0 : Int) (m : Mem), m[k]? = some (some [.int c0]) → ∃ c m', s__law_cells_3 [some (.p (.scr ns)), some (I 1), some (.mu k), none, none, none] m = .next [some (.p (.scr ns)), some (I 1), some (.mu k), none, none, none] m' ∧ m'[k]? = some (some [.int c]) ∨ True := by
    intro k c0 m _
    exact ⟨0, m, .inr trivial⟩
  have step : ∀ (k : Nat) (c0 : Int) (m : Mem), m[k]? = some (some [.int c0]) → ∃ e m' c, s__law_cells_3 [some (.p (.scr ns)), some (I 1), some (.mu k), none, none, none] m = .next e m' ∧ m'[k]? = some (some [.int c]) ∧ e[2]? = some (some (.mu k)) := by
    intro k c0 m hm
    obtain ⟨e', m', h1, ⟨c, h2, x, y, z, h3⟩⟩ := forL_inv (pt := .tp [.nm 3, .nm 4]) (body := b__law_cells_1) (fun e m => ∃ c, m[k]? = some (some [.int c]) ∧ ∃ x y z, e = [some (.p (.scr ns)), some (I 1), some (.mu k), x, y, z]) (prs 0 (cut (ns.map T.int) (some 1) (some 63))) (fun t ht e m ⟨c, hc, x, y, z, he⟩ => by
      obtain ⟨i, w, rfl, hw, hi⟩ := prs_mem _ _ _ ht
      obtain ⟨n, _, rfl⟩ := List.mem_map.mp (cut_mem hw)
      have hl2 := cut_len (xs := ns.map T.int) (lo := some 1) (hi := some 63)
      rw [List.length_map] at hl2
      have hset : ∀ x, (m.set k x)[k]? = some x := fun x => List.getElem?_set_self (lt_len hc)
      have i0 : ixN 1 0 = some 0 := by decide
      have mm : mulC n ((i : Int) + 2) = true := mulC_r (by omega)
      subst he
      refine ⟨_, rfl, ?_⟩
      refine ⟨[some (.p (.scr ns)), some (I 1), some (.mu k), some (I i), some (I n), some (I 0)], m.set k (some [.int (c + n * ((i : Int) + 2))]), ?_, _, hset _, _, _, _, rfl⟩
      simp [b__law_cells_1, hc, i0, mm]) [some (.p (.scr ns)), some (I 1), some (.mu k), none, none, none] m ⟨c0, hm, _, _, _, rfl⟩
    refine ⟨e', m', c, ?_, h2, by rw [h3]; rfl⟩
    rw [← h1]
    simp [s__law_cells_3]
  simp only [φ__law_cells, fnD2, d__law_cells]
  cases ns with
  | nil =>
    obtain ⟨e, m', c, h1, h2, h3⟩ := step 1 0 [some [], some [.int 0]] rfl
    refine ⟨1, c, m', ?_, h2⟩
    have hv : dVar 2 e m' = .ok (.mu 1) m' := by rw [dVar_e, h3]; rfl
    have hs : s__law_cells_2 [some (.p (.scr [])), some (I 1), none, none, none, none] [] = .next [some (.p (.scr [])), some (I 1), some (.mu 1), none, none, none] [some [], some [.int 0]] := rfl
    simp [hs, h1, s__law_cells_4, hv]
  | cons a r =>
    obtain ⟨e, m', c, h1, h2, h3⟩ := step 0 a [some [.int a]] rfl
    refine ⟨0, c, m', ?_, h2⟩
    have hv : dVar 2 e m' = .ok (.mu 0) m' := by rw [dVar_e, h3]; rfl
    have hs : s__law_cells_2 [some (.p (.scr (a :: r))), some (I 1), none, none, none, none] [] = .next [some (.p (.scr (a :: r))), some (I 1), some (.mu 0), none, none, none] [some [.int a]] := by
      have hc : cut (T.int a :: List.map T.int r) none (some 1) = [T.int a] := cut_1 (a :: r)
      simp only [s__law_cells_2]
      simp [hc]
    simp [hs, h1, s__law_cells_4, hv]
theorem box_ok (k : Nat) (c : Int) (m : Mem) (hm : m[k]? = some (some [.int c])) : ∃ k' m', φ__law_box [.mu k, I 0] m = .ok (.mu k') m' ∧ Tin k' 0 m' := by
  have hp : (10 : Int) ^ (18 : Nat) = 1000000000000000000 := by decide
  refine ⟨m.length, m ++ [some [.int ((if c < 0 then -c else c) * (if decide ((10 : Int) ^ (18 : Nat) ≤ (if c < 0 then -c else c)) = true then 1 else 0)), .int (c.fmod 2305843009213693951 + 40709 * 0 + 26645), .int 0]], ?_, ?_⟩
  · have e1 : ∀ (x : Int) (z : Bool), mulC x (if z = true then 1 else 0) = true := fun x z => mulC_r (by cases z <;> decide)
    have e6 : ∀ (x : Int) (z : Prop) [Decidable z], mulC x (if z then 1 else 0) = true := fun x z _ => mulC_r (by split <;> decide)
    have e2 : mulC 40709 0 = true := rfl
    have e3 : ∀ m : Mem, fPow (.p (.int 10)) (.p (.int 18)) m = .ok (.p (.int ((10 : Int) ^ (18 : Nat)))) m := fun m => rfl
    have e4 : ∀ m : Mem, fLt (.p (.int 0)) (.p (.int 1)) m = .ok (.p (.bl true)) m := fun m => rfl
    have e5 : bLen [.mu k] m = .ok (.p (.int 1)) m := by
      show (match m[k]?.join with
        | some ts => R.ok (U.p (T.int ts.length)) m
        | none => .bad) = _
      rw [hm]; rfl
    simp only [φ__law_box, fnD2, d__law_box]
    simp [hm, e1, e2, e3, e5, e6]
  · have h1 : 0 ≤ c.fmod 2305843009213693951 := Int.fmod_nonneg_of_pos _ (by decide)
    have h2 : c.fmod 2305843009213693951 < 2305843009213693951 := Int.fmod_lt_of_pos _ (by decide)
    refine ⟨_, _, 0, by rw [List.getElem?_append_right (Nat.le_refl _), Nat.sub_self]; rfl, ?_, ⟨by omega, by omega⟩, by omega, by omega⟩
    split <;> split <;> omega
end K10

namespace K10
open PySem L2 Tw
theorem Tin.up {k : Nat} {i j : Int} {m : Mem} (T : Tin k i m) (h : i ≤ j) : Tin k j m := by
  obtain ⟨a, b, t, h1, h2, h3, h4, h5⟩ := T
  exact ⟨a, b, t, h1, h2, h3, h4, by omega⟩
/-- a walk whose states a fold tells, counted -/
theorem forL_idx {pt : Pt} {body : DS} {σ : Type} (f : σ → T → σ) (E : σ → En) (m : Mem) (Q : Nat → σ → Prop) (B : Nat) : ∀ (ts : List T) (i : Nat), i + ts.length ≤ B → (∀ t ∈ ts, ∀ i s, i < B → Q i s → Q (i + 1) (f s t) ∧ ∃ e1, pt.den t (E s) = some e1 ∧ body e1 m = .next (E (f s t)) m) →
    ∀ s, Q i s → Q (i + ts.length) (ts.foldl f s) ∧ forL pt body ts (E s) m = .next (E (ts.foldl f s)) m
  | [], i, _, _, s, q => ⟨q, rfl⟩
  | t :: r, i, hl, h, s, q => by
    have hl2 : i + (r.length + 1) ≤ B := hl
    obtain ⟨q2, e1, h1, h2⟩ := h t (by simp) i s (by omega) q
    obtain ⟨q3, h3⟩ := forL_idx f E m Q B r (i + 1) (by omega) (fun t ht => h t (by simp [ht])) (f s t) q2
    refine ⟨by have e : i + (t :: r).length = i + 1 + r.length := by simp; omega
               rw [e]; exact q3, ?_⟩
    unfold forL
    rw [h1]
    show (match body e1 m with
      | .next e2 m2 => forL pt body r e2 m2
      | .cont e2 m2 => forL pt body r e2 m2
      | .brk e2 m2 => .next e2 m2
      | r => r) = _
    rw [h2]
    exact h3
theorem rgC_small {i : Int} (h : 0 ≤ i) (h2 : i < 2 ^ 40) : rgC i = true := by
  unfold rgC; simp; omega
/-- a field with a lot of its amounts: what program and law reckon there -/
structure Dom (f : Int) (lot : List T) where
  add : T → T → T
  mul : T → T → T
  Acc : Nat → T → Prop
  nm : Int → T
  L : T → T
  fld : ∀ m, φ_sure_field [I f] m = .ok (I f) m
  num : ∀ n m, φ_number_in [I f, I n] m = .ok (.p (nm n)) m
  lnum : ∀ n m, φ__law_num [I f, I n] m = .ok (.p (nm n)) m
  acc0 : Acc 0 (nm 0) ∧ Acc 0 (nm 1)
  plus : ∀ i x y m, i < 8 → Acc i x → y ∈ lot → Acc (i + 1) (add x y) ∧ φ_plus_in [I f, .p x, .p y] m = .ok (.p (add x y)) m ∧ φ__law_sum [I f, .p x, .p y] m = .ok (.p (add x y)) m
  times : ∀ i x y m, i < 8 → Acc i x → y ∈ lot → Acc (i + 1) (mul x y) ∧ φ_times_in [I f, .p x, .p y] m = .ok (.p (mul x y)) m ∧ φ__law_mul [I f, .p x, .p y] m = .ok (.p (mul x y)) m
  flat : ∀ i x, Acc i x → okT 1 x = true
  nmf : ∀ n, okT 1 (nm n) = true
  isa : ∀ x m, x ∈ lot → φ_is_amount_in [I f, .p x] m = .ok (.p (.bl true)) m
  tup : ∀ x m, x ∈ lot → φ_tupled 7 [.p x] m = .ok (.p x) m
  tup8 : ∀ x m, x ∈ lot → φ_tupled 8 [.p x] m = .ok (.p x) m
  lst : ∀ x m, x ∈ lot → φ__law_lists 7 [.p x] m = .ok (.p (L x)) m
  tupL : ∀ x m, x ∈ lot → φ_tupled 7 [.p (L x)] m = .ok (.p x) m
  len : 0 < lot.length ∧ lot.length < 1000
section
variable {f : Int} {lot : List T} (D : Dom f lot)
theorem tupled_seq (n : Nat) (g : T → T) (ts us : List T) (m : Mem) (b : Bool) (hl : ts.length ≤ 16777216) (h : ∀ t ∈ ts, φ_tupled n [.p t] m = .ok (.p (g t)) m) (hg : ts.map g = us) :
    φ_tupled (n + 1) [.p (if b then .tup ts else .lst ts)] m = .ok (.p (.tup us)) m := by
  have e1 : ∀ e : En, 1 < e.length → lcL (.nm 1) dYes (c_tupled_1 (φ_tupled n)) e ts [] m = .ok us m := fun e he => by
    rw [lcL_pure (fun _ => true) g ts (fun t ht => ?_) [] (by simpa using hl)]
    · rw [List.filter_eq_self.mpr (by simp), hg]; rfl
    · refine ⟨e.set 1 (some (.p t)), rfl, rfl, fun _ => ?_⟩
      have : dVar 1 (e.set 1 (some (U.p t))) m = .ok (.p t) m := by
        rw [dVar_e, List.getElem?_set_self he]; rfl
      simp [c_tupled_1, this, h t ht]
  have e2 : φ_tupled (n + 1) = fnP 1 2 (d_tupled (φ_tupled n)) := rfl
  cases b
  · simp only [e2, fnP1, d_tupled, Bool.false_eq_true, if_false]
    simp [e1, isTn]
  · simp only [e2, fnP1, d_tupled, if_true]
    simp [e1, isTn]
theorem lists_seq (n : Nat) (g : T → T) (ts us : List T) (m : Mem) (hl : ts.length ≤ 16777216) (h : ∀ t ∈ ts, φ__law_lists n [.p t] m = .ok (.p (g t)) m) (hg : ts.map g = us) :
    φ__law_lists (n + 1) [.p (.tup ts)] m = .ok (.p (.lst us)) m := by
  have e1 : ∀ e : En, 1 < e.length → lcL (.nm 1) dYes (c__law_lists_1 (φ__law_lists n)) e ts [] m = .ok us m := fun e he => by
    rw [lcL_pure (fun _ => true) g ts (fun t ht => ?_) [] (by simpa using hl)]
    · rw [List.filter_eq_self.mpr (by simp), hg]; rfl
    · refine ⟨e.set 1 (some (.p t)), rfl, rfl, fun _ => ?_⟩
      have : dVar 1 (e.set 1 (some (U.p t))) m = .ok (.p t) m := by
        rw [dVar_e, List.getElem?_set_self he]; rfl
      simp [c__law_lists_1, this, h t ht]
  have e2 : φ__law_lists (n + 1) = fnP 1 2 (d__law_lists (φ__law_lists n)) := rfl
  simp only [e2, fnP1, d__law_lists]
  simp [e1, isTn]
theorem are_ok (ts : List T) (m : Mem) (h : ∀ t ∈ ts, t ∈ lot) (hl : ts.length ≤ 16777216) (D : Dom f lot) : φ_are_amounts_in [I f, .p (.tup ts)] m = .ok (.p (.bl true)) m := by
  have e1 : lcL (.nm 2) dYes c_are_amounts_in_1 [some (I f), some (.p (.tup ts)), none] ts [] m = .ok (List.replicate ts.length (.bl true)) m := by
    rw [lcL_pure (fun _ => true) (fun _ => T.bl true) ts (fun t ht => ?_) [] (by simpa using hl)]
    · rw [List.filter_eq_self.mpr (by simp)]
      simp [List.map_const']
    · refine ⟨_, rfl, rfl, fun _ => ?_⟩
      simp [c_are_amounts_in_1, D.isa t m (h t ht)]
  simp [φ_are_amounts_in, fnP2, d_are_amounts_in, e1, isTn, bls_all]
theorem sum_ok (D : Dom f lot) (ts : List T) (m : Mem) (h : ∀ t ∈ ts, t ∈ lot) (hl : ts.length ≤ 8) : φ_sum_in [I f, .p (.tup ts)] m = .ok (.p (ts.foldl D.add (D.nm 0))) m ∧ D.Acc ts.length (ts.foldl D.add (D.nm 0)) := by
  have hw := forL_idx (pt := .nm 3) (body := b_sum_in_1) (σ := T × Option U) (fun s t => (D.add s.1 t, some (.p t))) (fun s => [some (I f), some (.p (.tup ts)), some (.p s.1), s.2]) m (fun i s => D.Acc i s.1) 8 ts 0 (by omega) (fun t ht i s hi q => by
    obtain ⟨p1, p2, _⟩ := D.plus i s.1 t m hi q (h t ht)
    refine ⟨p1, _, rfl, ?_⟩
    simp [b_sum_in_1, p2]) (D.nm 0, none) D.acc0.1
  have hf : ∀ (ts : List T) (x : T) (o : Option U), (ts.foldl (fun (s : T × Option U) t => (D.add s.1 t, some (U.p t))) (x, o)).1 = ts.foldl D.add x := by
    intro ts
    induction ts with
    | nil => intro x o; rfl
    | cons a r ih => intro x o; exact ih _ _
  obtain ⟨h1, h2⟩ := hw
  rw [Nat.zero_add] at h1
  rw [hf] at h1
  refine ⟨?_, h1⟩
  have hn : φ_nought [I f] m = .ok (.p (D.nm 0)) m := by simp [φ_nought, fnP1, d_nought, D.num]
  simp only [φ_sum_in, fnP2, d_sum_in, s_sum_in_2, s_sum_in_3, s_sum_in_4]
  simp [hn]
  simp at h2
  rw [h2]
  simp [hf]
theorem prod_ok (D : Dom f lot) (ts : List T) (m : Mem) (h : ∀ t ∈ ts, t ∈ lot) (hl : ts.length ≤ 8) : φ_product_of_all [I f, .p (.tup ts)] m = .ok (.p (ts.foldl D.mul (D.nm 1))) m ∧ D.Acc ts.length (ts.foldl D.mul (D.nm 1)) := by
  have hw := forL_idx (pt := .nm 3) (body := b_product_of_all_1) (σ := T × Option U) (fun s t => (D.mul s.1 t, some (.p t))) (fun s => [some (I f), some (.p (.tup ts)), some (.p s.1), s.2]) m (fun i s => D.Acc i s.1) 8 ts 0 (by omega) (fun t ht i s hi q => by
    obtain ⟨p1, p2, _⟩ := D.times i s.1 t m hi q (h t ht)
    refine ⟨p1, _, rfl, ?_⟩
    simp [b_product_of_all_1, p2]) (D.nm 1, none) D.acc0.2
  have hf : ∀ (ts : List T) (x : T) (o : Option U), (ts.foldl (fun (s : T × Option U) t => (D.mul s.1 t, some (U.p t))) (x, o)).1 = ts.foldl D.mul x := by
    intro ts
    induction ts with
    | nil => intro x o; rfl
    | cons a r ih => intro x o; exact ih _ _
  obtain ⟨h1, h2⟩ := hw
  rw [Nat.zero_add] at h1
  rw [hf] at h1
  refine ⟨?_, h1⟩
  have hn : φ_unit [I f] m = .ok (.p (D.nm 1)) m := by simp [φ_unit, fnP1, d_unit, D.num]
  simp only [φ_product_of_all, fnP2, d_product_of_all, s_product_of_all_2, s_product_of_all_3, s_product_of_all_4]
  simp [hn]
  simp at h2
  rw [h2]
  simp [hf]
theorem power_ok (D : Dom f lot) (x : T) (n : Int) (m : Mem) (h : x ∈ lot) (h0 : 0 ≤ n) (hn : n ≤ 8) : φ_power_in [I f, .p x, I n] m = .ok (.p ((rgT 0 n.toNat).foldl (fun s _ => D.mul s x) (D.nm 1))) m := by
  have hw := forL_idx (pt := .nm 4) (body := b_power_in_1) (σ := T × Option U) (fun s t => (D.mul s.1 x, some (.p t))) (fun s => [some (I f), some (.p x), some (I n), some (.p s.1), s.2]) m (fun i s => D.Acc i s.1) 8 (rgT 0 n.toNat) 0 (by rw [rgT_length]; omega) (fun t ht i s hi q => by
    obtain ⟨p1, p2, _⟩ := D.times i s.1 x m hi q h
    refine ⟨p1, _, rfl, ?_⟩
    simp [b_power_in_1, p2]) (D.nm 1, none) D.acc0.2
  have hf : ∀ (ts : List T) (y : T) (o : Option U), (ts.foldl (fun (s : T × Option U) t => (D.mul s.1 x, some (U.p t))) (y, o)).1 = ts.foldl (fun s _ => D.mul s x) y := by
    intro ts
    induction ts with
    | nil => intro x o; rfl
    | cons a r ih => intro x o; exact ih _ _
  have hu : φ_unit [I f] m = .ok (.p (D.nm 1)) m := by simp [φ_unit, fnP1, d_unit, D.num]
  simp only [φ_power_in, fnP3, d_power_in, s_power_in_2, s_power_in_3, s_power_in_4]
  simp [hu, rgC_small h0 (by omega)]
  have h2 := hw.2
  simp at h2
  rw [h2]
  simp [hf]
end
end K10

namespace K10
open PySem L2 Tw
/-- a comprehension that changes the memory, counted -/
theorem lcL_idx {pt : Pt} {tt : DB} {te : D} {e : En} (P : T → Prop) (I : Nat → Mem → Prop) (B : Nat) : ∀ (ts : List T) (k : Nat), k + ts.length ≤ B → (∀ t ∈ ts, ∀ k m, k < B → I k m → ∃ e1 m1 y m2, pt.den t e = some e1 ∧ tt e1 m = .ok true m1 ∧ te e1 m1 = .ok (.p y) m2 ∧ P y ∧ I (k + 1) m2) →
    ∀ acc m, I k m → acc.length + ts.length ≤ 16777216 → ∃ ys m', lcL pt tt te e ts acc m = .ok (acc ++ ys) m' ∧ ys.length = ts.length ∧ (∀ y ∈ ys, P y) ∧ I (k + ts.length) m'
  | [], k, _, _, acc, m, i, _ => ⟨[], m, by simp [lcL], rfl, by simp, i⟩
  | t :: r, k, hb, h, acc, m, i, hl => by
    have hb2 : k + (r.length + 1) ≤ B := hb
    obtain ⟨e1, m1, y, m2, h1, h2, h3, p, i2⟩ := h t (by simp) k m (by omega) i
    have hl2 : acc.length + (r.length + 1) ≤ 16777216 := by simpa using hl
    obtain ⟨ys, m', h4, h5, h6, h7⟩ := lcL_idx P I B r (k + 1) (by omega) (fun t ht => h t (by simp [ht])) (acc ++ [y]) m2 i2 (by simp; omega)
    refine ⟨y :: ys, m', ?_, by simp [h5], ?_, ?_⟩
    · unfold lcL
      have hl3 : acc.length < 16777216 := by omega
      simp only [h1, h2, h3, hl3, if_true, h4]
      simp
    · intro z hz
      rcases List.mem_cons.mp hz with rfl | hz
      · exact p
      · exact h6 z hz
    · have e2 : k + (t :: r).length = k + 1 + r.length := by simp; omega
      rw [e2]; exact h7
theorem lcL_to {pt : Pt} {te : D} {e : En} {m : Mem} (g : T → T) : ∀ (ts : List T), (∀ t ∈ ts, ∃ e1, pt.den (g t) e = some e1 ∧ te e1 m = .ok (.p t) m) → ∀ acc : List T, acc.length + ts.length ≤ 16777216 → lcL pt dYes te e (ts.map g) acc m = .ok (acc ++ ts) m
  | [], _, acc, _ => by simp [lcL]
  | t :: r, h, acc, hl => by
    obtain ⟨e1, h1, h3⟩ := h t (by simp)
    have hl2 : acc.length + (r.length + 1) ≤ 16777216 := by simpa using hl
    have hl3 : acc.length < 16777216 := by omega
    rw [List.map_cons]
    unfold lcL
    simp only [h1, dYes_e, h3, hl3, if_true]
    rw [lcL_to g r (fun t ht => h t (by simp [ht])) (acc ++ [t]) (by simp; omega)]
    simp
theorem tupled_to (n : Nat) (g : T → T) (ts : List T) (m : Mem) (hl : ts.length ≤ 16777216) (h : ∀ t ∈ ts, φ_tupled n [.p (g t)] m = .ok (.p t) m) : φ_tupled (n + 1) [.p (.lst (ts.map g))] m = .ok (.p (.tup ts)) m := by
  have e1 : ∀ e : En, 1 < e.length → lcL (.nm 1) dYes (c_tupled_1 (φ_tupled n)) e (ts.map g) [] m = .ok ts m := fun e he => by
    rw [lcL_to g ts (fun t ht => ?_) [] (by simpa using hl)]
    · rfl
    · refine ⟨e.set 1 (some (.p (g t))), rfl, ?_⟩
      have : dVar 1 (e.set 1 (some (U.p (g t)))) m = .ok (.p (g t)) m := by
        rw [dVar_e, List.getElem?_set_self he]; rfl
      simp [c_tupled_1, this, h t ht]
  have e2 : φ_tupled (n + 1) = fnP 1 2 (d_tupled (φ_tupled n)) := rfl
  simp only [e2, fnP1, d_tupled]
  simp [e1, isTn]
section
variable {f : Int} {lot : List T}
theorem sures_ok (D : Dom f lot) (ts : List T) (u : T) (m : Mem) (h : ∀ t ∈ ts, t ∈ lot) (hl : ts.length ≤ 8) (hu : φ_tupled 8 [.p u] m = .ok (.p (.tup ts)) m) : φ_sure_amounts [I f, .p u] m = .ok (.p (.tup [.int f, .tup ts])) m := by
  simp [φ_sure_amounts, fnP2, d_sure_amounts, s_sure_amounts_1, s_sure_amounts_2, s_sure_amounts_3, D.fld, hu, are_ok ts m h (by omega) D, sure_t]
theorem asum_ok (D : Dom f lot) (ts : List T) (u : T) (m : Mem) (h : ∀ t ∈ ts, t ∈ lot) (hl : ts.length ≤ 8) (hu : φ_tupled 8 [.p u] m = .ok (.p (.tup ts)) m) : φ_amounts_sum [I f, .p u] m = .ok (.p (ts.foldl D.add (D.nm 0))) m := by
  simp [φ_amounts_sum, fnP2, d_amounts_sum, sures_ok D ts u m h hl hu, (sum_ok D ts m h hl).1]
theorem aprod_ok (D : Dom f lot) (ts : List T) (u : T) (m : Mem) (h : ∀ t ∈ ts, t ∈ lot) (hl : ts.length ≤ 8) (hu : φ_tupled 8 [.p u] m = .ok (.p (.tup ts)) m) : φ_amounts_product [I f, .p u] m = .ok (.p (ts.foldl D.mul (D.nm 1))) m := by
  simp [φ_amounts_product, fnP2, d_amounts_product, sures_ok D ts u m h hl hu, (prod_ok D ts m h hl).1]
theorem apow_ok (D : Dom f lot) (x : T) (n : Int) (m : Mem) (h : x ∈ lot) (h0 : 0 ≤ n) (hn : n ≤ 8) : φ_amount_power [I f, .p x, I n] m = .ok (.p ((rgT 0 n.toNat).foldl (fun s _ => D.mul s x) (D.nm 1))) m := by
  have e1 : φ_sure_amount [I f, .p x] m = .ok (.p x) m := by
    simp [φ_sure_amount, fnP2, d_sure_amount, s_sure_amount_1, s_sure_amount_2, s_sure_amount_3, D.tup8 x m h, D.isa x m h, sure_t]
  have e2 : φ_sure_count [I n] m = .ok (I n) m := by
    have : φ_is_count [I n] m = .ok (.p (.bl true)) m := by
      simp [φ_is_count, fnP1, d_is_count, num_i, h0]
    simp [φ_sure_count, fnP1, d_sure_count, this, sure_t]
  simp [φ_amount_power, fnP3, d_amount_power, s_amount_power_1, s_amount_power_2, s_amount_power_3, D.fld, e1, e2, power_ok D x n m h h0 hn]
theorem aof_ok (D : Dom f lot) (n : Int) (m : Mem) : φ_amount_of [I f, I n] m = .ok (.p (D.nm n)) m := by
  simp [φ_amount_of, fnP2, d_amount_of, s_amount_of_1, s_amount_of_2, s_amount_of_3, D.fld, num_i, sure_t, D.num]
theorem okT_up {n : Nat} : ∀ {t : T}, okT n t = true → okT (n + 1) t = true := by
  induction n with
  | zero => intro t h; cases t <;> first | rfl | exact h | cases h
  | succ n ih =>
    intro t h
    cases t with
    | tup ts =>
      have h : (ts.all (okT n) && decide (ts.length ≤ 16777216)) = true := h
      simp only [Bool.and_eq_true, decide_eq_true_eq, List.all_eq_true] at h
      show (ts.all (okT (n + 1)) && decide (ts.length ≤ 16777216)) = true
      simp only [Bool.and_eq_true, decide_eq_true_eq, List.all_eq_true]
      exact ⟨fun x hx => ih (h.1 x hx), h.2⟩
    | lst ts =>
      have h : (ts.all (okT n) && decide (ts.length ≤ 16777216)) = true := h
      simp only [Bool.and_eq_true, decide_eq_true_eq, List.all_eq_true] at h
      show (ts.all (okT (n + 1)) && decide (ts.length ≤ 16777216)) = true
      simp only [Bool.and_eq_true, decide_eq_true_eq, List.all_eq_true]
      exact ⟨fun x hx => ih (h.1 x hx), h.2⟩
    | _ => exact h
theorem okT_6 {t : T} (h : okT 1 t = true) : okT 6 t = true := okT_up (okT_up (okT_up (okT_up (okT_up h))))
theorem long_ok {k : Nat} {j : Int} {m : Mem} (D : Dom f lot) (T0 : Tin k j m) (hj : j < 2 ^ 38) : ∃ m', φ__law_long_right [.mu k, I f, .p (.lst lot)] m = .ok (.p (.bl true)) m' ∧ Tin k (j + 20) m' := by
  obtain ⟨r, m1, e1, r0, r1, T1⟩ := take_ok (n := 6) T0 (by omega) (by decide)
  -- the drawn amounts
  obtain ⟨ts, m2, e2, l2, a2, T2⟩ := lcL_idx (pt := .nm 13) (tt := dYes) (te := c__law_long_right_1) (e := [some (.mu k), some (I f), some (.p (.lst lot)), none, none, none, none, none, none, none, none, none, none, none]) (fun x => x ∈ lot) (fun i m => Tin k (j + 1 + (i : Nat)) m) 8 (rgT 0 r.toNat) 0 (by rw [rgT_length]; omega) (fun t ht i m hi T => by
    obtain ⟨x, m', e, hx, T'⟩ := of_ok T (by omega) D.len.1 (by have := D.len.2; omega)
    refine ⟨_, _, x, m', rfl, rfl, ?_, hx, ?_⟩
    · simp [c__law_long_right_1, e]
    · exact T'.up (by omega)) [] m1 (T1.up (by omega)) (by rw [rgT_length]; simp; omega)
  rw [List.nil_append] at e2
  rw [rgT_length] at l2
  have hts : ts.length ≤ 8 := by omega
  rw [rgT_length] at T2
  obtain ⟨n, m3, e3, n0, n1, T3⟩ := take_ok (n := 7) T2 (by omega) (by decide)
  obtain ⟨x, m4, e4, hx, T4⟩ := of_ok T3 (by omega) D.len.1 (by have := D.len.2; omega)
  obtain ⟨q, m5, e5, q0, q1, T5⟩ := take_ok (n := 200) T4 (by omega) (by decide)
  -- total and whole
  have w6 := forL_idx (pt := .nm 6) (body := b__law_long_right_2) (σ := T × T × Option U) (fun s t => (D.add s.1 t, D.mul s.2.1 t, some (.p t))) (fun s => [some (.mu k), some (I f), some (.p (.lst lot)), some (.p (.tup ts)), some (.p s.1), some (.p s.2.1), s.2.2, none, none, none, none, none, none, none]) m2 (fun i s => D.Acc i s.1 ∧ D.Acc i s.2.1) 8 ts 0 (by omega) (fun t ht i s hi q => by
    obtain ⟨p1, _, p2⟩ := D.plus i s.1 t m2 hi q.1 (a2 t ht)
    obtain ⟨p3, _, p4⟩ := D.times i s.2.1 t m2 hi q.2 (a2 t ht)
    refine ⟨⟨p1, p3⟩, _, rfl, ?_⟩
    simp [b__law_long_right_2, p2, p4]) (D.nm 0, D.nm 1, none) D.acc0
  have hf6 : ∀ (ts : List T) (x y : T) (o : Option U), ∃ o', ts.foldl (fun (s : T × T × Option U) t => (D.add s.1 t, D.mul s.2.1 t, some (U.p t))) (x, y, o) = (ts.foldl D.add x, ts.foldl D.mul y, o') := by
    intro ts
    induction ts with
    | nil => intro x y o; exact ⟨o, rfl⟩
    | cons a r ih => intro x y o; exact ih _ _ _
  obtain ⟨o6, f6⟩ := hf6 ts (D.nm 0) (D.nm 1) none
  obtain ⟨acc6, w6⟩ := w6
  rw [f6] at w6 acc6
  -- the power
  have w8 := forL_idx (pt := .nm 10) (body := b__law_long_right_3) (σ := T × Option U) (fun s t => (D.mul s.1 x, some (.p t))) (fun s => [some (.mu k), some (I f), some (.p (.lst lot)), some (.p (.tup ts)), some (.p (ts.foldl D.add (D.nm 0))), some (.p (ts.foldl D.mul (D.nm 1))), o6, some (I n), some (.p x), some (.p s.1), s.2, none, none, none]) m4 (fun i s => D.Acc i s.1) 8 (rgT 0 n.toNat) 0 (by rw [rgT_length]; omega) (fun t ht i s hi q => by
    obtain ⟨p3, _, p4⟩ := D.times i s.1 x m4 hi q hx
    refine ⟨p3, _, rfl, ?_⟩
    simp [b__law_long_right_3, p4]) (D.nm 1, none) D.acc0.2
  have hf8 : ∀ (us : List T) (y : T) (o : Option U), ∃ o', us.foldl (fun (s : T × Option U) t => (D.mul s.1 x, some (U.p t))) (y, o) = (us.foldl (fun s _ => D.mul s x) y, o') := by
    intro us
    induction us with
    | nil => intro y o; exact ⟨o, rfl⟩
    | cons a r ih => intro y o; exact ih _ _
  obtain ⟨o8, f8⟩ := hf8 (rgT 0 n.toNat) (D.nm 1) none
  obtain ⟨acc8, w8⟩ := w8
  rw [f8] at w8 acc8
  -- the doors
  have tu : φ_tupled 8 [.p (.tup ts)] m5 = .ok (.p (.tup ts)) m5 := tupled_seq 7 id ts ts m5 true (by omega) (fun t ht => D.tup t m5 (a2 t ht)) (by simp)
  have li : φ__law_lists 8 [.p (.tup ts)] m5 = .ok (.p (.lst (ts.map D.L))) m5 := lists_seq 7 D.L ts _ m5 (by omega) (fun t ht => D.lst t m5 (a2 t ht)) rfl
  have tl : φ_tupled 8 [.p (.lst (ts.map D.L))] m5 = .ok (.p (.tup ts)) m5 := tupled_to 7 D.L ts m5 (by omega) (fun t ht => D.tupL t m5 (a2 t ht))
  have s1 := asum_ok D ts (.tup ts) m5 a2 hts tu
  have s2 := asum_ok D ts (.lst (ts.map D.L)) m5 a2 hts tl
  have s3 := aprod_ok D ts (.tup ts) m5 a2 hts tu
  have s4 := apow_ok D x n m5 hx n0 (by omega)
  have s5 := aof_ok D (q - 100) m5
  have s6 := asum_ok D [] (.tup []) m5 (by simp) (by decide) rfl
  have s7 := aprod_ok D [] (.tup []) m5 (by simp) (by decide) rfl
  refine ⟨m5, ?_, T5.up (by omega)⟩
  have hsame := same_refl 7 (.lst [ts.foldl D.add (D.nm 0), ts.foldl D.add (D.nm 0), ts.foldl D.mul (D.nm 1), (rgT 0 n.toNat).foldl (fun s _ => D.mul s x) (D.nm 1), D.nm (q - 100), D.nm 0, D.nm 1]) m5 (by
    show (List.all _ _ && _) = true
    simp only [List.all_cons, List.all_nil, okT_6 (D.flat _ _ acc6.1), okT_6 (D.flat _ _ acc6.2), okT_6 (D.flat _ _ acc8), okT_6 (D.nmf _)]
    rfl)
  simp only [φ__law_long_right, fnP3, d__law_long_right, s__law_long_right_4, s__law_long_right_5, s__law_long_right_6, s__law_long_right_7, s__law_long_right_8, s__law_long_right_9, s__law_long_right_10, s__law_long_right_11]
  simp at s6 s7 w6 w8 hsame
  simp [e1, rgC_small r0 (by omega), e2, D.lnum, w6, e3, e4, rgC_small n0 (by omega), w8, e5, s1, s2, s3, s4, s5, s6, s7, li, hsame]
end
/-! ### the fields -/
def pAdd (p : Int) (x y : T) : T := match x, y with
  | .int a, .int b => .int ((a + b).fmod p)
  | _, _ => .non
def pMul (p : Int) (x y : T) : T := match x, y with
  | .int a, .int b => .int ((a * b).fmod p)
  | _, _ => .non
theorem mem_rg {n : Nat} {t : T} (h : t ∈ rgT 0 n) : ∃ i : Nat, t = .int (i : Int) ∧ i < n := by
  unfold rgT at h
  obtain ⟨i, hi, rfl⟩ := List.mem_map.mp h
  exact ⟨i, by simp, List.mem_range.mp hi⟩
def domP (p : Nat) (hp : 2 ≤ p ∧ p < 100) (hf : ∀ m, φ_sure_field [I p] m = .ok (I p) m) : Dom p (rgT 0 p) where
  add := pAdd p
  mul := pMul p
  Acc := fun _ x => ∃ a : Int, x = .int a
  nm := fun n => .int (n.fmod p)
  L := id
  fld := hf
  num := fun n m => by
    have h1 : ((p : Int) == 0) = false := by simp; omega
    have h2 : (p : Int) ≠ 0 := by omega
    simp [φ_number_in, fnP2, d_number_in, h1]
    simp [show p ≠ 0 by omega]
  lnum := fun n m => by
    have h1 : ((p : Int) == 0) = false := by simp; omega
    simp [φ__law_num, fnP2, d__law_num, h1]
    simp [show p ≠ 0 by omega]
  acc0 := ⟨⟨_, rfl⟩, ⟨_, rfl⟩⟩
  plus := fun i x y m hi hx hy => by
    obtain ⟨a, rfl⟩ := hx
    obtain ⟨b, rfl, hb⟩ := mem_rg hy
    have h1 : ((p : Int) == 0) = false := by simp; omega
    refine ⟨⟨_, rfl⟩, ?_, ?_⟩
    · simp [φ_plus_in, fnP3, d_plus_in, h1, pAdd, show p ≠ 0 by omega]
    · simp [φ__law_sum, fnP3, d__law_sum, h1, pAdd, show p ≠ 0 by omega]
  times := fun i x y m hi hx hy => by
    obtain ⟨a, rfl⟩ := hx
    obtain ⟨b, rfl, hb⟩ := mem_rg hy
    have h1 : ((p : Int) == 0) = false := by simp; omega
    have h3 : mulC a (b : Int) = true := mulC_r (by omega)
    refine ⟨⟨_, rfl⟩, ?_, ?_⟩
    · simp [φ_times_in, fnP3, d_times_in, h1, pMul, h3, show p ≠ 0 by omega]
    · simp [φ__law_mul, fnP3, d__law_mul, h1, pMul, h3, show p ≠ 0 by omega]
  flat := fun i x hx => by obtain ⟨a, rfl⟩ := hx; rfl
  nmf := fun n => rfl
  isa := fun x m hx => by
    obtain ⟨b, rfl, hb⟩ := mem_rg hx
    have h4 : decide ((0 : Int) < p) = true := by simp; omega
    have h5 : decide ((b : Int) < p) = true := by simp; omega
    simp [φ_is_amount_in, fnP2, d_is_amount_in, s_is_amount_in_1, s_is_amount_in_2, s_is_amount_in_3, below_i]
    simp [show 0 < p by omega, hb]
  tup := fun x m hx => by obtain ⟨b, rfl, hb⟩ := mem_rg hx; rfl
  tup8 := fun x m hx => by obtain ⟨b, rfl, hb⟩ := mem_rg hx; rfl
  lst := fun x m hx => by obtain ⟨b, rfl, hb⟩ := mem_rg hx; rfl
  tupL := fun x m hx => by obtain ⟨b, rfl, hb⟩ := mem_rg hx; rfl
  len := by rw [rgT_length]; omega
/-- the law's fractions -/
def lotQ : List T := [V 1 2, V (-1) 1, V 3 4, V 2 3, V 0 1, V 1 1]
def qAdd (x y : T) : T := match x, y with
  | .tup [.int a, .int b], .tup [.int c, .int d] => fq (a * d + c * b) (b * d)
  | _, _ => .non
def qMul (x y : T) : T := match x, y with
  | .tup [.int a, .int b], .tup [.int c, .int d] => fq (a * c) (b * d)
  | _, _ => .non
def qL (x : T) : T := match x with
  | .tup ts => .lst ts
  | x => x
theorem lotQ_mem {y : T} (h : y ∈ lotQ) : ∃ c d : Int, y = V c d ∧ Vd c d ∧ c.natAbs ≤ 4 ∧ d ≤ 4 := by
  simp only [lotQ, List.mem_cons, List.not_mem_nil, or_false] at h
  rcases h with rfl | rfl | rfl | rfl | rfl | rfl <;> exact ⟨_, _, rfl, ⟨by decide, by decide, by decide, by decide⟩, by decide, by decide⟩
/-- a fraction's words are not greater than what it is made of -/
theorem fq_le (t b : Int) (hb : 0 < b) : ∃ x y : Int, fq t b = V x y ∧ 0 < y ∧ y ≤ b ∧ x.natAbs ≤ t.natAbs := by
  have hg : 0 < Int.gcd t b := Int.gcd_pos_of_ne_zero_right _ (by omega)
  refine ⟨_, _, by unfold fq; rw [if_pos hb], ?_, ?_, ?_⟩
  · rw [Int.fdiv_eq_ediv_of_nonneg _ (by omega)]
    exact Int.ediv_pos_of_pos_of_dvd hb (by omega) (Int.gcd_dvd_right _ _)
  · rw [Int.fdiv_eq_ediv_of_nonneg _ (by omega)]
    exact Int.ediv_le_self _ (by omega)
  · rw [Int.fdiv_eq_ediv_of_nonneg _ (by omega)]
    exact Int.natAbs_ediv_le_natAbs t _
def accQ (i : Nat) (x : T) : Prop := ∃ a b : Int, x = V a b ∧ 0 < b ∧ b.natAbs ≤ 64 ^ i ∧ a.natAbs ≤ 64 ^ i
theorem p64 {i : Nat} (h : i < 8) : (64 : Nat) ^ i ≤ 64 ^ 8 := Nat.pow_le_pow_right (by decide) (by omega)
theorem acc_fq {i : Nat} {t b : Int} (hb : 0 < b) (h1 : t.natAbs ≤ 64 ^ i * 8) (h2 : b.natAbs ≤ 64 ^ i * 4) : accQ (i + 1) (fq t b) := by
  obtain ⟨x, y, e, y0, y1, x1⟩ := fq_le t b hb
  have hp : (64 : Nat) ^ (i + 1) = 64 ^ i * 64 := Nat.pow_succ _ _
  refine ⟨x, y, e, y0, ?_, ?_⟩
  · omega
  · omega
theorem le_prod {x y X Y : Nat} (h1 : x ≤ X) (h2 : y ≤ Y) : x * y ≤ X * Y := Nat.mul_le_mul h1 h2
def domQ : Dom 0 lotQ where
  add := qAdd
  mul := qMul
  Acc := accQ
  nm := fun n => V n 1
  L := qL
  fld := sure0
  num := fun n m => rfl
  lnum := fun n m => rfl
  acc0 := ⟨⟨0, 1, rfl, by decide, by decide, by decide⟩, ⟨1, 1, rfl, by decide, by decide, by decide⟩⟩
  plus := fun i x y m hi ⟨a, b, e, hb, hb2, ha⟩ hy => by
    obtain ⟨c, d, rfl, v, hc, hd⟩ := lotQ_mem hy
    subst e
    have hp := p64 hi
    have h8 : (64 : Nat) ^ 8 < 2 ^ 200 := by decide
    have d0 := v.pos
    have k1 : (b * d).natAbs ≤ 64 ^ i * 4 := by rw [Int.natAbs_mul]; exact le_prod hb2 (by omega)
    have k2 : (a * d).natAbs ≤ 64 ^ i * 4 := by rw [Int.natAbs_mul]; exact le_prod ha (by omega)
    have k3 : (c * b).natAbs ≤ 64 ^ i * 4 := by rw [Int.natAbs_mul, Nat.mul_comm]; exact le_prod hb2 hc
    refine ⟨acc_fq (Int.mul_pos hb d0) (by have := Int.natAbs_add_le (a * d) (c * b); omega) k1, plus0 a b c d m (by omega) (by omega) v.sa v.sb (ne_mul hb d0), law_plus0 a b c d m (by omega) (by omega) v.sa v.sb (ne_mul hb d0)⟩
  times := fun i x y m hi ⟨a, b, e, hb, hb2, ha⟩ hy => by
    obtain ⟨c, d, rfl, v, hc, hd⟩ := lotQ_mem hy
    subst e
    have hp := p64 hi
    have h8 : (64 : Nat) ^ 8 < 2 ^ 200 := by decide
    have d0 := v.pos
    have k1 : (b * d).natAbs ≤ 64 ^ i * 4 := by rw [Int.natAbs_mul]; exact le_prod hb2 (by omega)
    have k2 : (a * c).natAbs ≤ 64 ^ i * 4 := by rw [Int.natAbs_mul]; exact le_prod ha hc
    refine ⟨acc_fq (Int.mul_pos hb d0) (by omega) k1, times0 a b c d m (by omega) (by omega) v.sa v.sb (ne_mul hb d0), law_times0 a b c d m (by omega) (by omega) v.sa v.sb (ne_mul hb d0)⟩
  flat := fun i x ⟨a, b, e, _⟩ => by subst e; rfl
  nmf := fun n => rfl
  isa := fun x m hx => by
    obtain ⟨c, d, rfl, v, _⟩ := lotQ_mem hx
    rw [isam0 c d m v.pp]
    simp [v.pos, v.gcd]
  tup := fun x m hx => by obtain ⟨c, d, rfl, _⟩ := lotQ_mem hx; rfl
  tup8 := fun x m hx => by obtain ⟨c, d, rfl, _⟩ := lotQ_mem hx; rfl
  lst := fun x m hx => by obtain ⟨c, d, rfl, _⟩ := lotQ_mem hx; rfl
  tupL := fun x m hx => by obtain ⟨c, d, rfl, _⟩ := lotQ_mem hx; rfl
  len := by decide
end K10

namespace K10
open PySem L2 Tw
/-- a walk, counted, that changes the memory -/
theorem forL_cnt {pt : Pt} {body : DS} (P : Nat → En → Mem → Prop) (B : Nat) : ∀ (ts : List T) (i : Nat), i + ts.length ≤ B → (∀ t ∈ ts, ∀ i e m, i < B → P i e m → ∃ e1, pt.den t e = some e1 ∧ ∃ e2 m2, body e1 m = .next e2 m2 ∧ P (i + 1) e2 m2) → ∀ e m, P i e m → ∃ e' m', forL pt body ts e m = .next e' m' ∧ P (i + ts.length) e' m'
  | [], i, _, _, e, m, p => ⟨e, m, rfl, p⟩
  | t :: r, i, hl, h, e, m, p => by
    have hl2 : i + (r.length + 1) ≤ B := hl
    obtain ⟨e1, h1, e2, m2, h2, p2⟩ := h t (by simp) i e m (by omega) p
    obtain ⟨e', m', h3, p3⟩ := forL_cnt P B r (i + 1) (by omega) (fun t ht => h t (by simp [ht])) e2 m2 p2
    have el : i + (t :: r).length = i + 1 + r.length := by simp; omega
    refine ⟨e', m', ?_, el ▸ p3⟩
    unfold forL
    rw [h1]
    show (match body e1 m with
      | .next e2 m2 => forL pt body r e2 m2
      | .cont e2 m2 => forL pt body r e2 m2
      | .brk e2 m2 => .next e2 m2
      | r => r) = _
    rw [h2]
    exact h3
/-- the law's slots -/
abbrev E (s t f w o p l a b c d : Option U) : En := [s, t, f, w, o, p, l, a, b, c, d, none, none, none]
def head (p : Nat) : Prop := ∀ (s : Option U) (k : Nat) (m : Mem), (sSeq s_law_21 (sSeq s_law_22 s_law_23)) (E s (some (.mu k)) (some (I p)) none none none none none none none none) m =
  .next (E s (some (.mu k)) (some (I p)) (some (.p (.lst (rgT 0 p)))) (some (I ((p : Int) - 1))) none none none none none none) m
theorem head2 : head 2 := fun s k m => by kernel_rfl
theorem head3 : head 3 := fun s k m => by kernel_rfl
theorem head5 : head 5 := fun s k m => by kernel_rfl
theorem head7 : head 7 := fun s k m => by kernel_rfl
theorem head11 : head 11 := fun s k m => by kernel_rfl
theorem head13 : head 13 := fun s k m => by kernel_rfl
def tail (p : Nat) : Prop := ∀ (s o q l : Option U) (k : Nat) (m : Mem), (sSeq s_law_27 (sSeq s_law_28 (sSeq s_law_29 (sSeq s_law_30 (sSeq s_law_31 (sSeq s_law_32 s_law_33)))))) (E s (some (.mu k)) (some (I p)) (some (.p (.lst (rgT 0 p)))) o q l none none none none) m = .ret (.p (.bl true)) m
theorem tail2 : tail 2 := fun s o q l k m => by kernel_rfl
theorem tail3 : tail 3 := fun s o q l k m => by kernel_rfl
theorem tail5 : tail 5 := fun s o q l k m => by kernel_rfl
theorem tail7 : tail 7 := fun s o q l k m => by kernel_rfl
theorem tail11 : tail 11 := fun s o q l k m => by kernel_rfl
theorem tail13 : tail 13 := fun s o q l k m => by kernel_rfl
end K10

namespace K10
open PySem L2 Tw
def chk (r q : Nat) : Bool := match fq ((r : Int) - 20) (1 + (q : Int)) with
  | .tup [.int a, .int b] => decide (0 < b) && (decide (b ≤ 20) && (decide (a.natAbs ≤ 20) && decide (Int.gcd a b = 1)))
  | _ => false
theorem chk_all : ((List.range 41).all fun r => (List.range 20).all fun q => chk r q) = true := by decide +kernel
def VT (x : T) : Prop := ∃ a b, x = V a b ∧ Vd a b
theorem drawn_ok {r q : Int} (r0 : 0 ≤ r) (r1 : r < 41) (q0 : 0 ≤ q) (q1 : q < 20) : VT (fq (r - 20) (1 + q)) := by
  have h := List.all_eq_true.mp chk_all r.toNat (List.mem_range.mpr (by omega))
  have h2 := List.all_eq_true.mp h q.toNat (List.mem_range.mpr (by omega))
  unfold chk at h2
  rw [show ((r.toNat : Nat) : Int) = r by omega, show ((q.toNat : Nat) : Int) = q by omega] at h2
  unfold fq at h2 ⊢
  simp only [Bool.and_eq_true, decide_eq_true_eq] at h2
  exact ⟨_, _, rfl, h2.1, h2.2.1, h2.2.2.1, h2.2.2.2⟩
theorem parts_ok {s f w o l : Option U} {k : Nat} {j : Int} {m : Mem} (T0 : Tin k j m) (hj : j < 2 ^ 30) : ∃ ts m', s_law_24 (E s (some (.mu k)) f w o none none none none none none) m = .next (E s (some (.mu k)) f w o (some (.p (.lst ts))) none none none none none) m' ∧ (∀ t ∈ ts, VT t) ∧ ts.length = 13 ∧ Tin k (j + 16) m' := by
  obtain ⟨ts, m2, e2, l2, a2, T2⟩ := lcL_idx (pt := .nm 12) (tt := dYes) (te := c_law_4) (e := E s (some (.mu k)) f w o none none none none none none) VT (fun i m => Tin k (j + 2 * (i : Nat)) m) 8 (rgT 0 8) 0 (by rw [rgT_length]; omega) (fun t ht i m hi T => by
    obtain ⟨r, m1, e1, r0, r1, T1⟩ := take_ok (n := 41) T (by omega) (by decide)
    obtain ⟨q, m2, e2, q0, q1, T2⟩ := take_ok (n := 20) T1 (by omega) (by decide)
    refine ⟨_, _, _, m2, rfl, rfl, ?_, drawn_ok r0 r1 q0 q1, T2.up (by omega)⟩
    have hl := law_frac_eq (r - 20) (1 + q) m2 (by omega) (le450 (Nat.lt_of_le_of_lt (by omega : (r - 20).natAbs ≤ 100) (Nat.lt_of_lt_of_le (by decide : 100 < 2 ^ 7) (Nat.pow_le_pow_right (by decide) (by decide))))) (le450 (Nat.lt_of_le_of_lt (by omega : (1 + q).natAbs ≤ 100) (Nat.lt_of_lt_of_le (by decide : 100 < 2 ^ 7) (Nat.pow_le_pow_right (by decide) (by decide)))))
    simp [c_law_4, e1, e2, hl]) [] m (T0.up (by omega)) (by rw [rgT_length]; simp)
  rw [List.nil_append] at e2
  rw [rgT_length] at l2
  refine ⟨ts ++ [V 0 1, V 1 1, V (-20) 1, V 1 20, V 20 19], m2, ?_, ?_, by simp [l2], T2.up (by rw [rgT_length]; omega)⟩
  · have r8 : rgC 8 = true := by decide
    have ad : ∀ (xs ys : List T) (m : Mem), xs.length + ys.length ≤ 16777216 → fAdd .tree (.p (.lst xs)) (.p (.lst ys)) m = .ok (.p (.lst (xs ++ ys))) m := fun xs ys m h => by
      show (if xs.length + ys.length ≤ 16777216 then newL .tree (xs ++ ys) m else .bad) = _
      rw [if_pos h]; rfl
    have ad2 := ad ts [V 0 1, V 1 1, V (-20) 1, V 1 20, V 20 19] m2 (by simp [l2])
    simp only [s_law_24]
    simp [r8, e2, ad2]
  · intro t ht
    rcases List.mem_append.mp ht with h | h
    · exact a2 t h
    · simp only [List.mem_cons, List.not_mem_nil, or_false] at h
      rcases h with rfl | rfl | rfl | rfl | rfl <;> exact ⟨_, _, rfl, by decide, by decide, by decide, by decide⟩
theorem pairs_ok {s t f w : Option U} {ts : List T} {m : Mem} (h : ∀ x ∈ ts, VT x) (hl : ts.length = 13) : ∀ o, ∃ o', s_law_25 (E s t f w o (some (.p (.lst ts))) none none none none none) m = .next (E s t f w o' (some (.p (.lst ts))) none none none none none) m := by
  intro o
  obtain ⟨e', m', h1, rfl, o', rfl⟩ := forL_inv (pt := .nm 4) (body := b_law_7) (fun e m' => m' = m ∧ ∃ o, e = E s t f w o (some (.p (.lst ts))) none none none none none) ts (fun x hx e m' ⟨hm, o, he⟩ => by
    subst hm he
    refine ⟨_, rfl, E s t f w (some (.p x)) (some (.p (.lst ts))) none none none none none, m', ?_, rfl, _, rfl⟩
    have hlc : lcL (.nm 13) t_law_6 c_law_5 (E s t f w (some (.p x)) (some (.p (.lst ts))) none none none none none) ts [] m' = .ok [] m' := by
      rw [lcL_pure (fun _ => false) id ts (fun y hy => ?_) [] (by simp [hl])]
      · simp
      · obtain ⟨a, b, rfl, v⟩ := h x hx
        obtain ⟨c, d, rfl, v2⟩ := h y hy
        refine ⟨_, rfl, ?_, nofun⟩
        simp [t_law_6, pair_right0 v v2 m']
    have hne : fEq true (.p (.lst [])) (.p (.lst [])) m' = .ok (.p (.bl false)) m' := rfl
    simp [b_law_7, hlc, hne]) (E s t f w o (some (.p (.lst ts))) none none none none none) m ⟨rfl, o, rfl⟩
  exact ⟨o', by rw [← h1]; simp [s_law_25]⟩
theorem longs_ok {p : Nat} (D : Dom p (rgT 0 p)) {s o q : Option U} {k : Nat} {j : Int} {m : Mem} (T0 : Tin k j m) (hj : j < 2 ^ 30) : ∃ l m', s_law_26 (E s (some (.mu k)) (some (I p)) (some (.p (.lst (rgT 0 p)))) o q none none none none none) m = .next (E s (some (.mu k)) (some (I p)) (some (.p (.lst (rgT 0 p)))) o q l none none none none) m' := by
  obtain ⟨e', m', h1, T1, l, rfl⟩ := forL_cnt (pt := .nm 6) (body := b_law_8) (fun i e m => Tin k (j + 40 * (i : Nat)) m ∧ ∃ l, e = E s (some (.mu k)) (some (I p)) (some (.p (.lst (rgT 0 p)))) o q l none none none none) 4 (rgT 0 4) 0 (by rw [rgT_length]; omega) (fun x hx i e m hi ⟨T, l, he⟩ => by
    subst he
    obtain ⟨m1, e1, T1⟩ := long_ok D T (by omega)
    obtain ⟨m2, e2, T2⟩ := long_ok domQ T1 (by omega)
    have e2' : φ__law_long_right [.mu k, I 0, .p (.lst [V 1 2, V (-1) 1, V 3 4, V 2 3, V 0 1, V 1 1])] m1 = .ok (.p (.bl true)) m2 := e2
    refine ⟨_, rfl, E s (some (.mu k)) (some (I p)) (some (.p (.lst (rgT 0 p)))) o q (some (.p x)) none none none none, m2, ?_, T2.up (by omega), _, rfl⟩
    simp [b_law_8, e1, e2']) (E s (some (.mu k)) (some (I p)) (some (.p (.lst (rgT 0 p)))) o q none none none none none) m ⟨T0.up (by omega), none, rfl⟩
  exact ⟨l, m', by
    have r4 : rgC 4 = true := by decide
    rw [← h1]; simp [s_law_26, r4]⟩
theorem law_true (ns : List Int) (hl : ns.length ≤ 63) : ∃ m, φ_law [.p (.scr ns)] [] = .ok (.p (.bl true)) m := by
  obtain ⟨k, c, m, e1, h1⟩ := cells_ok ns hl
  obtain ⟨k, m1, e2, T1⟩ := box_ok k c m h1
  obtain ⟨x, m2, e3, hx, T2⟩ := of_ok (lot := [.int 2, .int 3, .int 5, .int 7, .int 11, .int 13]) T1 (by decide) (by decide) (by decide)
  have hp : ∃ p : Nat, x = .int p ∧ head p ∧ tail p ∧ (2 ≤ p ∧ p < 100) ∧ ∀ m, φ_sure_field [I p] m = .ok (I p) m := by
    simp only [List.mem_cons, List.not_mem_nil, or_false] at hx
    rcases hx with rfl | rfl | rfl | rfl | rfl | rfl
    · exact ⟨2, rfl, head2, tail2, by decide, fun m => by kernel_rfl⟩
    · exact ⟨3, rfl, head3, tail3, by decide, fun m => by kernel_rfl⟩
    · exact ⟨5, rfl, head5, tail5, by decide, fun m => by kernel_rfl⟩
    · exact ⟨7, rfl, head7, tail7, by decide, fun m => by kernel_rfl⟩
    · exact ⟨11, rfl, head11, tail11, by decide, fun m => by kernel_rfl⟩
    · exact ⟨13, rfl, head13, tail13, by decide, fun m => by kernel_rfl⟩
  obtain ⟨p, rfl, hh, ht, hb, hf⟩ := hp
  obtain ⟨ts, m3, e4, hv, hl13, T3⟩ := parts_ok (s := some (.p (.scr ns))) (f := some (I p)) (w := some (.p (.lst (rgT 0 p)))) (o := some (I ((p : Int) - 1))) (l := none) T2 (by decide)
  obtain ⟨o5, e5⟩ := pairs_ok (s := some (.p (.scr ns))) (t := some (.mu k)) (f := some (I p)) (w := some (.p (.lst (rgT 0 p)))) (m := m3) hv hl13 (some (I ((p : Int) - 1)))
  obtain ⟨l6, m6, e6⟩ := longs_ok (domP p hb hf) (s := some (.p (.scr ns))) (o := o5) (q := some (.p (.lst ts))) T3 (by decide)
  have e7 := ht (some (.p (.scr ns))) o5 (some (.p (.lst ts))) l6 k m6
  have e8 := hh (some (.p (.scr ns))) k m2
  refine ⟨m6.take 0, ?_⟩
  have s19 : s_law_19 (E (some (.p (.scr ns))) none none none none none none none none none none) [] = .next (E (some (.p (.scr ns))) (some (.mu k)) none none none none none none none none none) m1 := by
    simp [s_law_19, e1, e2]
  have s20 : s_law_20 (E (some (.p (.scr ns))) (some (.mu k)) none none none none none none none none none) m1 = .next (E (some (.p (.scr ns))) (some (.mu k)) (some (I p)) none none none none none none none none) m2 := by
    simp [s_law_20, e3]
  have assoc : ∀ (a b c : DS) (e : En) (m : Mem), sSeq a (sSeq b c) e m = sSeq (sSeq a b) c e m := fun a b c e m => by
    simp only [sSeq_e]
    cases a e m <;> rfl
  have hd : d_law (E (some (.p (.scr ns))) none none none none none none none none none none) [] = .ret (.p (.bl true)) m6 := by
    show sSeq s_law_19 (sSeq s_law_20 (sSeq s_law_21 (sSeq s_law_22 (sSeq s_law_23 _)))) _ _ = _
    rw [sSeq_e, s19, sb_next, sSeq_e, s20, sb_next]
    have e8' := e8
    rw [sSeq_e] at e8
    cases h21 : s_law_21 (E (some (.p (.scr ns))) (some (.mu k)) (some (I p)) none none none none none none none none) m2 with
    | next e21 m21 =>
      rw [h21, sb_next, sSeq_e] at e8
      rw [sSeq_e, h21, sb_next, sSeq_e]
      cases h22 : s_law_22 e21 m21 with
      | next e22 m22 =>
        rw [h22, sb_next] at e8
        rw [sb_next, sSeq_e, e8, sb_next, sSeq_e, e4, sb_next, sSeq_e, e5, sb_next, sSeq_e, e6, sb_next]
        exact e7
      | ret u m => rw [h22] at e8; cases e8
      | brk u m => rw [h22] at e8; cases e8
      | cont u m => rw [h22] at e8; cases e8
      | exc x u m => rw [h22] at e8; cases e8
      | bad => rw [h22] at e8; cases e8
    | ret u m => rw [h21] at e8; cases e8
    | brk u m => rw [h21] at e8; cases e8
    | cont u m => rw [h21] at e8; cases e8
    | exc x u m => rw [h21] at e8; cases e8
    | bad => rw [h21] at e8; cases e8
  show fnD 1 14 d_law [.p (.scr ns)] [] = _
  rw [fnD1]
  show finD 0 (d_law (E (some (.p (.scr ns))) none none none none none none none none none none) []) = _
  rw [hd]; rfl
end K10

theorem PySem.Challenge.cw_lettersandnumbers_k10_whole_amounts_by_o_holds : PySem.Challenge.rw_lettersandnumbers_k10_whole_amounts_by_o.Holds := by
  exact K10.holds_of K10.law_true
