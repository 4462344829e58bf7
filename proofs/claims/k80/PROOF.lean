import PyProof.Rows.All
import Wide.All
import OpenK.AllK
import Wide.FinOn
import HandS.ForMost
import HandS.ForExc
import HandS.Conv
import HandS.Star
import HandS.StrSplit
import HandS.FStr
import HandS.IsInst
import HandS.TupAny
import HandS.Wide
import HandS.Flow
import HandS.Zip
import HandS.Deep
import HandS.RaiseMore
import HandS.Iter
import PySem.Challenge.RW_kerbwise_k80_commands_read
set_option Elab.async false
set_option linter.all false
set_option maxRecDepth 100000
set_option maxHeartbeats 4000000
/-! Z: plain data over the layer. A def is read as a function of plain data (PyData), without heap: environments rho (slots: unbound, shared, owned), results R. -/
namespace Z
open PySem PySem.Spec PyProof.Rows L2

abbrev D := PyData
abbrev St := L2.St

/-- a result: a value, an exception of the kind k, or nothing known -/
inductive R (α : Type) where
  | ok (a : α)
  | ex (k : Nat)
  | no
def R.bind {α β : Type} (x : R α) (f : α → R β) : R β := match x with
  | .ok a => f a
  | .ex k => .ex k
  | .no => .no

/-! ### representation -/
/-- a list that is read: tracked and not in B, or of the written part -/
def RL (K : PySem.W.Frag) (H : Hp) (B : Addr → Prop) (a : Addr) (xs : List V) : Prop := (Rd H a (.lst xs) ∧ ¬ B a) ∨
  ∃ (o : Obj) (its : Array Value) (n : Nat), K.lookup a = some o ∧ o.cls = .type "list" ∧ o.dict = none ∧ o.data = .seq its n ∧ its.size ≤ sizeLine ∧ Vals xs its.toList
theorem RL.sq {K : PySem.W.Frag} {H : Hp} {B : Addr → Prop} {a : Addr} {xs : List V} (h : RL K H B a xs) : SqL K H a xs := h.elim (fun z => .inl z.1) .inr
theorem RL.mk {K : PySem.W.Frag} {H : Hp} {B : Addr → Prop} {a : Addr} {xs : List V} (h : Rd H a (.lst xs)) (n : ¬ B a) : RL K H B a xs := .inl ⟨h, n⟩
mutual
inductive Rp (K : PySem.W.Frag) (H : Hp) (B : Addr → Prop) : V → D → Prop
  | non : Rp K H B .non .none
  | bl (b : Bool) : Rp K H B (.bl b) (.bool b)
  | int (i : Int) : Rp K H B (.int i) (.int i)
  | str (x : Str) : Rp K H B (.str x) (.str x)
  | lst {a : Addr} {xs : List V} {ds : List D} : RL K H B a xs → RpAll K H B xs ds → Rp K H B (.ref a) (.list ds)
  | tup {a : Addr} {xs : List V} {ds : List D} : SqT K H a xs → RpAll K H B xs ds → Rp K H B (.ref a) (.tuple ds)
inductive RpAll (K : PySem.W.Frag) (H : Hp) (B : Addr → Prop) : List V → List D → Prop
  | nil : RpAll K H B [] []
  | cons {v : V} {vs : List V} {d : D} {ds : List D} : Rp K H B v d → RpAll K H B vs ds → RpAll K H B (v :: vs) (d :: ds)
end

section
variable {K : PySem.W.Frag} {H H' : Hp} {B B' : Addr → Prop}

/-- how a heap may go on: what lists and tuples that matter (those of T) stay -/
theorem rd_ne {a : Addr} {u : HO} (r : Rd H a u) : H a ≠ none := by
  rcases r with r | ⟨o, r⟩ <;> (rw [r]; exact fun h => nomatch h)
theorem rd_same {a : Addr} {u : HO} (s : Same H H') (r : Rd H a u) : Rd H' a u := by
  rcases r with r | ⟨o, r⟩
  · exact .inl (s _ _ r)
  · exact .inr ⟨o, s _ _ r⟩
theorem sqT_same {a : Addr} {xs : List V} (s : Same H H') (r : SqT K H a xs) : SqT K H' a xs := by
  rcases r with r | r
  · exact .inl (rd_same s r)
  · exact .inr r
/-- the general step: lists that are read (not in B) and tuples stay -/
structure Step (K : PySem.W.Frag) (H H' : Hp) (B B' : Addr → Prop) : Prop where
  lst : ∀ a xs, Rd H a (.lst xs) → ¬ B a → Rd H' a (.lst xs) ∧ ¬ B' a
  tup : ∀ a xs, SqT K H a xs → SqT K H' a xs
mutual
theorem Rp.step (S : Step K H H' B B') : ∀ (d : D) (v : V), Rp K H B v d → Rp K H' B' v d
  | .none, _, h => by cases h; exact .non
  | .bool b, _, h => by cases h; exact .bl b
  | .int i, _, h => by cases h; exact .int i
  | .str x, _, h => by cases h; exact .str x
  | .list ds, _, h => by
    cases h with
    | lst hs ha => exact .lst (hs.imp (fun z => S.lst _ _ z.1 z.2) id) (Rp.stepAll S ds _ ha)
  | .tuple ds, _, h => by
    cases h with
    | tup hs ha => exact .tup (S.tup _ _ hs) (Rp.stepAll S ds _ ha)
  | .dict _, _, h => by cases h
theorem Rp.stepAll (S : Step K H H' B B') : ∀ (ds : List D) (vs : List V), RpAll K H B vs ds → RpAll K H' B' vs ds
  | [], _, h => by cases h; exact .nil
  | d :: ds, _, h => by
    cases h with
    | cons h1 h2 => exact .cons (Rp.step S d _ h1) (Rp.stepAll S ds _ h2)
end
theorem Step.mono (s : Same H H') (hb : ∀ a, B' a → B a ∨ H a = none) : Step K H H' B B' :=
  ⟨fun a xs r n => ⟨rd_same s r, fun z => (hb a z).elim n (rd_ne r)⟩, fun a xs r => sqT_same s r⟩
theorem Rp.mono {v : V} {d : D} (s : Same H H') (r : Rp K H B v d) (hb : ∀ a, B' a → B a ∨ H a = none := by exact fun _ z => .inl z) : Rp K H' B' v d := Rp.step (.mono s hb) d v r
theorem RpAll.mono {vs : List V} {ds : List D} (s : Same H H') (r : RpAll K H B vs ds) (hb : ∀ a, B' a → B a ∨ H a = none := by exact fun _ z => .inl z) : RpAll K H' B' vs ds := Rp.stepAll (.mono s hb) ds vs r
theorem RpAll.length : ∀ {vs : List V} {ds : List D}, RpAll K H B vs ds → vs.length = ds.length
  | _, _, .nil => rfl
  | _, _, .cons _ t => by rw [List.length_cons, List.length_cons, RpAll.length t]
theorem RpAll.get : ∀ {vs : List V} {ds : List D} {i : Nat} {v : V}, RpAll K H B vs ds → vs[i]? = some v → ∃ d, ds[i]? = some d ∧ Rp K H B v d
  | _, _, _, _, .nil, e => by simp at e
  | _, _, 0, v, .cons r _, e => by simp at e; subst e; exact ⟨_, rfl, r⟩
  | _, _, i + 1, v, .cons _ t, e => by
    obtain ⟨d, h1, h2⟩ := RpAll.get (i := i) (v := v) t (by simpa using e)
    exact ⟨d, by simpa using h1, h2⟩
theorem RpAll.get' : ∀ {vs : List V} {ds : List D} {i : Nat} {d : D}, RpAll K H B vs ds → ds[i]? = some d → ∃ v, vs[i]? = some v ∧ Rp K H B v d
  | _, _, _, _, .nil, e => by simp at e
  | _, _, 0, v, .cons r _, e => by simp at e; subst e; exact ⟨_, rfl, r⟩
  | _, _, i + 1, v, .cons _ t, e => by
    obtain ⟨d, h1, h2⟩ := RpAll.get' (i := i) (d := v) t (by simpa using e)
    exact ⟨d, by simpa using h1, h2⟩
theorem RpAll.append : ∀ {vs ws : List V} {ds es : List D}, RpAll K H B vs ds → RpAll K H B ws es → RpAll K H B (vs ++ ws) (ds ++ es)
  | _, _, _, _, .nil, s => s
  | _, _, _, _, .cons r t, s => .cons r (RpAll.append t s)
theorem RpAll.take : ∀ {vs : List V} {ds : List D} (n : Nat), RpAll K H B vs ds → RpAll K H B (vs.take n) (ds.take n)
  | _, _, 0, _ => .nil
  | _, _, _ + 1, .nil => .nil
  | _, _, n + 1, .cons r t => .cons r (RpAll.take n t)
theorem RpAll.drop : ∀ {vs : List V} {ds : List D} (n : Nat), RpAll K H B vs ds → RpAll K H B (vs.drop n) (ds.drop n)
  | _, _, 0, r => r
  | _, _, _ + 1, .nil => .nil
  | _, _, n + 1, .cons _ t => RpAll.drop n t
theorem RpAll.set {v : V} {d : D} (r : Rp K H B v d) : ∀ {vs : List V} {ds : List D} (n : Nat), RpAll K H B vs ds → RpAll K H B (vs.set n v) (ds.set n d)
  | _, _, _, .nil => .nil
  | _, _, 0, .cons _ t => .cons r t
  | _, _, n + 1, .cons q t => .cons q (RpAll.set r n t)
theorem RpAll.reverse : ∀ {vs : List V} {ds : List D}, RpAll K H B vs ds → RpAll K H B vs.reverse ds.reverse
  | _, _, .nil => .nil
  | _, _, .cons r t => by
    rw [List.reverse_cons, List.reverse_cons]
    exact RpAll.append (RpAll.reverse t) (.cons r .nil)
theorem RpAll.ints : ∀ (ns : List Int), RpAll K H B (ns.map V.int) (ns.map PyData.int)
  | [] => .nil
  | n :: r => .cons (.int n) (RpAll.ints r)
theorem RpAll.strs : ∀ (ns : List Str), RpAll K H B (ns.map V.str) (ns.map PyData.str)
  | [] => .nil
  | n :: r => .cons (.str n) (RpAll.strs r)

/-! ### to the layer's Dp -/
theorem Rd.sqL {a : Addr} {xs : List V} (r : Rd H a (.lst xs)) : SqL K H a xs := .inl r
mutual
theorem Rp.dp : ∀ (d : D) (v : V), Rp K H B v d → Dp K H v d
  | .none, _, h => by cases h; exact .non
  | .bool b, _, h => by cases h; exact .bl b
  | .int i, _, h => by cases h; exact .int i
  | .str x, _, h => by cases h; exact .str x
  | .list ds, _, h => by
    cases h with
    | lst hs ha => exact .lst hs.sq (Rp.dpAll ds _ ha)
  | .tuple ds, _, h => by
    cases h with
    | tup hs ha => exact .tup hs (Rp.dpAll ds _ ha)
  | .dict _, _, h => by cases h
theorem Rp.dpAll : ∀ (ds : List D) (vs : List V), RpAll K H B vs ds → DpAll K H vs ds
  | [], _, h => by cases h; exact .nil
  | d :: ds, _, h => by
    cases h with
    | cons h1 h2 => exact .cons (Rp.dp d _ h1) (Rp.dpAll ds _ h2)
end
end

/-- as read, where the topmost list may be one that a slot owns -/
def RpC (K : PySem.W.Frag) (H : Hp) (B : Addr → Prop) (v : V) : D → Prop
  | .list ds => ∃ a xs, v = .ref a ∧ SqL K H a xs ∧ RpAll K H B xs ds
  | d => Rp K H B v d
theorem Rp.c {K : PySem.W.Frag} {H : Hp} {B : Addr → Prop} {v : V} : ∀ {d : D}, Rp K H B v d → RpC K H B v d
  | .list ds, h => by
    cases h with
    | lst hs ha => exact ⟨_, _, rfl, hs.sq, ha⟩
  | .none, h => h
  | .bool _, h => h
  | .int _, h => h
  | .str _, h => h
  | .tuple _, h => h
  | .dict _, h => h
theorem sqL_same {K : PySem.W.Frag} {H H' : Hp} {a : Addr} {xs : List V} (s : Same H H') (r : SqL K H a xs) : SqL K H' a xs := by
  rcases r with r | r
  · exact .inl (rd_same s r)
  · exact .inr r
theorem RpC.mono {K : PySem.W.Frag} {H H' : Hp} {B B' : Addr → Prop} {v : V} (s : Same H H') (hb : ∀ a, B' a → B a ∨ H a = none) : ∀ {d : D}, RpC K H B v d → RpC K H' B' v d
  | .list ds, ⟨a, xs, e, h, r⟩ => ⟨a, xs, e, sqL_same s h, r.mono s hb⟩
  | .none, h => Rp.mono s h hb
  | .bool _, h => Rp.mono s h hb
  | .int _, h => Rp.mono s h hb
  | .str _, h => Rp.mono s h hb
  | .tuple _, h => Rp.mono s h hb
  | .dict _, h => Rp.mono s h hb
theorem RpC.dp {K : PySem.W.Frag} {H : Hp} {B : Addr → Prop} {v : V} : ∀ {d : D}, RpC K H B v d → Dp K H v d
  | .list ds, ⟨a, xs, e, h, r⟩ => by subst e; exact .lst h (Rp.dpAll ds _ r)
  | .none, h => Rp.dp _ _ h
  | .bool _, h => Rp.dp _ _ h
  | .int _, h => Rp.dp _ _ h
  | .str _, h => Rp.dp _ _ h
  | .tuple _, h => Rp.dp _ _ h
  | .dict _, h => Rp.dp _ _ h

/-! ### environments -/
/-- a slot: unbound (or unknown), a shared value, a list that the slot alone holds -/
inductive Sl where
  | un
  | sh (d : D)
  | ow (ds : List D)
abbrev Rho := List Sl
/-- what is kept through a def: the heap at its entry (H0), the addresses that callers own (B0) -/
structure ZC where
  H0 : Hp
  B0 : Addr → Prop
def OwnA (r : Rho) (σ : St) (a : Addr) : Prop := ∃ (i : Nat) (ds : List D), r[i]? = some (.ow ds) ∧ σ[i]? = some (some (.ref a))
def BB (C : ZC) (r : Rho) (σ : St) (a : Addr) : Prop := C.B0 a ∨ OwnA r σ a
structure EnvOk (K : PySem.W.Frag) (C : ZC) (H : Hp) (r : Rho) (σ : St) : Prop where
  len : r.length = σ.length
  same : Same C.H0 H
  b0 : ∀ a, C.B0 a → H a ≠ none ∧ ¬ OwnA r σ a
  sh : ∀ (i : Nat) d, r[i]? = some (.sh d) → ∃ v, σ[i]? = some (some v) ∧ Rp K H (BB C r σ) v d
  ow : ∀ (i : Nat) ds, r[i]? = some (.ow ds) → ∃ a vs, σ[i]? = some (some (.ref a)) ∧ H a = some (.lst vs) ∧ C.H0 a = none ∧ RpAll K H (BB C r σ) vs ds
  inj : ∀ (i j : Nat) ds es a, r[i]? = some (.ow ds) → r[j]? = some (.ow es) → σ[i]? = some (some (.ref a)) → σ[j]? = some (some (.ref a)) → i = j
section
variable {K : PySem.W.Frag} {C : ZC} {H H' : Hp} {r : Rho} {σ : St}
theorem EnvOk.own (E : EnvOk K C H r σ) {a : Addr} (h : OwnA r σ a) : ∃ vs, H a = some (.lst vs) ∧ C.H0 a = none := by
  obtain ⟨i, ds, h1, h2⟩ := h
  obtain ⟨b, vs, h3, h4, h5, _⟩ := E.ow i ds h1
  rw [h2] at h3
  have e : a = b := V.ref.inj (Option.some.inj (Option.some.inj h3))
  subst e
  exact ⟨vs, h4, h5⟩
theorem EnvOk.bb (E : EnvOk K C H r σ) {a : Addr} (h : BB C r σ a) : H a ≠ none := by
  rcases h with h | h
  · exact (E.b0 a h).1
  · obtain ⟨vs, e, _⟩ := E.own h
    rw [e]
    exact fun z => nomatch z
theorem EnvOk.go (E : EnvOk K C H r σ) (s : Same H H') : EnvOk K C H' r σ :=
  ⟨E.len, E.same.trans s, fun a h => ⟨fun z => (E.b0 a h).1 (s.free z), (E.b0 a h).2⟩, fun i d h => let ⟨v, e, q⟩ := E.sh i d h; ⟨v, e, q.mono s⟩,
    fun i ds h => let ⟨a, vs, e, q, z, w⟩ := E.ow i ds h; ⟨a, vs, e, s _ _ q, z, w.mono s⟩, E.inj⟩
theorem own_set {i : Nat} {s : Sl} {x : Option V} {a : Addr} (hs : ∀ ds, s = .ow ds → x ≠ some (.ref a)) (h : OwnA (r.set i s) (σ.set i x) a) : OwnA r σ a := by
  obtain ⟨j, ds, h1, h2⟩ := h
  by_cases e : i = j
  · subst e
    exfalso
    have l1 : i < r.length := by
      have := (List.getElem?_eq_some_iff.mp h1).1
      simpa using this
    rw [List.getElem?_set_self l1] at h1
    have l2 : i < σ.length := by
      have := (List.getElem?_eq_some_iff.mp h2).1
      simpa using this
    rw [List.getElem?_set_self l2] at h2
    exact hs ds (Option.some.inj h1) (Option.some.inj h2)
  · rw [List.getElem?_set_ne e] at h1 h2
    exact ⟨j, ds, h1, h2⟩
/-- a shared value is stored -/
theorem EnvOk.set_sh (E : EnvOk K C H r σ) {i : Nat} {v : V} {d : D} (q : Rp K H (BB C r σ) v d) : EnvOk K C H (r.set i (.sh d)) (σ.set i (some v)) := by
  have hb : ∀ a, BB C (r.set i (.sh d)) (σ.set i (some v)) a → BB C r σ a := fun a h => h.elim .inl fun h => .inr (own_set (fun ds e => by cases e) h)
  refine ⟨by simpa using E.len, E.same, fun a h => ⟨(E.b0 a h).1, fun z => (E.b0 a h).2 (own_set (fun ds e => by cases e) z)⟩, fun j e h => ?_, fun j ds h => ?_, fun j k ds es a h1 h2 h3 h4 => ?_⟩
  · by_cases z : i = j
    · subst z
      have l1 : i < r.length := by
        have := (List.getElem?_eq_some_iff.mp h).1
        simpa using this
      rw [List.getElem?_set_self l1] at h
      cases h
      exact ⟨v, by rw [List.getElem?_set_self (by rw [← E.len]; exact l1)], q.mono (Same.refl H) fun a z => .inl (hb a z)⟩
    · rw [List.getElem?_set_ne z] at h ⊢
      obtain ⟨w, e1, q1⟩ := E.sh j e h
      exact ⟨w, e1, q1.mono (Same.refl H) fun a z => .inl (hb a z)⟩
  · by_cases z : i = j
    · subst z
      have l1 : i < r.length := by
        have := (List.getElem?_eq_some_iff.mp h).1
        simpa using this
      rw [List.getElem?_set_self l1] at h
      cases h
    · rw [List.getElem?_set_ne z] at h ⊢
      obtain ⟨a, vs, e1, e2, e3, q1⟩ := E.ow j ds h
      exact ⟨a, vs, e1, e2, e3, q1.mono (Same.refl H) fun a z => .inl (hb a z)⟩
  · have n1 : i ≠ j := fun z => by
      subst z
      have l1 : i < r.length := by
        have := (List.getElem?_eq_some_iff.mp h1).1
        simpa using this
      rw [List.getElem?_set_self l1] at h1
      cases h1
    have n2 : i ≠ k := fun z => by
      subst z
      have l1 : i < r.length := by
        have := (List.getElem?_eq_some_iff.mp h2).1
        simpa using this
      rw [List.getElem?_set_self l1] at h2
      cases h2
    rw [List.getElem?_set_ne n1] at h1 h3
    rw [List.getElem?_set_ne n2] at h2 h4
    exact E.inj j k ds es a h1 h2 h3 h4
/-- a slot is forgotten -/
theorem EnvOk.set_un (E : EnvOk K C H r σ) {i : Nat} {x : Option V} : EnvOk K C H (r.set i .un) (σ.set i x) := by
  have hb : ∀ a, BB C (r.set i .un) (σ.set i x) a → BB C r σ a := fun a h => h.elim .inl fun h => .inr (own_set (fun ds e => by cases e) h)
  have lt : ∀ {s : Sl}, (r.set i .un)[i]? = some s → s = .un := fun {s} h => by
    have l1 : i < r.length := by
      have := (List.getElem?_eq_some_iff.mp h).1
      simpa using this
    rw [List.getElem?_set_self l1] at h
    exact (Option.some.inj h).symm
  refine ⟨by simpa using E.len, E.same, fun a h => ⟨(E.b0 a h).1, fun z => (E.b0 a h).2 (own_set (fun ds e => by cases e) z)⟩, fun j e h => ?_, fun j ds h => ?_, fun j k ds es a h1 h2 h3 h4 => ?_⟩
  · by_cases z : i = j
    · subst z; cases lt h
    · rw [List.getElem?_set_ne z] at h ⊢
      obtain ⟨w, e1, q1⟩ := E.sh j e h
      exact ⟨w, e1, q1.mono (Same.refl H) fun a z => .inl (hb a z)⟩
  · by_cases z : i = j
    · subst z; cases lt h
    · rw [List.getElem?_set_ne z] at h ⊢
      obtain ⟨a, vs, e1, e2, e3, q1⟩ := E.ow j ds h
      exact ⟨a, vs, e1, e2, e3, q1.mono (Same.refl H) fun a z => .inl (hb a z)⟩
  · have n1 : i ≠ j := fun z => by subst z; cases lt h1
    have n2 : i ≠ k := fun z => by subst z; cases lt h2
    rw [List.getElem?_set_ne n1] at h1 h3
    rw [List.getElem?_set_ne n2] at h2 h4
    exact E.inj j k ds es a h1 h2 h3 h4
/-- a new list is stored and owned: p is new since Hs, where the environment stood -/
theorem EnvOk.set_ow (E : EnvOk K C H r σ) {i : Nat} {p : Addr} {vs : List V} {ds : List D} (np : H p = none) (s : Same H H') (hp : H' p = some (.lst vs)) (q : RpAll K H' (fun a => BB C r σ a ∨ a = p) vs ds) (hi : i < r.length) :
    EnvOk K C H' (r.set i (.ow ds)) (σ.set i (some (.ref p))) := by
  have hi2 : i < σ.length := by rw [← E.len]; exact hi
  have hb : ∀ a, BB C (r.set i (.ow ds)) (σ.set i (some (.ref p))) a → BB C r σ a ∨ a = p := fun a h => by
    by_cases e : a = p
    · exact .inr e
    · exact .inl (h.elim .inl fun h => .inr (own_set (fun ds _ z => e (V.ref.inj (Option.some.inj z)).symm) h))
  have hb2 : ∀ a, BB C (r.set i (.ow ds)) (σ.set i (some (.ref p))) a → BB C r σ a ∨ H a = none := fun a h => (hb a h).elim .inl fun e => .inr (by rw [e]; exact np)
  have notp : ∀ {j : Nat} {es : List D}, r[j]? = some (.ow es) → σ[j]? ≠ some (some (.ref p)) := fun {j es} h1 h2 => by
    obtain ⟨vs, e, _⟩ := E.own ⟨j, es, h1, h2⟩
    rw [np] at e
    cases e
  refine ⟨by simpa using E.len, E.same.trans s, fun a h => ⟨fun z => (E.b0 a h).1 (s.free z), fun z => ?_⟩, fun j e h => ?_, fun j es h => ?_, fun j k es fs a h1 h2 h3 h4 => ?_⟩
  · by_cases e : a = p
    · subst e
      exact (E.b0 a h).1 np
    · exact (E.b0 a h).2 (own_set (fun ds _ z => e (V.ref.inj (Option.some.inj z)).symm) z)
  · by_cases z : i = j
    · subst z
      rw [List.getElem?_set_self hi] at h
      cases h
    · rw [List.getElem?_set_ne z] at h ⊢
      obtain ⟨w, e1, q1⟩ := E.sh j e h
      exact ⟨w, e1, q1.mono s hb2⟩
  · by_cases z : i = j
    · subst z
      rw [List.getElem?_set_self hi] at h
      cases h
      exact ⟨p, vs, by rw [List.getElem?_set_self hi2], hp, E.same.free np, q.mono (Same.refl _) fun a z => .inl (hb a z)⟩
    · rw [List.getElem?_set_ne z] at h ⊢
      obtain ⟨a, vs, e1, e2, e3, q1⟩ := E.ow j es h
      exact ⟨a, vs, e1, s _ _ e2, e3, q1.mono s hb2⟩
  · by_cases z1 : i = j
    · subst z1
      by_cases z2 : i = k
      · exact z2
      · rw [List.getElem?_set_self hi2] at h3
        have ea : p = a := V.ref.inj (Option.some.inj (Option.some.inj h3))
        subst ea
        rw [List.getElem?_set_ne z2] at h2 h4
        exact absurd h4 (notp h2)
    · by_cases z2 : i = k
      · subst z2
        rw [List.getElem?_set_self hi2] at h4
        have ea : p = a := V.ref.inj (Option.some.inj (Option.some.inj h4))
        subst ea
        rw [List.getElem?_set_ne z1] at h1 h3
        exact absurd h3 (notp h1)
      · rw [List.getElem?_set_ne z1] at h1 h3
        rw [List.getElem?_set_ne z2] at h2 h4
        exact E.inj j k es fs a h1 h2 h3 h4
/-- an owned list is changed -/
theorem EnvOk.upd_ow (E : EnvOk K C H r σ) {i : Nat} {a : Addr} {ds es : List D} {vs : List V} (hi : r[i]? = some (.ow ds)) (ha : σ[i]? = some (some (.ref a))) (q : RpAll K H (BB C r σ) vs es) :
    EnvOk K C (upd H a (.lst vs)) (r.set i (.ow es)) σ := by
  have hil : i < r.length := (List.getElem?_eq_some_iff.mp hi).1
  obtain ⟨vs0, ea, e0⟩ := E.own ⟨i, ds, hi, ha⟩
  have own : BB C r σ a := .inr ⟨i, ds, hi, ha⟩
  have oeq : ∀ b, OwnA (r.set i (.ow es)) σ b → OwnA r σ b := fun b h => by
    obtain ⟨j, fs, h1, h2⟩ := h
    by_cases z : i = j
    · subst z; exact ⟨i, ds, hi, h2⟩
    · rw [List.getElem?_set_ne z] at h1; exact ⟨j, fs, h1, h2⟩
  have bb : ∀ b, BB C (r.set i (.ow es)) σ b → BB C r σ b := fun b h => h.elim .inl fun h => .inr (oeq b h)
  have S : Step K H (upd H a (.lst vs)) (BB C r σ) (BB C (r.set i (.ow es)) σ) := by
    refine ⟨fun b xs rd nb => ⟨?_, fun z => nb (bb b z)⟩, fun b xs t => ?_⟩
    · have ne : b ≠ a := fun z => nb (by rw [z]; exact own)
      rcases rd with rd | ⟨o, rd⟩
      · exact .inl (by rw [upd_ne ne]; exact rd)
      · exact .inr ⟨o, by rw [upd_ne ne]; exact rd⟩
    · rcases t with t | t
      · rcases t with t | ⟨o, t⟩
        · have ne : b ≠ a := fun z => by rw [z, ea] at t; cases t
          exact .inl (.inl (by rw [upd_ne ne]; exact t))
        · have ne : b ≠ a := fun z => by rw [z, ea] at t; cases t
          exact .inl (.inr ⟨o, by rw [upd_ne ne]; exact t⟩)
      · exact .inr t
  refine ⟨by simpa using E.len, fun b o h => ?_, fun b h => ⟨?_, fun z => (E.b0 b h).2 (oeq b z)⟩, fun j e h => ?_, fun j fs h => ?_, fun j k fs gs b h1 h2 h3 h4 => ?_⟩
  · have ne : b ≠ a := fun z => by rw [z, e0] at h; cases h
    rw [upd_ne ne]
    exact E.same _ _ h
  · have ne : b ≠ a := fun z => (E.b0 b h).2 (by rw [z]; exact ⟨i, ds, hi, ha⟩)
    rw [upd_ne ne]
    exact (E.b0 b h).1
  · by_cases z : i = j
    · subst z
      rw [List.getElem?_set_self hil] at h
      cases h
    · rw [List.getElem?_set_ne z] at h
      obtain ⟨w, e1, q1⟩ := E.sh j e h
      exact ⟨w, e1, Rp.step S _ _ q1⟩
  · by_cases z : i = j
    · subst z
      rw [List.getElem?_set_self hil] at h
      cases h
      exact ⟨a, vs, ha, upd_same, e0, Rp.stepAll S _ _ q⟩
    · rw [List.getElem?_set_ne z] at h
      obtain ⟨b, ws, e1, e2, e3, q1⟩ := E.ow j fs h
      have ne : b ≠ a := fun y => by
        subst y
        exact z (E.inj i j ds fs b hi h ha e1)
      exact ⟨b, ws, e1, by rw [upd_ne ne]; exact e2, e3, Rp.stepAll S _ _ q1⟩
  · have f1 : ∃ fs', r[j]? = some (.ow fs') := by
      by_cases z : i = j
      · subst z; exact ⟨_, hi⟩
      · rw [List.getElem?_set_ne z] at h1; exact ⟨_, h1⟩
    have f2 : ∃ fs', r[k]? = some (.ow fs') := by
      by_cases z : i = k
      · subst z; exact ⟨_, hi⟩
      · rw [List.getElem?_set_ne z] at h2; exact ⟨_, h2⟩
    obtain ⟨fs', f1⟩ := f1
    obtain ⟨gs', f2⟩ := f2
    exact E.inj j k fs' gs' b f1 f2 h3 h4
/-- an owned list is let go: from here on it is a shared value -/
theorem EnvOk.rel (E : EnvOk K C H r σ) {i : Nat} {ds : List D} (hi : r[i]? = some (.ow ds)) : EnvOk K C H (r.set i (.sh (.list ds))) σ := by
  have hil : i < r.length := (List.getElem?_eq_some_iff.mp hi).1
  obtain ⟨a, vs, ha, hH, h0, q⟩ := E.ow i ds hi
  have oeq : ∀ b, OwnA (r.set i (.sh (.list ds))) σ b → OwnA r σ b := fun b h => by
    obtain ⟨j, fs, h1, h2⟩ := h
    by_cases z : i = j
    · subst z
      rw [List.getElem?_set_self hil] at h1
      cases h1
    · rw [List.getElem?_set_ne z] at h1; exact ⟨j, fs, h1, h2⟩
  have bb : ∀ b, BB C (r.set i (.sh (.list ds))) σ b → BB C r σ b ∨ H b = none := fun b h => h.elim (fun z => .inl (.inl z)) fun h => .inl (.inr (oeq b h))
  have na : ¬ BB C (r.set i (.sh (.list ds))) σ a := fun h => by
    rcases h with h | ⟨j, fs, h1, h2⟩
    · exact (E.b0 a h).2 ⟨i, ds, hi, ha⟩
    · by_cases z : i = j
      · subst z
        rw [List.getElem?_set_self hil] at h1
        cases h1
      · rw [List.getElem?_set_ne z] at h1
        exact z (E.inj i j ds fs a hi h1 ha h2)
  refine ⟨by simpa using E.len, E.same, fun b h => ⟨(E.b0 b h).1, fun z => (E.b0 b h).2 (oeq b z)⟩, fun j e h => ?_, fun j fs h => ?_, fun j k fs gs b h1 h2 h3 h4 => ?_⟩
  · by_cases z : i = j
    · subst z
      rw [List.getElem?_set_self hil] at h
      cases h
      exact ⟨_, ha, .lst (.mk (.inl hH) na) (q.mono (Same.refl H) bb)⟩
    · rw [List.getElem?_set_ne z] at h
      obtain ⟨w, e1, q1⟩ := E.sh j e h
      exact ⟨w, e1, q1.mono (Same.refl H) bb⟩
  · by_cases z : i = j
    · subst z
      rw [List.getElem?_set_self hil] at h
      cases h
    · rw [List.getElem?_set_ne z] at h
      obtain ⟨b, ws, e1, e2, e3, q1⟩ := E.ow j fs h
      exact ⟨b, ws, e1, e2, e3, q1.mono (Same.refl H) bb⟩
  · have n1 : i ≠ j := fun z => by
      subst z
      rw [List.getElem?_set_self hil] at h1
      cases h1
    have n2 : i ≠ k := fun z => by
      subst z
      rw [List.getElem?_set_self hil] at h2
      cases h2
    rw [List.getElem?_set_ne n1] at h1
    rw [List.getElem?_set_ne n2] at h2
    exact E.inj j k fs gs b h1 h2 h3 h4

/-! ### the ground of a loop: what is not owned at its start stays through it -/
open Classical in
noncomputable def ground (H : Hp) (r : Rho) (σ : St) : Hp := fun a => if OwnA r σ a then none else H a
theorem ground_some {a : Addr} {o : HO} (h : ground H r σ a = some o) : H a = some o ∧ ¬ OwnA r σ a := by
  unfold ground at h
  split at h
  · cases h
  · exact ⟨h, by assumption⟩
theorem ground_of {a : Addr} (h : ¬ OwnA r σ a) : ground H r σ a = H a := by
  unfold ground
  rw [if_neg h]
theorem ground_own {a : Addr} (h : OwnA r σ a) : ground H r σ a = none := by
  unfold ground
  rw [if_pos h]
theorem ground_same : Same (ground H r σ) H := fun a o h => (ground_some h).1
noncomputable abbrev ZC.at (C : ZC) (H : Hp) (r : Rho) (σ : St) : ZC := ⟨ground H r σ, C.B0⟩
theorem bb_at {H1 : Hp} {r1 : Rho} {σ1 : St} {a : Addr} : BB (C.at H1 r1 σ1) r σ a ↔ BB C r σ a := Iff.rfl
theorem EnvOk.toAt (E : EnvOk K C H r σ) : EnvOk K (C.at H r σ) H r σ := by
  refine ⟨E.len, ground_same, E.b0, E.sh, fun i ds h => ?_, E.inj⟩
  obtain ⟨a, vs, e1, e2, e3, q⟩ := E.ow i ds h
  exact ⟨a, vs, e1, e2, ground_own ⟨i, ds, h, e1⟩, q⟩
theorem EnvOk.ofAt (E : EnvOk K C H r σ) {H' : Hp} {r' : Rho} {σ' : St} (F : EnvOk K (C.at H r σ) H' r' σ') : EnvOk K C H' r' σ' := by
  have up : Same C.H0 (ground H r σ) := fun a o h => by
    have n : ¬ OwnA r σ a := fun z => by
      rw [(E.own z).choose_spec.2] at h
      cases h
    rw [ground_of n]
    exact E.same _ _ h
  refine ⟨F.len, up.trans F.same, F.b0, F.sh, fun i ds h => ?_, F.inj⟩
  obtain ⟨a, vs, e1, e2, e3, q⟩ := F.ow i ds h
  refine ⟨a, vs, e1, e2, ?_, q⟩
  exact up.free e3
theorem Rp.toAt (E : EnvOk K C H r σ) {v : V} {d : D} (q : Rp K H (BB C r σ) v d) : Rp K (ground H r σ) C.B0 v d := by
  refine Rp.step ⟨fun a xs rd nb => ⟨?_, fun z => nb (.inl z)⟩, fun a xs t => ?_⟩ d v q
  · have n : ¬ OwnA r σ a := fun z => nb (.inr z)
    unfold Rd
    rw [ground_of n]
    exact rd
  · rcases t with t | t
    · have n : ¬ OwnA r σ a := fun z => by
        obtain ⟨vs, e, _⟩ := E.own z
        rcases t with t | ⟨o, t⟩ <;> (rw [e] at t; cases t)
      refine .inl ?_
      unfold Rd
      rw [ground_of n]
      exact t
    · exact .inr t
theorem RpAll.toAt (E : EnvOk K C H r σ) : ∀ {vs : List V} {ds : List D}, RpAll K H (BB C r σ) vs ds → RpAll K (ground H r σ) C.B0 vs ds
  | _, _, .nil => .nil
  | _, _, .cons q t => .cons (Rp.toAt E q) (RpAll.toAt E t)
/-- a value of the entry stands at every later state -/
theorem EnvOk.up (E : EnvOk K C H r σ) {v : V} {d : D} (q : Rp K C.H0 C.B0 v d) : Rp K H (BB C r σ) v d :=
  q.mono E.same fun a z => z.elim .inl fun z => .inr (E.own z).choose_spec.2
theorem EnvOk.upAll (E : EnvOk K C H r σ) {vs : List V} {ds : List D} (q : RpAll K C.H0 C.B0 vs ds) : RpAll K H (BB C r σ) vs ds :=
  q.mono E.same fun a z => z.elim .inl fun z => .inr (E.own z).choose_spec.2
end
end Z


set_option Elab.async false
set_option linter.all false
set_option maxRecDepth 100000
set_option maxHeartbeats 4000000
namespace Z
open PySem PySem.Spec PyProof.Rows L2

theorem PE.imp {X : Cx} {e : Expr} {t t' : TE} (h : PE X e t) (i : ∀ σ H Q, t' σ H Q → t σ H Q) : PE X e t' := ⟨fun pins s σ H Q I q => h.run pins s σ H Q I (i σ H Q q)⟩
theorem PT.imp {X : Cx} {e : Expr} {t t' : TT} (h : PT X e t) (i : ∀ σ H Q, t' σ H Q → t σ H Q) : PT X e t' := ⟨fun pins s σ H Q I q => h.run pins s σ H Q I (i σ H Q q)⟩
theorem PW.imp {X : Cx} {e : Expr} {t t' : TT} (h : PW X e t) (i : ∀ σ H Q, t' σ H Q → t σ H Q) : PW X e t' := ⟨fun wh pins s σ H Q I q => h.run wh pins s σ H Q I (i σ H Q q)⟩
theorem PA.imp {X : Cx} {e : List Expr} {t t' : TA} (h : PA X e t) (i : ∀ σ H Q, t' σ H Q → t σ H Q) : PA X e t' := ⟨fun pos pins s σ H Q I q => h.run pos pins s σ H Q I (i σ H Q q)⟩
theorem PS.imp {X : Cx} {e : Stmt} {t t' : TS} (h : PS X e t) (i : ∀ D σ H, t' D σ H → t D σ H) : PS X e t' := ⟨fun pins s σ H D I q => h.run pins s σ H D I (i D σ H q)⟩
theorem PSs.imp {X : Cx} {e : List Stmt} {t t' : TS} (h : PSs X e t) (i : ∀ D σ H, t' D σ H → t D σ H) : PSs X e t' := ⟨fun pins s σ H D I q => h.run pins s σ H D I (i D σ H q)⟩

/-- the ambient facts of a context -/
structure Amb (X : Cx) (W : WX) (k : Nat) : Prop where
  calm : X.calm = true
  nd : X.N.Nodup
  po : PassesOwn (model X.prog X.w) X.A X.env X.xe
  tk : Takes X W
  hr : Room k X.A
theorem Amb.u65 {X : Cx} {W : WX} {k : Nat} (A : Amb X W k) : X.A.units + 65 < cLine := by have := A.hr.un; omega
theorem Amb.u64 {X : Cx} {W : WX} {k : Nat} (A : Amb X W k) : X.A.units + 64 < cLine := by have := A.hr.un; omega
theorem Amb.u1 {X : Cx} {W : WX} {k : Nat} (A : Amb X W k) : X.A.units + 1 < cLine := by have := A.hr.un; omega
theorem Amb.u0 {X : Cx} {W : WX} {k : Nat} (A : Amb X W k) : X.A.units < cLine := by have := A.hr.un; omega

/-! ### what is wanted of a result -/
def pst (cm : Nat → Addr) (W : WX) (σ : St) (H : Hp) {α : Type} (x : R α) (p : α → Prop) : Prop := match x with
  | .ok a => p a
  | .ex k => ∀ H', Same H H' → W (.ref (cm k)) none σ H'
  | .no => False
section
variable {cm : Nat → Addr} {W : WX} {σ : St} {H H' : Hp} {α β : Type}
theorem pst_bind {x : R α} {g : α → R β} {p : β → Prop} (h : pst cm W σ H (x.bind g) p) : pst cm W σ H x fun a => pst cm W σ H (g a) p := by
  cases x with
  | ok a => exact h
  | ex k => exact h
  | no => exact h
theorem pst_imp {x : R α} {p p' : α → Prop} (h : pst cm W σ H x p) (i : ∀ a, p a → p' a) : pst cm W σ H x p' := by
  cases x with
  | ok a => exact i a h
  | ex k => exact h
  | no => exact h
theorem pst_go {x : R α} {p : α → Prop} (h : pst cm W σ H x p) (s : Same H H') : pst cm W σ H' x p := by
  cases x with
  | ok a => exact h
  | ex k => exact fun H2 s2 => h H2 (s.trans s2)
  | no => exact h
end

def NB (B : Addr → Prop) (H : Hp) : Prop := ∀ a, B a → H a ≠ none
theorem NB.go {B : Addr → Prop} {H H' : Hp} (h : NB B H) (s : Same H H') : NB B H' := fun a b e => h a b (s.free e)
theorem EnvOk.nb {K : PySem.W.Frag} {C : ZC} {H : Hp} {r : Rho} {σ : St} (E : EnvOk K C H r σ) : NB (BB C r σ) H := fun _ h => E.bb h
def Res (K : PySem.W.Frag) (cm : Nat → Addr) (W : WX) (σ : St) (B : Addr → Prop) (H : Hp) (x : R D) (Q : VK) : Prop := pst cm W σ H x fun d => ∀ v H', Same H H' → Rp K H' B v d → Q v H'
def ResC (K : PySem.W.Frag) (cm : Nat → Addr) (W : WX) (σ : St) (B : Addr → Prop) (H : Hp) (x : R D) (Q : VK) : Prop := pst cm W σ H x fun d => ∀ v H', Same H H' → RpC K H' B v d → Q v H'
def ResF (K : PySem.W.Frag) (cm : Nat → Addr) (W : WX) (σ : St) (B : Addr → Prop) (H : Hp) (x : R (List D)) (Q : VK) : Prop := pst cm W σ H x fun ds => ∀ p vs H', Same H H' → H p = none → H' p = some (.lst vs) → RpAll K H' (fun a => B a ∨ a = p) vs ds → Q (.ref p) H'
def ResA (K : PySem.W.Frag) (cm : Nat → Addr) (W : WX) (σ : St) (B : Addr → Prop) (H : Hp) (x : R (List D)) (Q : List V → Hp → Prop) : Prop := pst cm W σ H x fun ds => ∀ vs H', Same H H' → RpAll K H' B vs ds → Q vs H'
def ResT (cm : Nat → Addr) (W : WX) (σ : St) (H : Hp) (x : R Bool) (Q : Bool → Hp → Prop) : Prop := pst cm W σ H x fun b => ∀ H', Same H H' → Q b H'
def tE (K : PySem.W.Frag) (cm : Nat → Addr) (W : WX) (f : Rho → R D) : TE := fun σ H Q => ∃ C r, EnvOk K C H r σ ∧ Res K cm W σ (BB C r σ) H (f r) Q
def tC (K : PySem.W.Frag) (cm : Nat → Addr) (W : WX) (f : Rho → R D) : TE := fun σ H Q => ∃ C r, EnvOk K C H r σ ∧ ResC K cm W σ (BB C r σ) H (f r) Q
def tF (K : PySem.W.Frag) (cm : Nat → Addr) (W : WX) (f : Rho → R (List D)) : TE := fun σ H Q => ∃ C r, EnvOk K C H r σ ∧ ResF K cm W σ (BB C r σ) H (f r) Q
def tA (K : PySem.W.Frag) (cm : Nat → Addr) (W : WX) (f : Rho → R (List D)) : TA := fun σ H Q => ∃ C r, EnvOk K C H r σ ∧ ResA K cm W σ (BB C r σ) H (f r) Q
def tT (K : PySem.W.Frag) (cm : Nat → Addr) (W : WX) (f : Rho → R Bool) : TT := fun σ H Q => ∃ C r, EnvOk K C H r σ ∧ ResT cm W σ H (f r) Q

abbrev ZE (X : Cx) (cm : Nat → Addr) (W : WX) (e : Expr) (f : Rho → R D) : Prop := PE X e (tE X.K cm W f)
abbrev ZK (X : Cx) (cm : Nat → Addr) (W : WX) (e : Expr) (f : Rho → R D) : Prop := PE X e (tC X.K cm W f)
abbrev ZF (X : Cx) (cm : Nat → Addr) (W : WX) (e : Expr) (f : Rho → R (List D)) : Prop := PE X e (tF X.K cm W f)
abbrev ZA (X : Cx) (cm : Nat → Addr) (W : WX) (es : List Expr) (f : Rho → R (List D)) : Prop := PA X es (tA X.K cm W f)
abbrev ZT (X : Cx) (cm : Nat → Addr) (W : WX) (e : Expr) (f : Rho → R Bool) : Prop := PT X e (tT X.K cm W f)
abbrev ZW (X : Cx) (cm : Nat → Addr) (W : WX) (e : Expr) (f : Rho → R Bool) : Prop := PW X e (tT X.K cm W f)

/-! ### combinators -/
def cK (d : D) : Rho → R D := fun _ => .ok d
def cVar (i : Nat) : Rho → R D := fun r => match r[i]? with
  | some (.sh d) => .ok d
  | _ => .no
def cVarC (i : Nat) : Rho → R D := fun r => match r[i]? with
  | some (.sh d) => .ok d
  | some (.ow ds) => .ok (.list ds)
  | _ => .no
def cB1 (F : D → R D) (f : Rho → R D) : Rho → R D := fun r => (f r).bind F
def cB2 (F : D → D → R D) (f g : Rho → R D) : Rho → R D := fun r => (f r).bind fun x => (g r).bind fun y => F x y
def cB3 (F : D → D → D → R D) (f g h : Rho → R D) : Rho → R D := fun r => (f r).bind fun x => (g r).bind fun y => (h r).bind fun z => F x y z
def cT1 (F : D → R Bool) (f : Rho → R D) : Rho → R Bool := fun r => (f r).bind F
def cT2 (F : D → D → R Bool) (f g : Rho → R D) : Rho → R Bool := fun r => (f r).bind fun x => (g r).bind fun y => F x y
def cBl (f : Rho → R Bool) : Rho → R D := fun r => (f r).bind fun b => .ok (.bool b)
def cL (f : Rho → R (List D)) : Rho → R D := fun r => (f r).bind fun ds => .ok (.list ds)
def cNil : Rho → R (List D) := fun _ => .ok []
def cCons (f : Rho → R D) (g : Rho → R (List D)) : Rho → R (List D) := fun r => (f r).bind fun x => (g r).bind fun xs => .ok (x :: xs)
def sizeD (ds : List D) : R (List D) := if ds.length ≤ sizeLine then .ok ds else .no
def cTup (f : Rho → R (List D)) : Rho → R D := fun r => (f r).bind fun ds => (sizeD ds).bind fun ds => .ok (.tuple ds)
def cLst (f : Rho → R (List D)) : Rho → R (List D) := fun r => (f r).bind fun ds => sizeD ds
def cIf (t : Rho → R Bool) (f g : Rho → R D) : Rho → R D := fun r => (t r).bind fun b => if b then f r else g r
def cNot (t : Rho → R Bool) : Rho → R Bool := fun r => (t r).bind fun b => .ok (!b)
def cAnd (t u : Rho → R Bool) : Rho → R Bool := fun r => (t r).bind fun b => if b then u r else .ok false
def cOr (t u : Rho → R Bool) : Rho → R Bool := fun r => (t r).bind fun b => if b then .ok true else u r
def boolD : D → R Bool
  | .bool b => .ok b
  | _ => .no
def cAndV (f g : Rho → R D) : Rho → R D := fun r => (f r).bind fun x => (boolD x).bind fun b => if b then g r else .ok (.bool false)
def cOrV (f g : Rho → R D) : Rho → R D := fun r => (f r).bind fun x => (boolD x).bind fun b => if b then .ok (.bool true) else g r

section
variable {X : Cx} {cm : Nat → Addr} {W : WX} {k : Nat} {e a b c : Expr} {f g h : Rho → R D} {pos : Pos}

/-! ### general steps -/
theorem then1 {K : PySem.W.Frag} {F : D → R D} {kk : V → Hp → VK → Prop} (hk : ∀ σ H B x d Q, NB B H → RpC K H B x d → Res K cm W σ B H (F d) Q → kk x H Q) :
    ∀ σ H Q, tE K cm W (cB1 F f) σ H Q → tC K cm W f σ H fun x H1 => kk x H1 Q := fun σ H Q ⟨C, r, E, q⟩ =>
  ⟨C, r, E, pst_imp (pst_bind q) fun d q v H1 s1 r1 => hk σ H1 _ v d Q (E.nb.go s1) r1 (pst_imp (pst_go q s1) fun _ q v2 H2 s2 => q v2 H2 (s1.trans s2))⟩
theorem then1V {K : PySem.W.Frag} {F : D → R D} {kk : V → Hp → VK → Prop} (hk : ∀ σ H B x d Q, NB B H → Rp K H B x d → Res K cm W σ B H (F d) Q → kk x H Q) :
    ∀ σ H Q, tE K cm W (cB1 F f) σ H Q → tE K cm W f σ H fun x H1 => kk x H1 Q := fun σ H Q ⟨C, r, E, q⟩ =>
  ⟨C, r, E, pst_imp (pst_bind q) fun d q v H1 s1 r1 => hk σ H1 _ v d Q (E.nb.go s1) r1 (pst_imp (pst_go q s1) fun _ q v2 H2 s2 => q v2 H2 (s1.trans s2))⟩
theorem then1F {K : PySem.W.Frag} {F : D → R (List D)} {kk : V → Hp → VK → Prop} (hk : ∀ σ H B x d Q, NB B H → RpC K H B x d → ResF K cm W σ B H (F d) Q → kk x H Q) :
    ∀ σ H Q, tF K cm W (fun r => (f r).bind F) σ H Q → tC K cm W f σ H fun x H1 => kk x H1 Q := fun σ H Q ⟨C, r, E, q⟩ =>
  ⟨C, r, E, pst_imp (pst_bind q) fun d q v H1 s1 r1 => hk σ H1 _ v d Q (E.nb.go s1) r1 (pst_imp (pst_go q s1) fun _ q p vs H2 s2 np => q p vs H2 (s1.trans s2) (s1.free np))⟩
theorem then1T {K : PySem.W.Frag} {F : D → R Bool} {kk : V → Hp → (Bool → Hp → Prop) → Prop} (hk : ∀ σ H B x d Q, NB B H → RpC K H B x d → ResT cm W σ H (F d) Q → kk x H Q) :
    ∀ σ H Q, tT K cm W (cT1 F f) σ H Q → tC K cm W f σ H fun x H1 => kk x H1 Q := fun σ H Q ⟨C, r, E, q⟩ =>
  ⟨C, r, E, pst_imp (pst_bind q) fun d q v H1 s1 r1 => hk σ H1 _ v d Q (E.nb.go s1) r1 (pst_imp (pst_go q s1) fun _ q H2 s2 => q H2 (s1.trans s2))⟩
theorem then2 {K : PySem.W.Frag} {F : D → D → R D} {kk : V → V → Hp → VK → Prop} (hk : ∀ σ H B x y d e Q, NB B H → RpC K H B x d → RpC K H B y e → Res K cm W σ B H (F d e) Q → kk x y H Q) :
    ∀ σ H Q, tE K cm W (cB2 F f g) σ H Q → tC K cm W f σ H fun x H1 => tC K cm W g σ H1 fun y H2 => kk x y H2 Q := fun σ H Q ⟨C, r, E, q⟩ =>
  ⟨C, r, E, pst_imp (pst_bind q) fun d q v H1 s1 r1 => ⟨C, r, E.go s1, pst_imp (pst_bind (pst_go q s1)) fun e q w H2 s2 r2 =>
    hk σ H2 _ v w d e Q (E.nb.go (s1.trans s2)) (r1.mono s2 (fun _ z => .inl z)) r2 (pst_imp (pst_go q s2) fun _ q v2 H3 s3 => q v2 H3 ((s1.trans s2).trans s3))⟩⟩
theorem then2F {K : PySem.W.Frag} {F : D → D → R (List D)} {kk : V → V → Hp → VK → Prop} (hk : ∀ σ H B x y d e Q, NB B H → RpC K H B x d → RpC K H B y e → ResF K cm W σ B H (F d e) Q → kk x y H Q) :
    ∀ σ H Q, tF K cm W (fun r => (f r).bind fun x => (g r).bind fun y => F x y) σ H Q → tC K cm W f σ H fun x H1 => tC K cm W g σ H1 fun y H2 => kk x y H2 Q := fun σ H Q ⟨C, r, E, q⟩ =>
  ⟨C, r, E, pst_imp (pst_bind q) fun d q v H1 s1 r1 => ⟨C, r, E.go s1, pst_imp (pst_bind (pst_go q s1)) fun e q w H2 s2 r2 =>
    hk σ H2 _ v w d e Q (E.nb.go (s1.trans s2)) (r1.mono s2 (fun _ z => .inl z)) r2 (pst_imp (pst_go q s2) fun _ q p vs H3 s3 np => q p vs H3 ((s1.trans s2).trans s3) ((s1.trans s2).free np))⟩⟩
theorem then2T {K : PySem.W.Frag} {F : D → D → R Bool} {kk : V → V → Hp → (Bool → Hp → Prop) → Prop} (hk : ∀ σ H B x y d e Q, NB B H → RpC K H B x d → RpC K H B y e → ResT cm W σ H (F d e) Q → kk x y H Q) :
    ∀ σ H Q, tT K cm W (cT2 F f g) σ H Q → tC K cm W f σ H fun x H1 => tC K cm W g σ H1 fun y H2 => kk x y H2 Q := fun σ H Q ⟨C, r, E, q⟩ =>
  ⟨C, r, E, pst_imp (pst_bind q) fun d q v H1 s1 r1 => ⟨C, r, E.go s1, pst_imp (pst_bind (pst_go q s1)) fun e q w H2 s2 r2 =>
    hk σ H2 _ v w d e Q (E.nb.go (s1.trans s2)) (r1.mono s2 (fun _ z => .inl z)) r2 (pst_imp (pst_go q s2) fun _ q H3 s3 => q H3 ((s1.trans s2).trans s3))⟩⟩
theorem Res.ok {K : PySem.W.Frag} {σ : St} {B : Addr → Prop} {H : Hp} {d : D} {Q : VK} (h : Res K cm W σ B H (.ok d) Q) {v : V} (r : Rp K H B v d) : Q v H := h v H (Same.refl H) r
theorem same_upd {H : Hp} {p : Addr} {o : HO} (h : H p = none) : Same H (upd H p o) := fun b x e => by
  rw [upd_ne (ne_of_none e h)]
  exact e
theorem Res.tup {K : PySem.W.Frag} {σ : St} {B : Addr → Prop} {H : Hp} {ds : List D} {Q : VK} (h : Res K cm W σ B H (.ok (.tuple ds)) Q) {vs : List V} (r : RpAll K H B vs ds) {p : Addr} (hp : H p = none) : Q (.ref p) (upd H p (.tup vs)) :=
  h (.ref p) _ (same_upd hp) (.tup (.inl (.inl upd_same)) (r.mono (same_upd hp)))
theorem Res.lst {K : PySem.W.Frag} {σ : St} {B : Addr → Prop} {H : Hp} {ds : List D} {Q : VK} (hb : NB B H) (h : Res K cm W σ B H (.ok (.list ds)) Q) {vs : List V} (r : RpAll K H B vs ds) {p : Addr} (hp : H p = none) : Q (.ref p) (upd H p (.lst vs)) :=
  h (.ref p) _ (same_upd hp) (.lst (.mk (.inl upd_same) (fun z => hb p z hp)) (r.mono (same_upd hp)))
theorem ResF.lst {K : PySem.W.Frag} {σ : St} {B : Addr → Prop} {H : Hp} {ds : List D} {Q : VK} (h : ResF K cm W σ B H (.ok ds) Q) {vs : List V} (r : RpAll K H B vs ds) {p : Addr} (hp : H p = none) : Q (.ref p) (upd H p (.lst vs)) :=
  h p vs _ (same_upd hp) hp upd_same (r.mono (same_upd hp) fun a z => z.elim .inl fun e => .inr (by rw [e]; exact hp))

/-! ### coercions -/
theorem ze_k (h : ZE X cm W e f) : ZK X cm W e f := PE.imp h fun σ H Q ⟨C, r, E, q⟩ => ⟨C, r, E, pst_imp q fun d q v H1 s1 r1 => q v H1 s1 r1.c⟩
theorem zf_e {f : Rho → R (List D)} (h : ZF X cm W e f) : ZE X cm W e (cL f) := PE.imp h fun σ H Q ⟨C, r, E, q⟩ => ⟨C, r, E, pst_imp (pst_bind q) fun ds q p vs H1 s1 np hp rp =>
  q (.ref p) H1 s1 (.lst (.mk (.inl hp) (fun z => E.bb z np)) (rp.mono (Same.refl _) fun a z => .inl (.inl z)))⟩
theorem zf_k {f : Rho → R (List D)} (h : ZF X cm W e f) : ZK X cm W e (cL f) := ze_k (zf_e h)

/-! ### names and constants -/
theorem ze_var (i : Nat) {x : Str} (hN : X.N[i]? = some x := by rfl) (hv : Vis X.env.scope x := by first | exact Or.inl rfl | exact Or.inr (Or.inl rfl) | exact Or.inr (Or.inr rfl)) (hd : (x == ("__debug__" : Str)) = false := by decide) (hcd : (x == ("__classdict__" : Str)) = false := by decide) :
    ZE X cm W (.Name x pos) (cVar i) := PE.imp (pe_var hN hv hd hcd) fun σ H Q ⟨C, r, E, q⟩ => by
  have q' : pst cm W σ H (cVar i r) fun d => ∀ v H', Same H H' → Rp X.K H' (BB C r σ) v d → Q v H' := q
  unfold cVar at q'
  cases hr : r[i]? with
  | none => rw [hr] at q'; exact q'.elim
  | some s =>
    rw [hr] at q'
    cases s with
    | un => exact q'.elim
    | ow ds => exact q'.elim
    | sh d =>
      obtain ⟨v, e1, r1⟩ := E.sh i d hr
      exact ⟨v, e1, q' v H (Same.refl H) r1⟩
theorem zk_var (i : Nat) {x : Str} (hN : X.N[i]? = some x := by rfl) (hv : Vis X.env.scope x := by first | exact Or.inl rfl | exact Or.inr (Or.inl rfl) | exact Or.inr (Or.inr rfl)) (hd : (x == ("__debug__" : Str)) = false := by decide) (hcd : (x == ("__classdict__" : Str)) = false := by decide) :
    ZK X cm W (.Name x pos) (cVarC i) := PE.imp (pe_var hN hv hd hcd) fun σ H Q ⟨C, r, E, q⟩ => by
  have q' : pst cm W σ H (cVarC i r) fun d => ∀ v H', Same H H' → RpC X.K H' (BB C r σ) v d → Q v H' := q
  unfold cVarC at q'
  cases hr : r[i]? with
  | none => rw [hr] at q'; exact q'.elim
  | some s =>
    rw [hr] at q'
    cases s with
    | un => exact q'.elim
    | ow ds =>
      obtain ⟨a, vs, e1, e2, _, r1⟩ := E.ow i ds hr
      exact ⟨.ref a, e1, q' (.ref a) H (Same.refl H) ⟨a, vs, rfl, .inl (.inl e2), r1⟩⟩
    | sh d =>
      obtain ⟨v, e1, r1⟩ := E.sh i d hr
      exact ⟨v, e1, q' v H (Same.refl H) r1.c⟩
theorem ze_const {v : V} {d : D} (h : PE X e (L2.tC v)) (r : ∀ H B, Rp X.K H B v d) : ZE X cm W e (cK d) := PE.imp h fun σ H Q ⟨C, _, E, q⟩ => (show Res X.K cm W σ _ H (.ok d) Q from q).ok (r H _)
theorem ze_int {i j} : ZE X cm W (.Constant (.int i) j pos) (cK (.int i)) := ze_const pe_int fun _ _ => .int i
theorem ze_str {x j} : ZE X cm W (.Constant (.str x) j pos) (cK (.str x)) := ze_const pe_str fun _ _ => .str x
theorem ze_bl {x j} : ZE X cm W (.Constant (.bool x) j pos) (cK (.bool x)) := ze_const pe_bl fun _ _ => .bl x
theorem ze_non {j} : ZE X cm W (.Constant .none j pos) (cK .none) := ze_const pe_non fun _ _ => .non
/-- a module's constant -/
def GlobD (K : PySem.W.Frag) (mg : Str → Option Value) (x : Str) (d : D) : Prop := ∃ u v, mg x = some u ∧ RelV v u ∧ ∀ H B, Rp K H B v d
theorem ze_glob {x : Str} {d : D} (G : GlobD X.K X.mg x d) (hg : Gl X x := by rfl) (hd : (x == ("__debug__" : Str)) = false := by decide) : ZE X cm W (.Name x pos) (cK d) := by
  obtain ⟨u, v, hm, rv, r⟩ := G
  exact ze_const (pe_glob hg hm rv hd) r

/-! ### displays, arguments -/
theorem za_nil : ZA X cm W [] cNil := PA.imp pa_nil fun σ H Q ⟨C, r, E, q⟩ => q [] H (Same.refl H) .nil
theorem za_cons {es : List Expr} {g : Rho → R (List D)} (h1 : ZE X cm W e f) (h2 : ZA X cm W es g) (hs : starEach (e :: es) X.env = (false, eval e X.env) :: starEach es X.env := by rfl) : ZA X cm W (e :: es) (cCons f g) :=
  PA.imp (pa_cons h1 h2 hs) fun σ H Q ⟨C, r, E, q⟩ => ⟨C, r, E, pst_imp (pst_bind q) fun d q v H1 s1 r1 => ⟨C, r, E.go s1, pst_imp (pst_bind (pst_go q s1)) fun ds q vs H2 s2 r2 =>
    q (v :: vs) H2 (s1.trans s2) (.cons (r1.mono s2) r2)⟩⟩
def starD : D → R (List D)
  | .list ds => .ok ds
  | .tuple ds => .ok ds
  | _ => .no
def cStar (f : Rho → R D) (g : Rho → R (List D)) : Rho → R (List D) := fun r => (f r).bind fun x => (starD x).bind fun xs => (g r).bind fun ys => .ok (xs ++ ys)
theorem za_star {es : List Expr} {p : Pos} {g : Rho → R (List D)} (h1 : ZK X cm W e f) (h2 : ZA X cm W es g) (hs : starEach (.Starred e p :: es) X.env = (true, eval e X.env) :: starEach es X.env := by rfl) : ZA X cm W (.Starred e p :: es) (cStar f g) :=
  PA.imp (StX.pa_star h1 h2 hs) fun σ H Q ⟨C, r, E, q⟩ => ⟨C, r, E, pst_imp (pst_bind q) fun d q v H1 s1 r1 => by
    have key : ∀ (p : Addr) (xs : List V) (ds : List D), v = .ref p → (SqT X.K H1 p xs ∨ SqL X.K H1 p xs) → RpAll X.K H1 (BB C r σ) xs ds → pst cm W σ H ((g r).bind fun ys => R.ok (ds ++ ys)) (fun ds => ∀ vs H', Same H H' → RpAll X.K H' (BB C r σ) vs ds → Q vs H') →
        ∃ p xs, v = V.ref p ∧ (SqT X.K H1 p xs ∨ SqL X.K H1 p xs) ∧ tA X.K cm W g σ H1 fun ys H2 => Q (xs ++ ys) H2 := fun p xs ds e hq rx q =>
      ⟨p, xs, e, hq, C, r, E.go s1, pst_imp (pst_bind (pst_go q s1)) fun es q ys H2 s2 r2 => q (xs ++ ys) H2 (s1.trans s2) ((rx.mono s2).append r2)⟩
    cases d with
    | list ds =>
      obtain ⟨a, xs, e, hq, rx⟩ := r1
      exact key a xs ds e (.inr hq) rx q
    | tuple ds =>
      have r1' : Rp X.K H1 (BB C r σ) v (.tuple ds) := r1
      cases r1' with
      | tup hq rx => exact key _ _ ds rfl (.inl hq) rx q
    | _ => exact (show False from q).elim⟩
theorem ze_tup {es : List Expr} {x1} {f : Rho → R (List D)} (h : ZA X cm W es f) : ZE X cm W (.Tuple es x1 pos) (cTup f) := PE.imp (pe_tup h) fun σ H Q ⟨C, r, E, q⟩ => ⟨C, r, E, pst_imp (pst_bind q) fun ds q vs H1 s1 r1 => by
  have l := r1.length
  unfold sizeD at q
  split at q
  · rename_i hz
    exact ⟨by rw [l]; exact hz, fun p hp => Res.tup (show Res X.K cm W σ (BB C r σ) H1 (.ok (.tuple ds)) Q from fun v H2 s2 => q v H2 (s1.trans s2)) r1 hp⟩
  · exact (show False from q).elim⟩
theorem zf_lst {es : List Expr} {f : Rho → R (List D)} (h : ZA X cm W es f) : ZF X cm W (.List es pos) (cLst f) := PE.imp (pe_lst h) fun σ H Q ⟨C, r, E, q⟩ => ⟨C, r, E, pst_imp (pst_bind q) fun ds q vs H1 s1 r1 => by
  have l := r1.length
  unfold sizeD at q
  split at q
  · rename_i hz
    exact ⟨by rw [l]; exact hz, fun p hp => ResF.lst (show ResF X.K cm W σ (BB C r σ) H1 (.ok ds) Q from fun p vs H2 s2 np => q p vs H2 (s1.trans s2) (s1.free np)) r1 hp⟩
  · exact (show False from q).elim⟩
end
end Z


set_option Elab.async false
set_option linter.all false
set_option maxRecDepth 100000
set_option maxHeartbeats 4000000
namespace Z
open PySem PySem.Spec PyProof.Rows L2

/-! ### operations on data -/
def addD : D → D → R D
  | .int i, .int j => .ok (.int (i + j))
  | .str x, .str y => if x.length + y.length ≤ sizeLine then .ok (.str (x ++ y)) else .no
  | .list xs, .list ys => if xs.length + ys.length ≤ sizeLine then .ok (.list (xs ++ ys)) else .no
  | .tuple xs, .tuple ys => if xs.length + ys.length ≤ sizeLine then .ok (.tuple (xs ++ ys)) else .no
  | _, _ => .no
def subD : D → D → R D
  | .int i, .int j => .ok (.int (i - j))
  | _, _ => .no
def mulD : D → D → R D
  | .int i, .int j => if i.natAbs.log2 + j.natAbs.log2 < 1000000 then .ok (.int (i * j)) else .no
  | _, _ => .no
def fdivD : D → D → R D
  | .int i, .int j => if 0 < j ∧ j.natAbs.log2 < 9000 then .ok (.int (i / j)) else if j ≠ 0 ∧ j.natAbs < 1073741824 then .ok (.int (i.fdiv j)) else .no
  | _, _ => .no
def modD : D → D → R D
  | .int i, .int j => if 0 < j then .ok (.int (i % j)) else if j ≠ 0 then .ok (.int (i.fmod j)) else .no
  | _, _ => .no
def powD : D → D → R D
  | .int i, .int j => if 0 ≤ j ∧ j ≤ 1000000 ∧ i.natAbs < 2 ^ 64 then .ok (.int (i ^ j.toNat)) else .no
  | _, _ => .no
def shlD : D → D → R D
  | .int i, .int j => if 0 ≤ j ∧ j ≤ 1000000 ∧ i.natAbs < 2 ^ 64 then .ok (.int (i * 2 ^ j.toNat)) else .no
  | _, _ => .no
def negD : D → R D
  | .int i => .ok (.int (-i))
  | _ => .no
def eqD (x y : D) : R Bool := if SeqAt.shaped x && SeqAt.shaped y then .ok (PyData.eqv x y) else .no
def neD (x y : D) : R Bool := if SeqAt.shaped x && SeqAt.shaped y then .ok (!PyData.eqv x y) else .no
def ltD : D → D → R Bool
  | .int i, .int j => .ok (decide (i < j))
  | .str i, .str j => .ok (decide (i.cps.toList < j.cps.toList))
  | _, _ => .no
def leD : D → D → R Bool
  | .int i, .int j => .ok (decide (i ≤ j))
  | .str i, .str j => .ok (!decide (j.cps.toList < i.cps.toList))
  | _, _ => .no
def gtD : D → D → R Bool
  | .int i, .int j => .ok (decide (j < i))
  | .str i, .str j => .ok (decide (j.cps.toList < i.cps.toList))
  | _, _ => .no
def geD : D → D → R Bool
  | .int i, .int j => .ok (decide (j ≤ i))
  | .str i, .str j => .ok (!decide (i.cps.toList < j.cps.toList))
  | _, _ => .no
def isND : D → R Bool
  | .none => .ok true
  | _ => .ok false
def notND : D → R Bool
  | .none => .ok false
  | _ => .ok true
def memD (x w : D) (ys : List D) : R Bool := if SeqAt.shaped x && SeqAt.shaped w then .ok (ys.any fun z => PyData.eqv z x) else .no
def sgnD (z : Str) : D → R Bool
  | .str y => match y.cps.toList with
    | [c] => .ok (decide (c ∈ z.cps.toList))
    | _ => .no
  | _ => .no
def inD (x : D) : D → R Bool
  | .list ys => memD x (.list ys) ys
  | .tuple ys => memD x (.tuple ys) ys
  | .str z => sgnD z x
  | _ => .no
def notInD (x y : D) : R Bool := (inD x y).bind fun b => .ok (!b)
def truD : D → R Bool
  | .none => .ok false
  | .bool b => .ok b
  | .int i => .ok (i != 0)
  | .str y => if y.length ≤ sizeLine then .ok ((y.length : Int) != 0) else .no
  | .list xs => .ok (!xs.isEmpty)
  | .tuple xs => .ok (!xs.isEmpty)
  | .dict _ => .no

section
variable {X : Cx} {cm : Nat → Addr} {W : WX} {k : Nat} {e a b c : Expr} {f g h : Rho → R D} {pos : Pos}

theorem RpC.tup {K : PySem.W.Frag} {H : Hp} {B : Addr → Prop} {v : V} {ds : List D} (h : RpC K H B v (.tuple ds)) : ∃ a xs, v = .ref a ∧ SqT K H a xs ∧ RpAll K H B xs ds := by
  have h' : Rp K H B v (.tuple ds) := h
  cases h' with
  | tup hs ha => exact ⟨_, _, rfl, hs, ha⟩
theorem RpC.int {K : PySem.W.Frag} {H : Hp} {B : Addr → Prop} {v : V} {i : Int} (h : RpC K H B v (.int i)) : v = .int i := by
  have h' : Rp K H B v (.int i) := h
  cases h'
  rfl
theorem RpC.str {K : PySem.W.Frag} {H : Hp} {B : Addr → Prop} {v : V} {i : Str} (h : RpC K H B v (.str i)) : v = .str i := by
  have h' : Rp K H B v (.str i) := h
  cases h'
  rfl
theorem RpC.bl {K : PySem.W.Frag} {H : Hp} {B : Addr → Prop} {v : V} {i : Bool} (h : RpC K H B v (.bool i)) : v = .bl i := by
  have h' : Rp K H B v (.bool i) := h
  cases h'
  rfl
theorem RpC.non {K : PySem.W.Frag} {H : Hp} {B : Addr → Prop} {v : V} (h : RpC K H B v .none) : v = .non := by
  have h' : Rp K H B v .none := h
  cases h'
  rfl
theorem RpC.nodict {K : PySem.W.Frag} {H : Hp} {B : Addr → Prop} {v : V} {x} (h : RpC K H B v (.dict x)) : False := by
  have h' : Rp K H B v (.dict x) := h
  cases h'
theorem RpC.lstE {K : PySem.W.Frag} {H : Hp} {B : Addr → Prop} {v : V} {ds : List D} (h : RpC K H B v (.list ds)) : ∃ a xs, v = .ref a ∧ SqL K H a xs ∧ RpAll K H B xs ds := h

theorem res_ite {K : PySem.W.Frag} {σ : St} {B : Addr → Prop} {H : Hp} {Q : VK} {p : Prop} [Decidable p] {x : R D} (h : Res K cm W σ B H (if p then x else .no) Q) : p ∧ Res K cm W σ B H x Q := by
  by_cases hp : p
  · rw [if_pos hp] at h
    exact ⟨hp, h⟩
  · rw [if_neg hp] at h
    exact (show False from h).elim
theorem res_ite2 {K : PySem.W.Frag} {σ : St} {B : Addr → Prop} {H : Hp} {Q : VK} {p : Prop} [Decidable p] {x y : R D} (h : Res K cm W σ B H (if p then x else y) Q) : (p ∧ Res K cm W σ B H x Q) ∨ Res K cm W σ B H y Q := by
  by_cases hp : p
  · rw [if_pos hp] at h
    exact .inl ⟨hp, h⟩
  · rw [if_neg hp] at h
    exact .inr h
theorem rs_ite {α : Type} {p : Prop} [Decidable p] {x : R α} {t : α} (h : (if p then x else .no) = .ok t) : p ∧ x = .ok t := by
  by_cases hp : p
  · rw [if_pos hp] at h
    exact ⟨hp, h⟩
  · rw [if_neg hp] at h
    cases h

/-- list + list, whatever holds them -/
def rCatS (K : PySem.W.Frag) : R2 := fun x y H Q => ∃ l b xs zs, x = .ref l ∧ y = .ref b ∧ SqL K H l xs ∧ SqL K H b zs ∧ xs.length + zs.length ≤ sizeLine ∧ ∀ p, H p = none → Q (.ref p) (upd H p (.lst (xs ++ zs)))
theorem op_catS : OpR X (binaryOp .Add) (rCatS X.K) := by
  intro pins s σ H x y v u Q I rx ry h
  obtain ⟨l, b, xs, zs, rfl, rfl, hH, hB, hz, q⟩ := h
  cases rx
  cases ry
  obtain ⟨its, r, pl, _⟩ := I.list hH
  obtain ⟨its2, r2, pl2, _⟩ := I.list hB
  obtain ⟨⟨cls, dd, data, sl⟩, ho, hc, n, hd⟩ := id pl.isList
  obtain ⟨⟨cls2, dd2, data2, sl2⟩, ho2, hc2, n2, hd2⟩ := id pl2.isList
  simp only at hc hd hc2 hd2
  subst hc hd hc2 hd2
  have el := r.length
  have el2 := r2.length
  have ea : its.toArray ++ its2.toArray = (its ++ its2).toArray := by simp
  refine concat_meets ⟨_, ho, rfl⟩ ⟨_, ho2, rfl⟩ noFill_list_add seq_list_add PySem.F.slot_list_add PySem.F.entry_list_add (PySem.F.args_list_add_2 _ _) (list_addW l b its.toArray its2.toArray n n2 dd dd2 sl sl2 (by simp; omega)) ⟨ho, ho2, ?_⟩
  rw [ea]
  exact ⟨.ref _, _, I.lnew (t' := s.toks) (r.append r2) (by rw [List.length_append]; omega), rfl, q _ I.fresh⟩

theorem ze_add (ha : ZK X cm W a f) (hb : ZK X cm W b g) : ZE X cm W (.BinOp a .Add b pos) (cB2 addD f g) :=
  PE.imp (pe_op (op_add.or (op_add_str.or (op_catS.or op_catA))) ha hb) (then2 fun σ H B x y d e Q hb rx ry q => by
    cases d with
    | int i =>
      cases e with
      | int j => exact .inl ⟨i, j, rx.int, ry.int, q.ok (.int _)⟩
      | _ => exact (show False from q).elim
    | str i =>
      cases e with
      | str j =>
        obtain ⟨hz, q⟩ := res_ite q
        exact .inr (.inl ⟨i, j, rx.str, ry.str, hz, q.ok (.str _)⟩)
      | _ => exact (show False from q).elim
    | list xs =>
      cases e with
      | list ys =>
        obtain ⟨hz, q⟩ := res_ite q
        obtain ⟨a, vs, rfl, h1, r1⟩ := rx.lstE
        obtain ⟨b, ws, rfl, h2, r2⟩ := ry.lstE
        exact .inr (.inr (.inl ⟨a, b, vs, ws, rfl, rfl, h1, h2, by rw [r1.length, r2.length]; exact hz, fun p hp => q.lst hb (r1.append r2) hp⟩))
      | _ => exact (show False from q).elim
    | tuple xs =>
      cases e with
      | tuple ys =>
        obtain ⟨hz, q⟩ := res_ite q
        obtain ⟨a, vs, rfl, h1, r1⟩ := rx.tup
        obtain ⟨b, ws, rfl, h2, r2⟩ := ry.tup
        refine .inr (.inr (.inr ⟨a, b, vs, ws, rfl, rfl, h1, h2, by rw [r1.length, r2.length]; exact hz, fun e => ?_, fun _ e => ?_, fun _ _ p hp => q.tup (r1.append r2) hp⟩))
        · subst e
          cases r1
          exact q.ok (.tup h2 r2)
        · subst e
          cases r2
          rw [List.append_nil] at q
          exact q.ok (.tup h1 r1)
      | _ => exact (show False from q).elim
    | none => cases e <;> exact (show False from q).elim
    | bool i => cases e <;> exact (show False from q).elim
    | dict i => cases e <;> exact (show False from q).elim)

/-- an operation upon two ints -/
theorem bin_int {op : Operator} {C : Int → Int → Prop} {gg : Int → Int → Int} {F : D → D → R D} (ho : OpR X (binaryOp op) (rI C fun i j => .int (gg i j)))
    (hF : ∀ (σ : St) (H : Hp) (B : Addr → Prop) (x y : D) (Q : VK), Res X.K cm W σ B H (F x y) Q → ∃ i j, x = .int i ∧ y = .int j ∧ C i j ∧ Q (.int (gg i j)) H) (ha : ZK X cm W a f) (hb : ZK X cm W b g) : ZE X cm W (.BinOp a op b pos) (cB2 F f g) :=
  PE.imp (pe_op ho ha hb) (then2 fun σ H B x y d e Q hb rx ry q => by
    obtain ⟨i, j, rfl, rfl, c, q⟩ := hF σ H B d e Q q
    exact ⟨i, j, rx.int, ry.int, c, q⟩)
theorem ze_sub (ha : ZK X cm W a f) (hb : ZK X cm W b g) : ZE X cm W (.BinOp a .Sub b pos) (cB2 subD f g) :=
  PE.imp (pe_op op_sub ha hb) (then2 fun σ H B x y d e Q hb rx ry q => by
    cases d with
    | int i =>
      cases e with
      | int j => exact ⟨i, j, rx.int, ry.int, q.ok (.int _)⟩
      | _ => exact (show False from q).elim
    | _ => cases e <;> exact (show False from q).elim)
theorem ze_mul (ha : ZK X cm W a f) (hb : ZK X cm W b g) : ZE X cm W (.BinOp a .Mult b pos) (cB2 mulD f g) :=
  bin_int op_mulW (fun σ H B x y Q q => by
    cases x with
    | int i =>
      cases y with
      | int j =>
        obtain ⟨hz, q⟩ := res_ite q
        exact ⟨i, j, rfl, rfl, hz, q.ok (.int _)⟩
      | _ => exact (show False from q).elim
    | _ => cases y <;> exact (show False from q).elim) ha hb
theorem ze_fdiv (ha : ZK X cm W a f) (hb : ZK X cm W b g) : ZE X cm W (.BinOp a .FloorDiv b pos) (cB2 fdivD f g) :=
  PE.imp (pe_op (op_fdivW.or op_fdivN) ha hb) (then2 fun σ H B x y d e Q hb rx ry q => by
    cases d with
    | int i =>
      cases e with
      | int j =>
        rcases res_ite2 q with ⟨hz, q⟩ | q
        · exact .inl ⟨i, j, rx.int, ry.int, hz, q.ok (.int _)⟩
        · obtain ⟨hz, q⟩ := res_ite q
          exact .inr ⟨i, j, rx.int, ry.int, hz, q.ok (.int _)⟩
      | _ => exact (show False from q).elim
    | _ => cases e <;> exact (show False from q).elim)
theorem ze_mod (ha : ZK X cm W a f) (hb : ZK X cm W b g) : ZE X cm W (.BinOp a .Mod b pos) (cB2 modD f g) :=
  PE.imp (pe_op (op_mod.or op_modN) ha hb) (then2 fun σ H B x y d e Q hb rx ry q => by
    cases d with
    | int i =>
      cases e with
      | int j =>
        rcases res_ite2 q with ⟨hz, q⟩ | q
        · exact .inl ⟨i, j, rx.int, ry.int, hz, q.ok (.int _)⟩
        · obtain ⟨hz, q⟩ := res_ite q
          exact .inr ⟨i, j, rx.int, ry.int, hz, q.ok (.int _)⟩
      | _ => exact (show False from q).elim
    | _ => cases e <;> exact (show False from q).elim)
theorem ze_pow (ha : ZK X cm W a f) (hb : ZK X cm W b g) : ZE X cm W (.BinOp a .Pow b pos) (cB2 powD f g) :=
  bin_int op_pow (fun σ H B x y Q q => by
    cases x with
    | int i =>
      cases y with
      | int j =>
        obtain ⟨hz, q⟩ := res_ite q
        exact ⟨i, j, rfl, rfl, hz, q.ok (.int _)⟩
      | _ => exact (show False from q).elim
    | _ => cases y <;> exact (show False from q).elim) ha hb
theorem ze_shl (ha : ZK X cm W a f) (hb : ZK X cm W b g) : ZE X cm W (.BinOp a .LShift b pos) (cB2 shlD f g) :=
  bin_int op_shl (fun σ H B x y Q q => by
    cases x with
    | int i =>
      cases y with
      | int j =>
        obtain ⟨hz, q⟩ := res_ite q
        exact ⟨i, j, rfl, rfl, hz, q.ok (.int _)⟩
      | _ => exact (show False from q).elim
    | _ => cases y <;> exact (show False from q).elim) ha hb
theorem ze_neg (ha : ZK X cm W a f) : ZE X cm W (.UnaryOp .USub a pos) (cB1 negD f) :=
  PE.imp (pe_un un_neg ha) (then1 fun σ H B x d Q hb rx q => by
    cases d with
    | int i => exact ⟨i, rx.int, q.ok (.int _)⟩
    | _ => exact (show False from q).elim)

/-! ### comparisons: the kernel by values -/
/-- a comparison by values, told by F -/
def Cmp (X : Cx) (op : CmpOp) (F : D → D → R Bool) : Prop := ∃ r : R2, OpR X (compareOp op) r ∧ ∀ (H : Hp) (B : Addr → Prop) (x y : V) (d e : D) (Q : VK), RpC X.K H B x d → RpC X.K H B y e → (∃ t, F d e = .ok t ∧ Q (.bl t) H) → r x y H Q
theorem Cmp.or {op : CmpOp} {r : R2} {F G : D → D → R Bool} (ho : OpR X (compareOp op) r) (h1 : ∀ (H : Hp) (B : Addr → Prop) (x y : V) (d e : D) (Q : VK), RpC X.K H B x d → RpC X.K H B y e → (∃ t, F d e = .ok t ∧ Q (.bl t) H) → r x y H Q ∨ ∃ t, G d e = .ok t ∧ Q (.bl t) H)
    (h2 : Cmp X op G) : Cmp X op F := by
  obtain ⟨r2, ho2, k2⟩ := h2
  exact ⟨_, ho.or ho2, fun H B x y d e Q rx ry t => (h1 H B x y d e Q rx ry t).imp id fun t => k2 H B x y d e Q rx ry t⟩
theorem cmp_eq (A : Amb X W k) : Cmp X .Eq eqD := ⟨_, op_eqD A.u64, fun H B x y d e Q rx ry ⟨t, h, q⟩ => by
  obtain ⟨hs, h⟩ := rs_ite h
  rw [Bool.and_eq_true] at hs
  cases h
  exact ⟨d, e, rx.dp, ry.dp, hs.1, hs.2, q⟩⟩
theorem cmp_ne (A : Amb X W k) : Cmp X .NotEq neD := ⟨_, op_neD A.u64, fun H B x y d e Q rx ry ⟨t, h, q⟩ => by
  obtain ⟨hs, h⟩ := rs_ite h
  rw [Bool.and_eq_true] at hs
  cases h
  exact ⟨d, e, rx.dp, ry.dp, hs.1, hs.2, q⟩⟩
theorem cmp_lt : Cmp X .Lt ltD := ⟨_, op_lt.or op_lt_str, fun H B x y d e Q rx ry ⟨t, h, q⟩ => by
  cases d with
  | int i =>
    cases e with
    | int j => cases h; exact .inl ⟨i, j, rx.int, ry.int, q⟩
    | _ => cases h
  | str i =>
    cases e with
    | str j => cases h; exact .inr ⟨i, j, rx.str, ry.str, q⟩
    | _ => cases h
  | _ => cases e <;> cases h⟩
theorem cmp_le : Cmp X .LtE leD := ⟨_, op_le.or op_le_str, fun H B x y d e Q rx ry ⟨t, h, q⟩ => by
  cases d with
  | int i =>
    cases e with
    | int j => cases h; exact .inl ⟨i, j, rx.int, ry.int, q⟩
    | _ => cases h
  | str i =>
    cases e with
    | str j => cases h; exact .inr ⟨i, j, rx.str, ry.str, q⟩
    | _ => cases h
  | _ => cases e <;> cases h⟩
theorem cmp_gt : Cmp X .Gt gtD := ⟨_, op_gt.or op_gt_str, fun H B x y d e Q rx ry ⟨t, h, q⟩ => by
  cases d with
  | int i =>
    cases e with
    | int j => cases h; exact .inl ⟨i, j, rx.int, ry.int, q⟩
    | _ => cases h
  | str i =>
    cases e with
    | str j => cases h; exact .inr ⟨i, j, rx.str, ry.str, q⟩
    | _ => cases h
  | _ => cases e <;> cases h⟩
theorem cmp_ge : Cmp X .GtE geD := ⟨_, op_ge.or op_ge_str, fun H B x y d e Q rx ry ⟨t, h, q⟩ => by
  cases d with
  | int i =>
    cases e with
    | int j => cases h; exact .inl ⟨i, j, rx.int, ry.int, q⟩
    | _ => cases h
  | str i =>
    cases e with
    | str j => cases h; exact .inr ⟨i, j, rx.str, ry.str, q⟩
    | _ => cases h
  | _ => cases e <;> cases h⟩
def rInT (K : PySem.W.Frag) : R2 := fun x y H Q => ∃ d ds, Dp K H x d ∧ Dp K H y (.tuple ds) ∧ SeqAt.shaped d = true ∧ SeqAt.shaped (.tuple ds) = true ∧ Q (.bl (ds.any fun z => PyData.eqv z d)) H
def rNotInT (K : PySem.W.Frag) : R2 := fun x y H Q => ∃ d ds, Dp K H x d ∧ Dp K H y (.tuple ds) ∧ SeqAt.shaped d = true ∧ SeqAt.shaped (.tuple ds) = true ∧ Q (.bl (!ds.any fun z => PyData.eqv z d)) H
theorem op_inT (hu : X.A.units + 65 < cLine) : OpR X (compareOp .In) (rInT X.K) := by
  intro pins s σ H x y v u Q I rx ry h
  obtain ⟨d, ds, hd, he, sd, se, q⟩ := h
  obtain ⟨as, r1⟩ := Dp.reads I d x v hd rx
  obtain ⟨bs, r2⟩ := Dp.reads I (.tuple ds) y u he ry
  exact SeqAt.in_tuple_reads r2 r1 (SeqAt.canLay_of_shaped se) (SeqAt.canLay_of_shaped sd) (room_in_shaped sd hu) ⟨.bl _, H, I, rfl, q⟩
theorem op_notInT (hu : X.A.units + 65 < cLine) : OpR X (compareOp .NotIn) (rNotInT X.K) := by
  intro pins s σ H x y v u Q I rx ry h
  obtain ⟨d, ds, hd, he, sd, se, q⟩ := h
  obtain ⟨as, r1⟩ := Dp.reads I d x v hd rx
  obtain ⟨bs, r2⟩ := Dp.reads I (.tuple ds) y u he ry
  exact SeqAt.notIn_tuple_reads r2 r1 (SeqAt.canLay_of_shaped se) (SeqAt.canLay_of_shaped sd) (room_in_shaped sd hu) ⟨.bl _, H, I, rfl, q⟩
theorem str_one {y : Str} {c : Nat} (h : y.cps.toList = [c]) : y = ⟨#[c]⟩ := by
  obtain ⟨a⟩ := y
  have : a = #[c] := by
    apply Array.ext'
    simpa using h
  rw [this]
theorem memD_ok {x w : D} {ys : List D} {t : Bool} (h : memD x w ys = .ok t) : SeqAt.shaped x = true ∧ SeqAt.shaped w = true ∧ t = ys.any fun z => PyData.eqv z x := by
  obtain ⟨hs, h⟩ := rs_ite h
  rw [Bool.and_eq_true] at hs
  exact ⟨hs.1, hs.2, (R.ok.inj h).symm⟩
theorem sgnD_ok {z : Str} {x : D} {t : Bool} (h : sgnD z x = .ok t) : ∃ c, x = .str ⟨#[c]⟩ ∧ t = decide (c ∈ z.cps.toList) := by
  cases x with
  | str w =>
    have h' : (match w.cps.toList with
      | [c] => R.ok (decide (c ∈ z.cps.toList))
      | _ => R.no) = .ok t := h
    split at h'
    · rename_i c hc
      exact ⟨c, by rw [str_one hc], (R.ok.inj h').symm⟩
    · cases h'
  | _ => cases h
theorem inD_cases {x y : D} {t : Bool} (h : inD x y = .ok t) :
    (∃ ys, y = .list ys ∧ SeqAt.shaped x = true ∧ SeqAt.shaped (.list ys) = true ∧ t = ys.any fun z => PyData.eqv z x) ∨ (∃ ys, y = .tuple ys ∧ SeqAt.shaped x = true ∧ SeqAt.shaped (.tuple ys) = true ∧ t = ys.any fun z => PyData.eqv z x) ∨
      ∃ z c, y = .str z ∧ x = .str ⟨#[c]⟩ ∧ t = decide (c ∈ z.cps.toList) := by
  cases y with
  | list ys => exact .inl ⟨ys, rfl, memD_ok h⟩
  | tuple ys => exact .inr (.inl ⟨ys, rfl, memD_ok h⟩)
  | str z =>
    obtain ⟨c, e1, e2⟩ := sgnD_ok h
    exact .inr (.inr ⟨z, c, rfl, e1, e2⟩)
  | _ => cases h
theorem cmp_in (A : Amb X W k) : Cmp X .In inD := ⟨_, (op_inD A.u65).or ((op_inT A.u65).or op_in_sign), fun H B x y d e Q rx ry ⟨t, h, q⟩ => by
  rcases inD_cases h with ⟨ys, rfl, h1, h2, rfl⟩ | ⟨ys, rfl, h1, h2, rfl⟩ | ⟨z, c, rfl, rfl, rfl⟩
  · exact .inl ⟨d, ys, rx.dp, ry.dp, h1, h2, q⟩
  · exact .inr (.inl ⟨d, ys, rx.dp, ry.dp, h1, h2, q⟩)
  · exact .inr (.inr ⟨c, z, rx.str, ry.str, q⟩)⟩
theorem cmp_notIn (A : Amb X W k) : Cmp X .NotIn notInD := ⟨_, (op_notInD A.u65).or ((op_notInT A.u65).or op_notIn_sign), fun H B x y d e Q rx ry ⟨t, h, q⟩ => by
  unfold notInD at h
  cases hi : inD d e with
  | ok b =>
    rw [hi] at h
    cases h
    rcases inD_cases hi with ⟨ys, rfl, h1, h2, rfl⟩ | ⟨ys, rfl, h1, h2, rfl⟩ | ⟨z, c, rfl, rfl, rfl⟩
    · exact .inl ⟨d, ys, rx.dp, ry.dp, h1, h2, q⟩
    · exact .inr (.inl ⟨d, ys, rx.dp, ry.dp, h1, h2, q⟩)
    · exact .inr (.inr ⟨c, z, rx.str, ry.str, q⟩)
  | ex j => rw [hi] at h; cases h
  | no => rw [hi] at h; cases h⟩
theorem resT_ok {σ : St} {H : Hp} {x : R Bool} {Q : Bool → Hp → Prop} (h : ResT cm W σ H x Q) (nx : ∀ j, x ≠ .ex j) : ∃ t, x = .ok t ∧ Q t H := by
  cases x with
  | ok t => exact ⟨t, rfl, h H (Same.refl H)⟩
  | ex j => exact (nx j rfl).elim
  | no => exact (show False from h).elim
theorem cmp_nox {F : D → D → R Bool} {d e : D} {σ : St} {H : Hp} {Q : Bool → Hp → Prop} (h : ResT cm W σ H (F d e) Q) (nx : ∀ d e j, F d e ≠ .ex j) : ∃ t, F d e = .ok t ∧ Q t H := resT_ok h (nx d e)
/-- a op b as a test, as a value -/
theorem zt_cmp {op : CmpOp} {F : D → D → R Bool} (hc : Cmp X op F) (ha : ZK X cm W a f) (hb : ZK X cm W b g) (nx : ∀ d e j, F d e ≠ .ex j) (h1 : behindInMarks op b = false := by first | exact nobehind _ (by decide) (by decide) | rfl) : ZT X cm W (.Compare a [op] [b] pos) (cT2 F f g) := by
  obtain ⟨r, ho, hk⟩ := hc
  refine PT.imp (pt_cmpR ho ha hb h1) (then2T (kk := fun x y H Q => r x y H fun x H' => ∃ k, x = .bl k ∧ Q k H') fun σ H B x y d e Q hb rx ry q => ?_)
  obtain ⟨t, e1, q⟩ := cmp_nox q nx
  exact hk H B x y d e _ rx ry ⟨t, e1, t, rfl, q⟩
theorem ze_cmp {op : CmpOp} {F : D → D → R Bool} (hc : Cmp X op F) (ha : ZK X cm W a f) (hb : ZK X cm W b g) (nx : ∀ d e j, F d e ≠ .ex j) (h1 : behindInMarks op b = false := by first | exact nobehind _ (by decide) (by decide) | rfl) : ZE X cm W (.Compare a [op] [b] pos) (cBl (cT2 F f g)) := by
  obtain ⟨r, ho, hk⟩ := hc
  refine PE.imp (pe_cmpR ho ha hb h1) fun σ H Q ⟨C, r', E, q⟩ => ⟨C, r', E, pst_imp (pst_bind (pst_bind q)) fun d q v H1 s1 r1 => ⟨C, r', E.go s1, pst_imp (pst_bind (pst_go q s1)) fun e q w H2 s2 r2 => ?_⟩⟩
  have q2 : pst cm W σ H1 (F d e) fun b => ∀ v H', Same H H' → Rp X.K H' (BB C r' σ) v (.bool b) → Q v H' := q
  cases hF : F d e with
  | ok t =>
    rw [hF] at q2
    exact hk H2 _ v w d e Q (r1.mono s2 (fun _ z => .inl z)) r2 ⟨t, hF, q2 (.bl t) H2 (s1.trans s2) (.bl t)⟩
  | ex j => exact (nx d e j hF).elim
  | no => rw [hF] at q2; exact (show False from q2).elim
end
end Z


set_option Elab.async false
set_option linter.all false
set_option maxRecDepth 100000
set_option maxHeartbeats 4000000
namespace Z
open PySem PySem.Spec PyProof.Rows L2

/-! ### data -/
def atD (ds : List D) (i : Int) : R D := match atI ds i with
  | some d => .ok d
  | none => .no
def ixD : D → D → R D
  | .list ds, .int i => atD ds i
  | .tuple ds, .int i => atD ds i
  | .str z, .int i => if z.length ≤ sizeLine then (match atI z.cps.toList i with
    | some c => .ok (.str ⟨#[c]⟩)
    | none => .no) else .no
  | _, _ => .no
def cutD (ds : List D) (lo hi : Option Int) : List D := (ds.drop (HT.sIx ds.length 0 lo)).take (HT.sIx ds.length ds.length hi - HT.sIx ds.length 0 lo)
def slD (lo hi : Option Int) : D → R D
  | .list ds => .ok (.list (cutD ds lo hi))
  | .tuple ds => .ok (.tuple (cutD ds lo hi))
  | .str z => if z.length ≤ sizeLine then .ok (.str (cutS z lo hi)) else .no
  | _ => .no
def optD : D → R (Option Int)
  | .int i => .ok (some i)
  | _ => .no
def lenD : D → R D
  | .list ds => .ok (.int ds.length)
  | .tuple ds => .ok (.int ds.length)
  | .str z => if z.length ≤ sizeLine then .ok (.int z.length) else .no
  | _ => .no
def absD : D → R D
  | .int i => .ok (.int (if i < 0 then -i else i))
  | _ => .no
def intS (a : Str) : R D := match PySem.intText? a with
  | some n => if a.length ≤ 640 then .ok (.int n) else .no
  | none => .no
def intD : D → R D
  | .int i => .ok (.int i)
  | .bool b => .ok (.int (if b then 1 else 0))
  | .str a => intS a
  | _ => .no
def strD : D → R D
  | .int i => if i.natAbs.log2 < 1920 then .ok (.str (toString i)) else .no
  | .str a => .ok (.str a)
  | _ => .no
def bools : List D → R (List Bool)
  | [] => .ok []
  | .bool b :: r => (bools r).bind fun bs => .ok (b :: bs)
  | _ :: _ => .no
def allD : D → R D
  | .list ds => (bools ds).bind fun bs => .ok (.bool (bs.all id))
  | _ => .no
def anyD : D → R D
  | .list ds => (bools ds).bind fun bs => .ok (.bool (bs.any id))
  | _ => .no
def intsOf : List D → R (List Int)
  | [] => .ok []
  | .int b :: r => (intsOf r).bind fun bs => .ok (b :: bs)
  | _ :: _ => .no
def strsOf : List D → R (List Str)
  | [] => .ok []
  | .str b :: r => (strsOf r).bind fun bs => .ok (b :: bs)
  | _ :: _ => .no
def sumD : D → R D
  | .list ds => (intsOf ds).bind fun bs => .ok (.int bs.sum)
  | _ => .no
def tupD : D → R D
  | .list ds => .ok (.tuple ds)
  | .tuple ds => .ok (.tuple ds)
  | _ => .no
def listD : D → R (List D)
  | .list ds => .ok ds
  | .tuple ds => .ok ds
  | _ => .no
def kindD : D → String
  | .none => "NoneType"
  | .bool _ => "bool"
  | .int _ => "int"
  | .str _ => "str"
  | .list _ => "list"
  | .tuple _ => "tuple"
  | .dict _ => "dict"
def joinW (a : Str) (ys : List Str) : R D := if (ys.map (·.length)).sum + ys.length * a.length ≤ 16777216 then .ok (.str (Txt.join a ys)) else .no
def strOfD : D → R Str
  | .str a => .ok a
  | _ => .no
def joinD (a : Str) (y : D) : R D := (starD y).bind fun ds => (strsOf ds).bind fun ys => joinW a ys
def splitD (a : Str) : D → R (List D)
  | .str b => if (b.length == 0) = false ∧ a.length + 2 ≤ sizeLine then .ok ((Txt.split a b).map .str) else .no
  | _ => .no
def splitMaxD (a : Str) : D → D → R (List D)
  | .str b, .int n => if (b.length == 0) = false ∧ -(2 ^ 63) ≤ n ∧ n < 2 ^ 63 ∧ a.length + 2 ≤ sizeLine then .ok ((Txt.splitMax a b n).map .str) else .no
  | _, _ => .no
def partD (a : Str) : D → R D
  | .str b => if (b.length == 0) = false ∧ a.length ≤ sizeLine then .ok (.tuple [.str (Txt.partition a b).1, .str (Txt.partition a b).2.1, .str (Txt.partition a b).2.2]) else .no
  | _ => .no
def upperD (a : Str) : R D := if a.length ≤ 5592405 then .ok (.str (Txt.upper a)) else .no
def fmtD : D → R D
  | .str y => if y.length ≤ sizeLine then .ok (.str y) else .no
  | .int i => if i.natAbs.log2 < 1920 then .ok (.str (toString i)) else .no
  | _ => .no
/-! ### further combinators -/
def cM0 (F : Str → R D) (f : Rho → R D) : Rho → R D := fun r => (f r).bind fun x => (strOfD x).bind F
def cM1 (F : Str → D → R D) (f g : Rho → R D) : Rho → R D := fun r => (f r).bind fun x => (strOfD x).bind fun a => (g r).bind fun y => F a y
def cM1F (F : Str → D → R (List D)) (f g : Rho → R D) : Rho → R (List D) := fun r => (f r).bind fun x => (strOfD x).bind fun a => (g r).bind fun y => F a y
def cM2F (F : Str → D → D → R (List D)) (f g h : Rho → R D) : Rho → R (List D) := fun r => (f r).bind fun x => (strOfD x).bind fun a => (g r).bind fun y => (h r).bind fun z => F a y z
def cCh (F G : D → D → R Bool) (f g h : Rho → R D) : Rho → R Bool := fun r => (f r).bind fun x => (g r).bind fun y => (F x y).bind fun b => if b then (h r).bind fun z => G y z else .ok false
abbrev OF := Rho → R (Option Int)
def cO0 : OF := fun _ => .ok none
def cO (f : Rho → R D) : OF := fun r => (f r).bind optD
def cSl (f : Rho → R D) (l h : OF) : Rho → R D := fun r => (f r).bind fun x => (l r).bind fun lo => (h r).bind fun hi => slD lo hi x
def cJ0 : Str → Rho → R Str := fun acc _ => .ok acc
def cJc (f : Rho → R D) (g : Str → Rho → R Str) : Str → Rho → R Str := fun acc r => (f r).bind fun x => (strOfD x).bind fun y => if (acc ++ y).length ≤ sizeLine then g (acc ++ y) r else .no
def cJ (g : Str → Rho → R Str) : Rho → R D := fun r => (g Str.empty r).bind fun s => .ok (.str s)

section
variable {X : Cx} {cm : Nat → Addr} {W : WX} {k : Nat} {e a b c : Expr} {f g h : Rho → R D} {pos : Pos}

theorem res_bind {K : PySem.W.Frag} {σ : St} {B : Addr → Prop} {H : Hp} {Q : VK} {α : Type} {x : R α} {F : α → R D} (nx : ∀ j, x ≠ .ex j) (h : Res K cm W σ B H (x.bind F) Q) : ∃ t, x = .ok t ∧ Res K cm W σ B H (F t) Q := by
  cases x with
  | ok t => exact ⟨t, rfl, h⟩
  | ex j => exact (nx j rfl).elim
  | no => exact (show False from h).elim
theorem resF_bind {K : PySem.W.Frag} {σ : St} {B : Addr → Prop} {H : Hp} {Q : VK} {α : Type} {x : R α} {F : α → R (List D)} (nx : ∀ j, x ≠ .ex j) (h : ResF K cm W σ B H (x.bind F) Q) : ∃ t, x = .ok t ∧ ResF K cm W σ B H (F t) Q := by
  cases x with
  | ok t => exact ⟨t, rfl, h⟩
  | ex j => exact (nx j rfl).elim
  | no => exact (show False from h).elim
theorem bind_nox {α β : Type} {x : R α} {F : α → R β} (h : ∀ j, x ≠ .ex j) (h2 : ∀ a j, F a ≠ .ex j) : ∀ j, x.bind F ≠ .ex j := fun j e => by
  cases x with
  | ok t => exact h2 t j e
  | ex i => exact h i rfl
  | no => cases e
theorem bools_nox : ∀ (ds : List D) j, bools ds ≠ .ex j
  | [], _ => fun e => by cases e
  | .bool b :: r, j => bind_nox (bools_nox r) (fun _ _ e => by cases e) j
  | .none :: _, _ => fun e => by cases e
  | .int _ :: _, _ => fun e => by cases e
  | .str _ :: _, _ => fun e => by cases e
  | .list _ :: _, _ => fun e => by cases e
  | .tuple _ :: _, _ => fun e => by cases e
  | .dict _ :: _, _ => fun e => by cases e
theorem ints_nox : ∀ (ds : List D) j, intsOf ds ≠ .ex j
  | [], _ => fun e => by cases e
  | .int b :: r, j => bind_nox (ints_nox r) (fun _ _ e => by cases e) j
  | .none :: _, _ => fun e => by cases e
  | .bool _ :: _, _ => fun e => by cases e
  | .str _ :: _, _ => fun e => by cases e
  | .list _ :: _, _ => fun e => by cases e
  | .tuple _ :: _, _ => fun e => by cases e
  | .dict _ :: _, _ => fun e => by cases e
theorem strs_nox : ∀ (ds : List D) j, strsOf ds ≠ .ex j
  | [], _ => fun e => by cases e
  | .str b :: r, j => bind_nox (strs_nox r) (fun _ _ e => by cases e) j
  | .none :: _, _ => fun e => by cases e
  | .bool _ :: _, _ => fun e => by cases e
  | .int _ :: _, _ => fun e => by cases e
  | .list _ :: _, _ => fun e => by cases e
  | .tuple _ :: _, _ => fun e => by cases e
  | .dict _ :: _, _ => fun e => by cases e
theorem bind_ok {α β : Type} {x : R α} {F : α → R β} {t : β} (h : x.bind F = .ok t) : ∃ a, x = .ok a ∧ F a = .ok t := by
  cases x with
  | ok a => exact ⟨a, rfl, h⟩
  | ex j => cases h
  | no => cases h
theorem bools_rp {K : PySem.W.Frag} {H : Hp} {B : Addr → Prop} : ∀ {ds : List D} {bs : List Bool} {vs : List V}, bools ds = .ok bs → RpAll K H B vs ds → vs = bs.map V.bl
  | [], _, _, h, r => by cases h; cases r; rfl
  | .bool b :: ds, _, _, h, r => by
    obtain ⟨bs, h1, h2⟩ := bind_ok (show (bools ds).bind (fun bs => R.ok (b :: bs)) = _ from h)
    cases h2
    cases r with
    | cons r1 r2 =>
      cases r1
      rw [bools_rp h1 r2]
      rfl
  | .none :: _, _, _, h, _ => nomatch h
  | .int _ :: _, _, _, h, _ => nomatch h
  | .str _ :: _, _, _, h, _ => nomatch h
  | .list _ :: _, _, _, h, _ => nomatch h
  | .tuple _ :: _, _, _, h, _ => nomatch h
  | .dict _ :: _, _, _, h, _ => nomatch h
theorem ints_rp {K : PySem.W.Frag} {H : Hp} {B : Addr → Prop} : ∀ {ds : List D} {bs : List Int} {vs : List V}, intsOf ds = .ok bs → RpAll K H B vs ds → vs = bs.map V.int
  | [], _, _, h, r => by cases h; cases r; rfl
  | .int b :: ds, _, _, h, r => by
    obtain ⟨bs, h1, h2⟩ := bind_ok (show (intsOf ds).bind (fun bs => R.ok (b :: bs)) = _ from h)
    cases h2
    cases r with
    | cons r1 r2 =>
      cases r1
      rw [ints_rp h1 r2]
      rfl
  | .none :: _, _, _, h, _ => nomatch h
  | .bool _ :: _, _, _, h, _ => nomatch h
  | .str _ :: _, _, _, h, _ => nomatch h
  | .list _ :: _, _, _, h, _ => nomatch h
  | .tuple _ :: _, _, _, h, _ => nomatch h
  | .dict _ :: _, _, _, h, _ => nomatch h
theorem strs_rp {K : PySem.W.Frag} {H : Hp} {B : Addr → Prop} : ∀ {ds : List D} {bs : List Str} {vs : List V}, strsOf ds = .ok bs → RpAll K H B vs ds → vs = bs.map V.str
  | [], _, _, h, r => by cases h; cases r; rfl
  | .str b :: ds, _, _, h, r => by
    obtain ⟨bs, h1, h2⟩ := bind_ok (show (strsOf ds).bind (fun bs => R.ok (b :: bs)) = _ from h)
    cases h2
    cases r with
    | cons r1 r2 =>
      cases r1
      rw [strs_rp h1 r2]
      rfl
  | .none :: _, _, _, h, _ => nomatch h
  | .bool _ :: _, _, _, h, _ => nomatch h
  | .int _ :: _, _, _, h, _ => nomatch h
  | .list _ :: _, _, _, h, _ => nomatch h
  | .tuple _ :: _, _, _, h, _ => nomatch h
  | .dict _ :: _, _, _, h, _ => nomatch h

/-! ### tests -/
theorem isE {α β : Type} {xs : List α} {ys : List β} (h : xs.length = ys.length) : (!xs.isEmpty) = !ys.isEmpty := by
  cases xs <;> cases ys <;> first | rfl | simp at h
theorem zt_of (ha : ZK X cm W a f) (he : ∀ whole, isTrue a X.env whole = (do let v ← whole; standAt a.pos; holding [v] (truthy v)) := by intro _; rfl) : ZT X cm W a (cT1 truD f) :=
  PT.imp (pt_truth ha he) (then1T fun σ H B x d Q hb rx q => by
    cases d with
    | none => rw [rx.non]; exact ⟨false, rfl, q H (Same.refl H)⟩
    | bool t => rw [rx.bl]; exact ⟨t, rfl, q H (Same.refl H)⟩
    | int i => rw [rx.int]; exact ⟨i != 0, rfl, q H (Same.refl H)⟩
    | str y =>
      rw [rx.str]
      obtain ⟨t, e, q⟩ := resT_ok q (fun j e => by
        unfold truD at e
        simp only at e
        split at e <;> cases e)
      obtain ⟨hz, e⟩ := rs_ite e
      cases e
      exact ⟨_, ⟨hz, rfl⟩, q⟩
    | list ds =>
      obtain ⟨p, xs, rfl, hs, r⟩ := rx.lstE
      exact ⟨!ds.isEmpty, .inl ⟨xs, hs, (isE r.length).symm⟩, q H (Same.refl H)⟩
    | tuple ds =>
      obtain ⟨p, xs, rfl, hs, r⟩ := rx.tup
      exact ⟨!ds.isEmpty, .inr (.inl ⟨xs, hs, (isE r.length).symm⟩), q H (Same.refl H)⟩
    | dict _ => exact (show False from q).elim)
theorem zt_not {f : Rho → R Bool} (ha : ZT X cm W a f) : ZT X cm W (.UnaryOp .Not a pos) (cNot f) := PT.imp (pt_not ha) fun σ H Q ⟨C, r, E, q⟩ => ⟨C, r, E, pst_bind q⟩
theorem zw_and1 {f : Rho → R Bool} (ha : ZT X cm W a f) : ZW X cm W (.BoolOp .And [a] pos) f := pw_and1 ha
theorem zw_or1 {f : Rho → R Bool} (ha : ZT X cm W a f) : ZW X cm W (.BoolOp .Or [a] pos) f := pw_or1 ha
theorem zw_and {rest : List Expr} {f g : Rho → R Bool} (ha : ZT X cm W a f) (hb : ZW X cm W (.BoolOp .And (b :: rest) pos) g) : ZW X cm W (.BoolOp .And (a :: b :: rest) pos) (cAnd f g) := PW.imp (pw_and ha hb) fun σ H Q ⟨C, r, E, q⟩ =>
  ⟨C, r, E, pst_imp (pst_bind q) fun t q H1 s1 => by
    cases t with
    | true => exact ⟨C, r, E.go s1, pst_imp (pst_go q s1) fun t q H2 s2 => q H2 (s1.trans s2)⟩
    | false => exact q H1 s1⟩
theorem zw_or {rest : List Expr} {f g : Rho → R Bool} (ha : ZT X cm W a f) (hb : ZW X cm W (.BoolOp .Or (b :: rest) pos) g) : ZW X cm W (.BoolOp .Or (a :: b :: rest) pos) (cOr f g) := PW.imp (pw_or ha hb) fun σ H Q ⟨C, r, E, q⟩ =>
  ⟨C, r, E, pst_imp (pst_bind q) fun t q H1 s1 => by
    cases t with
    | false => exact ⟨C, r, E.go s1, pst_imp (pst_go q s1) fun t q H2 s2 => q H2 (s1.trans s2)⟩
    | true => exact q H1 s1⟩
theorem zt_w {f : Rho → R Bool} (h : ZW X cm W e f) : ZT X cm W e f := h.pt
theorem ze_one {op} (h : ZE X cm W a f) : ZE X cm W (.BoolOp op [a] pos) f := pe_one h
theorem ze_and {rest : List Expr} (ha : ZE X cm W a f) (hb : ZE X cm W (.BoolOp .And (b :: rest) pos) g) : ZE X cm W (.BoolOp .And (a :: b :: rest) pos) (cAndV f g) := PE.imp (pe_and ha hb) fun σ H Q ⟨C, r, E, q⟩ =>
  ⟨C, r, E, pst_imp (pst_bind q) fun d q v H1 s1 r1 => by
    cases d with
    | bool t =>
      cases r1
      refine ⟨t, rfl, ?_⟩
      cases t with
      | true => exact ⟨C, r, E.go s1, pst_imp (pst_go q s1) fun t q v H2 s2 => q v H2 (s1.trans s2)⟩
      | false => exact q (.bl false) H1 s1 (.bl false)
    | _ => exact (show False from q).elim⟩
theorem ze_or {rest : List Expr} (ha : ZE X cm W a f) (hb : ZE X cm W (.BoolOp .Or (b :: rest) pos) g) : ZE X cm W (.BoolOp .Or (a :: b :: rest) pos) (cOrV f g) := PE.imp (pe_or ha hb) fun σ H Q ⟨C, r, E, q⟩ =>
  ⟨C, r, E, pst_imp (pst_bind q) fun d q v H1 s1 r1 => by
    cases d with
    | bool t =>
      cases r1
      refine ⟨t, rfl, ?_⟩
      cases t with
      | false => exact ⟨C, r, E.go s1, pst_imp (pst_go q s1) fun t q v H2 s2 => q v H2 (s1.trans s2)⟩
      | true => exact q (.bl true) H1 s1 (.bl true)
    | _ => exact (show False from q).elim⟩
def cNotV (f : Rho → R D) : Rho → R D := fun r => (f r).bind fun x => (boolD x).bind fun b => .ok (.bool (!b))
theorem ze_not (ha : ZE X cm W a f) : ZE X cm W (.UnaryOp .Not a pos) (cNotV f) := PE.imp (pe_not ha) fun σ H Q ⟨C, r, E, q⟩ =>
  ⟨C, r, E, pst_imp (pst_bind q) fun d q v H1 s1 r1 => by
    cases d with
    | bool t =>
      cases r1
      exact ⟨t, rfl, q (.bl (!t)) H1 s1 (.bl (!t))⟩
    | _ => exact (show False from q).elim⟩
theorem ze_if {t : Rho → R Bool} (hc : ZT X cm W c t) (ha : ZE X cm W a f) (hb : ZE X cm W b g) : ZE X cm W (.IfExp c a b pos) (cIf t f g) := PE.imp (pe_ifExp hc ha hb) fun σ H Q ⟨C, r, E, q⟩ =>
  ⟨C, r, E, pst_imp (pst_bind q) fun t q H1 s1 => by
    cases t with
    | true => exact ⟨C, r, E.go s1, pst_imp (pst_go q s1) fun t q v H2 s2 => q v H2 (s1.trans s2)⟩
    | false => exact ⟨C, r, E.go s1, pst_imp (pst_go q s1) fun t q v H2 s2 => q v H2 (s1.trans s2)⟩⟩
theorem zt_chain {op op' : CmpOp} {F G : D → D → R Bool} (h1 : Cmp X op F) (h2 : Cmp X op' G) (ha : ZK X cm W a f) (hb : ZK X cm W b g) (hc : ZK X cm W c h) (n1 : ∀ d e j, F d e ≠ .ex j) (n2 : ∀ d e j, G d e ≠ .ex j)
    (hm : lastMarks [op, op'] [b, c] = false := by with_unfolding_all rfl) : ZT X cm W (.Compare a [op, op'] [b, c] pos) (cCh F G f g h) := by
  obtain ⟨r1, o1, k1⟩ := h1
  obtain ⟨r2, o2, k2⟩ := h2
  refine PT.imp (pt_chain o1 o2 ha hb hc hm) fun σ H Q ⟨C, r, E, q⟩ => ⟨C, r, E, pst_imp (pst_bind q) fun d q v H1 s1 rv => ⟨C, r, E.go s1, pst_imp (pst_bind (pst_go q s1)) fun e q w H2 s2 rw' => ?_⟩⟩
  have q2 : pst cm W σ H1 ((F d e).bind fun b => if b then (h r).bind fun z => G e z else .ok false) fun b => ∀ H', Same H H' → Q b H' := q
  cases hF : F d e with
  | ex j => exact (n1 d e j hF).elim
  | no => rw [hF] at q2; exact (show False from q2).elim
  | ok t =>
    rw [hF] at q2
    refine k1 H2 _ v w d e _ (rv.mono s2 (fun _ z => .inl z)) rw' ⟨t, hF, t, rfl, ?_⟩
    cases t with
    | false => exact ⟨false, rfl, q2 H2 (s1.trans s2)⟩
    | true =>
      refine ⟨C, r, E.go (s1.trans s2), pst_imp (pst_bind (pst_go q2 s2)) fun z q3 y H3 s3 ry => ?_⟩
      cases hG : G e z with
      | ex j => exact (n2 e z j hG).elim
      | no =>
        have q4 : pst cm W σ H2 (G e z) fun b => ∀ H', Same H H' → Q b H' := q3
        rw [hG] at q4
        exact (show False from q4).elim
      | ok t =>
        have q4 : pst cm W σ H2 (G e z) fun b => ∀ H', Same H H' → Q b H' := q3
        rw [hG] at q4
        exact k2 H3 _ w y e z _ (rw'.mono s3 (fun _ z => .inl z)) ry ⟨t, hG, t, rfl, q4 H3 ((s1.trans s2).trans s3)⟩

/-! ### subscripts -/
theorem atI_rp {K : PySem.W.Frag} {H : Hp} {B : Addr → Prop} {vs : List V} {ds : List D} {i : Int} {d : D} (r : RpAll K H B vs ds) (h : atI ds i = some d) : ∃ v, atI vs i = some v ∧ Rp K H B v d := by
  unfold atI at h ⊢
  rw [r.length]
  cases hj : ixN ds.length i with
  | none => rw [hj] at h; cases h
  | some j =>
    rw [hj] at h
    exact r.get' h
theorem atD_ok {ds : List D} {i : Int} {σ : St} {K : PySem.W.Frag} {B : Addr → Prop} {H : Hp} {Q : VK} (h : Res K cm W σ B H (atD ds i) Q) : ∃ d, atI ds i = some d ∧ Res K cm W σ B H (.ok d) Q := by
  unfold atD at h
  cases e : atI ds i with
  | none => rw [e] at h; exact (show False from h).elim
  | some d => rw [e] at h; exact ⟨d, rfl, h⟩
theorem Rp.ofAll {K : PySem.W.Frag} {H : Hp} {B : Addr → Prop} : True := trivial
theorem ze_ix (ha : ZK X cm W a f) (hb : ZK X cm W b g) (hs : PlainIx b := by exact fun _ _ => rfl) : ZE X cm W (.Subscript a b pos) (cB2 ixD f g) :=
  PE.imp (pe_ix ix_seq ha hb hs) (then2 fun σ H B x y d e Q hb rx ry q => by
    cases e with
    | int i =>
      cases d with
      | list ds =>
        obtain ⟨p, xs, rfl, h1, r1⟩ := rx.lstE
        obtain ⟨d, hd, q⟩ := atD_ok (show Res X.K cm W σ B H (atD ds i) Q from q)
        obtain ⟨v, hv, rv⟩ := atI_rp r1 hd
        exact .inl ⟨p, xs, i, v, rfl, ry.int, h1, hv, q.ok rv⟩
      | tuple ds =>
        obtain ⟨p, xs, rfl, h1, r1⟩ := rx.tup
        obtain ⟨d, hd, q⟩ := atD_ok (show Res X.K cm W σ B H (atD ds i) Q from q)
        obtain ⟨v, hv, rv⟩ := atI_rp r1 hd
        exact .inr (.inl ⟨p, xs, i, v, rfl, ry.int, h1, hv, q.ok rv⟩)
      | str z =>
        obtain ⟨hz, q⟩ := res_ite q
        cases hc : atI z.cps.toList i with
        | none => rw [hc] at q; exact (show False from q).elim
        | some c =>
          rw [hc] at q
          exact .inr (.inr ⟨z, i, c, rx.str, ry.int, hz, hc, q.ok (.str _)⟩)
      | _ => exact (show False from q).elim
    | _ => cases d <;> exact (show False from q).elim)
theorem cut_rp {K : PySem.W.Frag} {H : Hp} {B : Addr → Prop} {vs : List V} {ds : List D} (r : RpAll K H B vs ds) (lo hi : Option Int) : RpAll K H B (cutV vs lo hi) (cutD ds lo hi) := by
  unfold cutV cutD
  rw [r.length]
  exact (r.drop _).take _
/-- an end of a slice -/
def tO (K : PySem.W.Frag) (cm : Nat → Addr) (W : WX) (f : OF) : TO := fun σ H Q => ∃ C r, EnvOk K C H r σ ∧ pst cm W σ H (f r) fun o => ∀ H', Same H H' → Q o H'
abbrev ZO (X : Cx) (cm : Nat → Addr) (W : WX) (e : Option Expr) (f : OF) : Prop := PO X e (tO X.K cm W f)
theorem PO.imp {e : Option Expr} {t t' : TO} (h : PO X e t) (i : ∀ σ H Q, t' σ H Q → t σ H Q) : PO X e t' := ⟨fun pins s σ H Q I q => h.run pins s σ H Q I (i σ H Q q)⟩
theorem zo_none : ZO X cm W none cO0 := PO.imp po_none fun σ H Q ⟨C, r, E, q⟩ => q H (Same.refl H)
theorem zo_some (ha : ZE X cm W a f) : ZO X cm W (some a) (cO f) := PO.imp (po_some ha) fun σ H Q ⟨C, r, E, q⟩ => ⟨C, r, E, pst_imp (pst_bind q) fun d q v H1 s1 r1 => by
  cases d with
  | int i => cases r1; exact ⟨i, rfl, q H1 s1⟩
  | _ => exact (show False from q).elim⟩
theorem ze_sl {lo hi : Option Expr} {p2 : Pos} {l u : OF} (ha : ZK X cm W a f) (hl : ZO X cm W lo l) (hu : ZO X cm W hi u) : ZE X cm W (.Subscript a (.Slice lo hi none p2) pos) (cSl f l u) :=
  PE.imp (pe_slice (sl_list.or (sl_str.or sl_tupA)) ha hl hu) fun σ H Q ⟨C, r, E, q⟩ => ⟨C, r, E, pst_imp (pst_bind q) fun d q v H1 s1 r1 => ⟨C, r, E.go s1, pst_imp (pst_bind (pst_go q s1)) fun lo q H2 s2 => ⟨C, r, E.go (s1.trans s2), pst_imp (pst_bind (pst_go q s2)) fun hi q H3 s3 => by
    have rx := r1.mono (B' := BB C r σ) (s2.trans s3) (fun _ z => .inl z)
    have hb := E.nb.go ((s1.trans s2).trans s3)
    have q : Res X.K cm W σ (BB C r σ) H3 (slD lo hi d) Q := pst_imp (pst_go q s3) fun d q v H4 s4 => q v H4 (((s1.trans s2).trans s3).trans s4)
    cases d with
    | list ds =>
      obtain ⟨p, xs, rfl, h1, r1⟩ := rx.lstE
      exact .inl ⟨p, xs, rfl, h1, fun p hp => q.lst hb (cut_rp r1 lo hi) hp⟩
    | str z =>
      obtain ⟨hz, q⟩ := res_ite q
      exact .inr (.inl ⟨z, rx.str, hz, q.ok (.str _)⟩)
    | tuple ds =>
      obtain ⟨p, xs, rfl, h1, r1⟩ := rx.tup
      refine .inr (.inr ⟨p, xs, rfl, h1, fun hw => ?_, fun _ p hp => q.tup (cut_rp r1 lo hi) hp⟩)
      have e : cutD ds lo hi = ds := by
        unfold cutD
        rw [← r1.length, hw.1, hw.2, List.drop_zero, Nat.sub_zero, r1.length, List.take_length]
      have q' : Res X.K cm W σ (BB C r σ) H3 (.ok (.tuple (cutD ds lo hi))) Q := q
      rw [e] at q'
      exact q'.ok (.tup h1 r1)
    | _ => exact (show False from q).elim⟩⟩⟩

/-! ### builtins by name -/
theorem CallR.or {ff : Value} {r r' : List V → Hp → VK → Prop} (h : CallR X ff r) (h' : CallR X ff r') : CallR X ff (fun xs H Q => r xs H Q ∨ r' xs H Q) := by
  intro pins s σ H xs us Q I rv q
  rcases q with q | q
  · exact h pins s σ H xs us Q I rv q
  · exact h' pins s σ H xs us Q I rv q
section
variable {x : Str} {p : Pos} {id T : String} {rr : List V → Hp → VK → Prop}
theorem ze_b1 {F : D → R D} (hc : CallR X (.builtin id) rr) (hk : ∀ σ H B x d Q, NB B H → RpC X.K H B x d → Res X.K cm W σ B H (F d) Q → rr [x] H Q) (hv : bootBuiltins x = some (.builtin id)) (ha : ZK X cm W a f) (hm : X.mg x = none) (hg : Gl X x := by rfl)
    (hn : x ≠ "__name__" := by decide) (hdb : (x == ("__debug__" : Str)) = false := by decide) (he : starEach (a :: []) X.env = (false, eval a X.env) :: starEach [] X.env := by rfl) (hpl : (backTo pos (starEach [] X.env)).any (·.1) = false := by rfl) :
    ZE X cm W (.Call (.Name x p) [a] [] pos) (cB1 F f) := PE.imp (pe_callB hc hg hm hv (pa_cons ha pa_nil he) hn hdb he hpl) (then1 (kk := fun x H Q => rr [x] H Q) hk)
theorem ze_t1 {F : D → R D} (hc : CallR X (.type T) rr) (hk : ∀ σ H B x d Q, NB B H → RpC X.K H B x d → Res X.K cm W σ B H (F d) Q → rr [x] H Q) (hv : bootBuiltins x = some (.type T)) (ha : ZK X cm W a f) (hm : X.mg x = none) (hg : Gl X x := by rfl)
    (hn : x ≠ "__name__" := by decide) (hdb : (x == ("__debug__" : Str)) = false := by decide) (he : starEach (a :: []) X.env = (false, eval a X.env) :: starEach [] X.env := by rfl) (hpl : (backTo pos (starEach [] X.env)).any (·.1) = false := by rfl) :
    ZE X cm W (.Call (.Name x p) [a] [] pos) (cB1 F f) := PE.imp (pe_callTy hc hg hm hv (pa_cons ha pa_nil he) hn hdb he hpl) (then1 (kk := fun x H Q => rr [x] H Q) hk)
theorem zf_t1 {F : D → R (List D)} (hc : CallR X (.type T) rr) (hk : ∀ σ H B x d Q, NB B H → RpC X.K H B x d → ResF X.K cm W σ B H (F d) Q → rr [x] H Q) (hv : bootBuiltins x = some (.type T)) (ha : ZK X cm W a f) (hm : X.mg x = none) (hg : Gl X x := by rfl)
    (hn : x ≠ "__name__" := by decide) (hdb : (x == ("__debug__" : Str)) = false := by decide) (he : starEach (a :: []) X.env = (false, eval a X.env) :: starEach [] X.env := by rfl) (hpl : (backTo pos (starEach [] X.env)).any (·.1) = false := by rfl) :
    ZF X cm W (.Call (.Name x p) [a] [] pos) (fun r => (f r).bind F) := PE.imp (pe_callTy hc hg hm hv (pa_cons ha pa_nil he) hn hdb he hpl) (then1F (kk := fun x H Q => rr [x] H Q) hk)
end
section
variable {p : Pos} (ha : ZK X cm W a f)
theorem ze_len (ha : ZK X cm W a f) (hm : X.mg "len" = none) (hg : Gl X "len" := by rfl) (he : starEach (a :: []) X.env = (false, eval a X.env) :: starEach [] X.env := by rfl) : ZE X cm W (.Call (.Name "len" p) [a] [] pos) (cB1 lenD f) :=
  ze_b1 (CallR.or call_len_seq call_len_str) (fun σ H B x d Q hb rx q => by
    cases d with
    | list ds =>
      obtain ⟨p, xs, rfl, h1, r1⟩ := rx.lstE
      have q : Q (.int (ds.length : Int)) H := (show Res X.K cm W σ B H (.ok (.int ds.length)) Q from q).ok (.int _)
      rw [← r1.length] at q
      exact .inl ⟨p, xs, rfl, .inl h1, q⟩
    | tuple ds =>
      obtain ⟨p, xs, rfl, h1, r1⟩ := rx.tup
      have q : Q (.int (ds.length : Int)) H := (show Res X.K cm W σ B H (.ok (.int ds.length)) Q from q).ok (.int _)
      rw [← r1.length] at q
      exact .inl ⟨p, xs, rfl, .inr h1, q⟩
    | str z =>
      obtain ⟨hz, q⟩ := res_ite q
      exact .inr ⟨z, by rw [rx.str], hz, q.ok (.int _)⟩
    | _ => exact (show False from q).elim) PySem.boot_len ha hm hg (by decide) (by decide) he rfl
theorem ze_abs (ha : ZK X cm W a f) (hm : X.mg "abs" = none) (hg : Gl X "abs" := by rfl) (he : starEach (a :: []) X.env = (false, eval a X.env) :: starEach [] X.env := by rfl) : ZE X cm W (.Call (.Name "abs" p) [a] [] pos) (cB1 absD f) :=
  ze_b1 call_abs (fun σ H B x d Q hb rx q => by
    cases d with
    | int i => exact ⟨i, by rw [rx.int], (show Res X.K cm W σ B H (.ok (.int (if i < 0 then -i else i))) Q from q).ok (.int _)⟩
    | _ => exact (show False from q).elim) (by decide +kernel) ha hm hg (by decide) (by decide) he rfl
theorem ze_toint (ha : ZK X cm W a f) (hm : X.mg "int" = none) (hg : Gl X "int" := by rfl) (he : starEach (a :: []) X.env = (false, eval a X.env) :: starEach [] X.env := by rfl) : ZE X cm W (.Call (.Name "int" p) [a] [] pos) (cB1 intD f) :=
  ze_t1 (CallR.or call_int1 call_int_str) (fun σ H B x d Q hb rx q => by
    cases d with
    | int i => exact .inl (.inl ⟨i, by rw [rx.int], (show Res X.K cm W σ B H (.ok (.int i)) Q from q).ok (.int _)⟩)
    | bool i => exact .inl (.inr ⟨i, by rw [rx.bl], (show Res X.K cm W σ B H (.ok (.int (if i then 1 else 0))) Q from q).ok (.int _)⟩)
    | str z =>
      have q' : Res X.K cm W σ B H (intS z) Q := q
      unfold intS at q'
      cases e : PySem.intText? z with
      | none => rw [e] at q'; exact (show False from q').elim
      | some n =>
        rw [e] at q'
        obtain ⟨hz, q'⟩ := res_ite q'
        exact .inr ⟨z, n, by rw [rx.str], e, hz, q'.ok (.int _)⟩
    | _ => exact (show False from q).elim) (by decide +kernel) ha hm hg (by decide) (by decide) he rfl
theorem ze_tostr (ha : ZK X cm W a f) (hm : X.mg "str" = none) (hg : Gl X "str" := by rfl) (he : starEach (a :: []) X.env = (false, eval a X.env) :: starEach [] X.env := by rfl) : ZE X cm W (.Call (.Name "str" p) [a] [] pos) (cB1 strD f) :=
  ze_t1 (CallR.or call_str_int SkE.call_str_str) (fun σ H B x d Q hb rx q => by
    cases d with
    | int i =>
      obtain ⟨hz, q⟩ := res_ite q
      exact .inl ⟨i, by rw [rx.int], hz, q.ok (.str _)⟩
    | str i => exact .inr ⟨i, by rw [rx.str], (show Res X.K cm W σ B H (.ok (.str i)) Q from q).ok (.str _)⟩
    | _ => exact (show False from q).elim) (by decide +kernel) ha hm hg (by decide) (by decide) he rfl
theorem ze_all (A : Amb X W k) (ha : ZK X cm W a f) (hm : X.mg "all" = none) (hg : Gl X "all" := by rfl) (he : starEach (a :: []) X.env = (false, eval a X.env) :: starEach [] X.env := by rfl) : ZE X cm W (.Call (.Name "all" p) [a] [] pos) (cB1 allD f) :=
  ze_b1 (cr_all A.calm) (fun σ H B x d Q hb rx q => by
    cases d with
    | list ds =>
      obtain ⟨p, xs, rfl, h1, r1⟩ := rx.lstE
      obtain ⟨bs, e, q⟩ := res_bind (bools_nox ds) (show Res X.K cm W σ B H ((bools ds).bind fun bs => .ok (.bool (bs.all id))) Q from q)
      exact ⟨p, bs, rfl, by rw [← bools_rp e r1]; exact h1, q.ok (.bl _)⟩
    | _ => exact (show False from q).elim) (by decide +kernel) ha hm hg (by decide) (by decide) he rfl
theorem ze_any (A : Amb X W k) (ha : ZK X cm W a f) (hm : X.mg "any" = none) (hg : Gl X "any" := by rfl) (he : starEach (a :: []) X.env = (false, eval a X.env) :: starEach [] X.env := by rfl) : ZE X cm W (.Call (.Name "any" p) [a] [] pos) (cB1 anyD f) :=
  ze_b1 (cr_any A.calm) (fun σ H B x d Q hb rx q => by
    cases d with
    | list ds =>
      obtain ⟨p, xs, rfl, h1, r1⟩ := rx.lstE
      obtain ⟨bs, e, q⟩ := res_bind (bools_nox ds) (show Res X.K cm W σ B H ((bools ds).bind fun bs => .ok (.bool (bs.any id))) Q from q)
      exact ⟨p, bs, rfl, by rw [← bools_rp e r1]; exact h1, q.ok (.bl _)⟩
    | _ => exact (show False from q).elim) (by decide +kernel) ha hm hg (by decide) (by decide) he rfl
theorem ze_sum (A : Amb X W k) (ha : ZK X cm W a f) (hm : X.mg "sum" = none) (hg : Gl X "sum" := by rfl) (he : starEach (a :: []) X.env = (false, eval a X.env) :: starEach [] X.env := by rfl) : ZE X cm W (.Call (.Name "sum" p) [a] [] pos) (cB1 sumD f) :=
  ze_b1 (cr_sum A.calm) (fun σ H B x d Q hb rx q => by
    cases d with
    | list ds =>
      obtain ⟨p, xs, rfl, h1, r1⟩ := rx.lstE
      obtain ⟨bs, e, q⟩ := res_bind (ints_nox ds) (show Res X.K cm W σ B H ((intsOf ds).bind fun bs => .ok (.int bs.sum)) Q from q)
      exact ⟨p, bs, rfl, by rw [← ints_rp e r1]; exact h1, q.ok (.int _)⟩
    | _ => exact (show False from q).elim) (by decide +kernel) ha hm hg (by decide) (by decide) he rfl
theorem ze_tuple (ha : ZK X cm W a f) (hm : X.mg "tuple" = none) (hg : Gl X "tuple" := by rfl) (he : starEach (a :: []) X.env = (false, eval a X.env) :: starEach [] X.env := by rfl) : ZE X cm W (.Call (.Name "tuple" p) [a] [] pos) (cB1 tupD f) :=
  ze_t1 call_tuple_of (fun σ H B x d Q hb rx q => by
    cases d with
    | list ds =>
      obtain ⟨p, xs, rfl, h1, r1⟩ := rx.lstE
      exact ⟨p, xs, rfl, .inl ⟨h1, fun l hl => (show Res X.K cm W σ B H (.ok (.tuple ds)) Q from q).tup r1 hl⟩⟩
    | tuple ds =>
      obtain ⟨p, xs, rfl, h1, r1⟩ := rx.tup
      exact ⟨p, xs, rfl, .inr ⟨h1, (show Res X.K cm W σ B H (.ok (.tuple ds)) Q from q).ok (.tup h1 r1)⟩⟩
    | _ => exact (show False from q).elim) (by decide +kernel) ha hm hg (by decide) (by decide) he rfl
theorem zf_list (ha : ZK X cm W a f) (hm : X.mg "list" = none) (hg : Gl X "list" := by rfl) (he : starEach (a :: []) X.env = (false, eval a X.env) :: starEach [] X.env := by rfl) : ZF X cm W (.Call (.Name "list" p) [a] [] pos) (fun r => (f r).bind listD) :=
  zf_t1 call_list_of (fun σ H B x d Q hb rx q => by
    cases d with
    | list ds =>
      obtain ⟨p, xs, rfl, h1, r1⟩ := rx.lstE
      exact ⟨p, xs, rfl, .inl h1, fun l hl => (show ResF X.K cm W σ B H (.ok ds) Q from q).lst r1 hl⟩
    | tuple ds =>
      obtain ⟨p, xs, rfl, h1, r1⟩ := rx.tup
      exact ⟨p, xs, rfl, .inr h1, fun l hl => (show ResF X.K cm W σ B H (.ok ds) Q from q).lst r1 hl⟩
    | _ => exact (show False from q).elim) (by decide +kernel) ha hm hg (by decide) (by decide) he rfl
end

/-! ### methods of texts -/
theorem pst_str {σ : St} {H : Hp} {β : Type} {d : D} {F : Str → R β} {p : β → Prop} (h : pst cm W σ H ((strOfD d).bind F) p) : ∃ a, d = .str a ∧ pst cm W σ H (F a) p := by
  cases d with
  | str a => exact ⟨a, rfl, h⟩
  | _ => exact (show False from h).elim
theorem pst_ite {σ : St} {H : Hp} {β : Type} {c : Prop} [Decidable c] {x : R β} {p : β → Prop} (h : pst cm W σ H (if c then x else .no) p) : c ∧ pst cm W σ H x p := by
  by_cases hp : c
  · rw [if_pos hp] at h
    exact ⟨hp, h⟩
  · rw [if_neg hp] at h
    exact (show False from h).elim
section
variable {o : Expr} {apos cpos : Pos}
theorem zf_split (ho : ZK X cm W o f) (he : ZK X cm W e g) (hs : starEach [e] X.env = [(false, eval e X.env)] := by rfl) (hbase : attributeBase o "split" X.env (eval o X.env) = eval o X.env := by rfl) (hline : (apos.endLine == pos.line) = true := by rfl) :
    ZF X cm W (.Call (.Attribute o "split" apos) [e] [] pos) (cM1F splitD f g) :=
  PE.imp (pe_split ho he hs hbase hline) fun σ H Q ⟨C, r, E, q⟩ => ⟨C, r, E, pst_imp (pst_bind q) fun d q v H1 s1 r1 => by
    obtain ⟨z, rfl, q⟩ := pst_str q
    refine ⟨⟨z, r1.str⟩, C, r, E.go s1, pst_imp (pst_bind (pst_go q s1)) fun d q w H2 s2 r2 => ?_⟩
    cases d with
    | str y =>
      obtain ⟨hc, q⟩ := pst_ite q
      exact ⟨z, y, r1.str, by rw [r2.str], hc.1, hc.2, fun p hp => q p _ _ ((s1.trans s2).trans (same_upd hp)) ((s1.trans s2).free hp) upd_same (.strs _)⟩
    | _ => exact (show False from q).elim⟩
theorem ze_part (ho : ZK X cm W o f) (he : ZK X cm W e g) (hs : starEach [e] X.env = [(false, eval e X.env)] := by rfl) (hbase : attributeBase o "partition" X.env (eval o X.env) = eval o X.env := by rfl) (hline : (apos.endLine == pos.line) = true := by rfl) :
    ZE X cm W (.Call (.Attribute o "partition" apos) [e] [] pos) (cM1 partD f g) :=
  PE.imp (pe_partition ho he hs hbase hline) fun σ H Q ⟨C, r, E, q⟩ => ⟨C, r, E, pst_imp (pst_bind q) fun d q v H1 s1 r1 => by
    obtain ⟨z, rfl, q⟩ := pst_str q
    refine ⟨⟨z, r1.str⟩, C, r, E.go s1, pst_imp (pst_bind (pst_go q s1)) fun d q w H2 s2 r2 => ?_⟩
    cases d with
    | str y =>
      obtain ⟨hc, q⟩ := pst_ite q
      exact ⟨z, y, r1.str, by rw [r2.str], hc.1, hc.2, fun p hp => q (.ref p) _ ((s1.trans s2).trans (same_upd hp)) (.tup (.inl (.inl upd_same)) (.cons (.str _) (.cons (.str _) (.cons (.str _) .nil))))⟩
    | _ => exact (show False from q).elim⟩
theorem pst_nox {σ : St} {H : Hp} {α β : Type} {x : R α} {F : α → R β} {p : β → Prop} (nx : ∀ j, x ≠ .ex j) (h : pst cm W σ H (x.bind F) p) : ∃ t, x = .ok t ∧ pst cm W σ H (F t) p := by
  cases x with
  | ok t => exact ⟨t, rfl, h⟩
  | ex j => exact (nx j rfl).elim
  | no => exact (show False from h).elim
theorem starD_rp {K : PySem.W.Frag} {H : Hp} {B : Addr → Prop} {v : V} {d : D} {ds : List D} (h : starD d = .ok ds) (r : RpC K H B v d) : ∃ p xs, v = .ref p ∧ (SqL K H p xs ∨ SqT K H p xs) ∧ RpAll K H B xs ds := by
  cases d with
  | list es =>
    cases h
    obtain ⟨p, xs, e, h1, r1⟩ := r.lstE
    exact ⟨p, xs, e, .inl h1, r1⟩
  | tuple es =>
    cases h
    obtain ⟨p, xs, e, h1, r1⟩ := r.tup
    exact ⟨p, xs, e, .inr h1, r1⟩
  | _ => cases h
theorem starD_nox : ∀ (d : D) j, starD d ≠ .ex j := fun d j e => by cases d <;> cases e
theorem ze_join (ho : ZK X cm W o f) (he : ZK X cm W e g) (hs : starEach [e] X.env = [(false, eval e X.env)] := by rfl) (hbase : attributeBase o "join" X.env (eval o X.env) = eval o X.env := by rfl) (hline : (apos.endLine == pos.line) = true := by rfl) :
    ZE X cm W (.Call (.Attribute o "join" apos) [e] [] pos) (cM1 joinD f g) :=
  PE.imp (pe_join ho he hs hbase hline) fun σ H Q ⟨C, r, E, q⟩ => ⟨C, r, E, pst_imp (pst_bind q) fun d q v H1 s1 r1 => by
    obtain ⟨z, rfl, q⟩ := pst_str q
    refine ⟨⟨z, r1.str⟩, C, r, E.go s1, pst_imp (pst_bind (pst_go q s1)) fun d q w H2 s2 r2 => ?_⟩
    obtain ⟨ds, h1, q⟩ := pst_nox (starD_nox d) q
    obtain ⟨ys, h2, q⟩ := pst_nox (strs_nox ds) q
    obtain ⟨hz, q⟩ := pst_ite q
    obtain ⟨p, xs, e, hq, rx⟩ := starD_rp h1 r2
    have e2 := strs_rp h2 rx
    subst e2
    exact ⟨z, p, ys, r1.str, by rw [e], hq, hz, q (.str _) H2 (s1.trans s2) (.str _)⟩⟩
theorem ze_upper (ho : ZK X cm W o f) (hbase : attributeBase o "upper" X.env (eval o X.env) = eval o X.env := by rfl) (hline : (apos.endLine == pos.line) = true := by rfl) :
    ZE X cm W (.Call (.Attribute o "upper" apos) [] [] pos) (cM0 upperD f) :=
  PE.imp (pe_upper ho hbase hline) fun σ H Q ⟨C, r, E, q⟩ => ⟨C, r, E, pst_imp (pst_bind q) fun d q v H1 s1 r1 => by
    obtain ⟨z, rfl, q⟩ := pst_str q
    obtain ⟨hz, q⟩ := pst_ite q
    exact ⟨⟨z, r1.str⟩, z, r1.str, rfl, hz, q (.str _) H1 s1 (.str _)⟩⟩
theorem zf_splitMax {e2 : Expr} (ho : ZK X cm W o f) (he : ZK X cm W e g) (he2 : ZK X cm W e2 h)
    (hbase : attributeBase o "split" X.env (eval o X.env) = eval o X.env := by rfl)
    (hfew : ((backTo cpos (starEach (e :: [e2]) X.env)).all (fun x => !x.1) && (backToKw cpos (keywordEach [] X.env)).all (fun x => x.1.isSome)
      && decide ((e :: [e2]).length + ([] : List Keyword).length + (if ([] : List Keyword).isEmpty then 0 else 1) < 30)) = true := by rfl)
    (hline : (apos.endLine == cpos.line) = true := by rfl) (hs : starEach (e :: [e2]) X.env = (false, eval e X.env) :: starEach [e2] X.env := by rfl) (hs2 : starEach (e2 :: []) X.env = (false, eval e2 X.env) :: starEach [] X.env := by rfl) (hplain : (backTo cpos (starEach [e2] X.env)).any (·.1) = false := by rfl) :
    ZF X cm W (.Call (.Attribute o "split" apos) [e, e2] [] cpos) (cM2F splitMaxD f g h) :=
  PE.imp (pe_bm PySem.F.plainAttrs_str PySem.F.slot_str_split PySem.F.type_str_split mt_splitMax ho (pa_cons he (pa_cons he2 pa_nil hs2) hs) hbase hfew hline hs hplain) fun σ H Q ⟨C, r, E, q⟩ => ⟨C, r, E, pst_imp (pst_bind q) fun d q v H1 s1 r1 => by
    obtain ⟨z, rfl, q⟩ := pst_str q
    have ev := r1.str
    subst ev
    refine ⟨rfl, C, r, E.go s1, pst_imp (pst_bind (pst_go q s1)) fun d q w H2 s2 r2 => ⟨C, r, E.go (s1.trans s2), pst_imp (pst_bind (pst_go q s2)) fun d3 q w3 H3 s3 r3 => ?_⟩⟩
    cases d with
    | str y =>
      cases d3 with
      | int n =>
        obtain ⟨hc, q⟩ := pst_ite q
        have s := (s1.trans s2).trans s3
        exact ⟨z, y, n, rfl, by rw [r2.str, r3.int], hc.1, hc.2.1, hc.2.2.1, hc.2.2.2, fun p hp => q p _ _ (s.trans (same_upd hp)) (s.free hp) upd_same (.strs _)⟩
      | _ => exact (show False from q).elim
    | _ => cases d3 <;> exact (show False from q).elim⟩
end

/-! ### f-strings -/
structure ZJ (X : Cx) (cm : Nat → Addr) (W : WX) (es : List Expr) (g : Str → Rho → R Str) : Prop where
  run : ∃ ts, PJ X es ts ∧ ∀ (acc : Str) (σ : St) (H : Hp) (Q : Str → Hp → Prop) (C : ZC) (r : Rho), EnvOk X.K C H r σ → (pst cm W σ H (g acc r) fun out => ∀ H', Same H H' → Q out H') → tJs ts acc σ H Q
theorem zj_nil : ZJ X cm W [] cJ0 := ⟨[], .nil, fun acc σ H Q C r E q => q H (Same.refl H)⟩
theorem zj_cons {es : List Expr} {g : Str → Rho → R Str} (h : ZE X cm W e f) (r : ZJ X cm W es g) : ZJ X cm W (e :: es) (cJc f g) := by
  obtain ⟨ts, h2, k2⟩ := r.run
  refine ⟨_, .cons h h2, fun acc σ H Q C r E q => ⟨C, r, E, pst_imp (pst_bind q) fun d q v H1 s1 r1 => ?_⟩⟩
  obtain ⟨y, rfl, q⟩ := pst_str q
  cases r1
  obtain ⟨hz, q⟩ := pst_ite q
  exact ⟨y, rfl, hz, k2 (acc ++ y) σ H1 Q C r (E.go s1) (pst_imp (pst_go q s1) fun out q H2 s2 => q H2 (s1.trans s2))⟩
theorem ze_fmt (ha : ZE X cm W a f) : ZE X cm W (.FormattedValue a (-1) none pos) (cB1 fmtD f) := PE.imp (pe_fmt ha) (then1V (kk := fun x H Q => (∃ y : Str, x = .str y ∧ y.length ≤ sizeLine ∧ Q (.str y) H) ∨ ∃ i : Int, x = .int i ∧ i.natAbs.log2 < 1920 ∧ Q (.str (toString i)) H) fun σ H B x d Q hb rx q => by
    cases d with
    | str y =>
      cases rx
      obtain ⟨hz, q⟩ := res_ite q
      exact .inl ⟨y, rfl, hz, q.ok (.str _)⟩
    | int y =>
      cases rx
      obtain ⟨hz, q⟩ := res_ite q
      exact .inr ⟨y, rfl, hz, q.ok (.str _)⟩
    | _ => exact (show False from q).elim)
theorem ze_joined {v1 v2 : Expr} {rest : List Expr} {g : Str → Rho → R Str} (h : ZJ X cm W (v1 :: v2 :: rest) g) : ZE X cm W (.JoinedStr (v1 :: v2 :: rest) pos) (cJ g) := by
  obtain ⟨ts, h1, k1⟩ := h.run
  exact PE.imp (pe_joined h1) fun σ H Q ⟨C, r, E, q⟩ => k1 Str.empty σ H _ C r E (pst_imp (pst_bind q) fun out q H1 s1 => q (.str out) H1 s1 (.str out))
theorem ze_joined1 (h : ZE X cm W a f) : ZE X cm W (.JoinedStr [a] pos) f := pe_joined1 h
end
end Z


set_option Elab.async false
set_option linter.all false
set_option maxRecDepth 100000
set_option maxHeartbeats 4000000
namespace Z
open PySem PySem.Spec PyProof.Rows L2

/-! ### statements -/
inductive Out where
  | nx (r : Rho)
  | rt (d : D)
  | bk (r : Rho)
  | ct (r : Rho)
  | xx (k : Nat) (r : Rho)
  | no
abbrev SF := Rho → Out
def onE {α : Type} (x : R α) (r : Rho) (g : α → Out) : Out := match x with
  | .ok a => g a
  | .ex k => .xx k r
  | .no => .no
def pso (K : PySem.W.Frag) (cm : Nat → Addr) (W : WX) (C : ZC) (Dn : Ends) : Out → Prop
  | .nx r => ∀ σ H, EnvOk K C H r σ → Dn.nx σ H
  | .rt d => ∀ v H, Same C.H0 H → Rp K H C.B0 v d → Dn.rt v H
  | .bk r => ∀ σ H, EnvOk K C H r σ → Dn.bk σ H
  | .ct r => ∀ σ H, EnvOk K C H r σ → Dn.ct σ H
  | .xx k r => ∀ σ H, EnvOk K C H r σ → W (.ref (cm k)) none σ H
  | .no => False
def tS (K : PySem.W.Frag) (cm : Nat → Addr) (W : WX) (F : SF) : TS := fun Dn σ H => ∃ C r, EnvOk K C H r σ ∧ pso K cm W C Dn (F r)
abbrev ZS (X : Cx) (cm : Nat → Addr) (W : WX) (s : Stmt) (F : SF) : Prop := PS X s (tS X.K cm W F)
abbrev ZSs (X : Cx) (cm : Nat → Addr) (W : WX) (s : List Stmt) (F : SF) : Prop := PSs X s (tS X.K cm W F)
def sNil : SF := fun r => .nx r
def sSeq (F G : SF) : SF := fun r => match F r with
  | .nx r' => G r'
  | o => o
def sBrk : SF := fun r => .bk r
def sCt : SF := fun r => .ct r
def sEx (f : Rho → R D) : SF := fun r => onE (f r) r fun _ => .nx r
def sRet (f : Rho → R D) : SF := fun r => onE (f r) r fun d => .rt d
def sRetN : SF := fun _ => .rt .none
def sIf (t : Rho → R Bool) (F G : SF) : SF := fun r => onE (t r) r fun b => if b then F r else G r
def sSet (i : Nat) (f : Rho → R D) : SF := fun r => onE (f r) r fun d => .nx (r.set i (.sh d))
def sOwn (i : Nat) (f : Rho → R (List D)) : SF := fun r => onE (f r) r fun ds => if i < r.length then .nx (r.set i (.ow ds)) else .no
def sRel (i : Nat) (F : SF) : SF := fun r => match r[i]? with
  | some (.ow ds) => F (r.set i (.sh (.list ds)))
  | _ => F r
def sApp (i : Nat) (f : Rho → R D) : SF := fun r => match r[i]? with
  | some (.ow ds) => onE (f r) r fun d => if ds.length < sizeLine then .nx (r.set i (.ow (ds ++ [d]))) else .no
  | _ => .no
def sPut (i : Nat) (j f : Rho → R D) : SF := fun r => onE (f r) r fun d => match r[i]? with
  | some (.ow ds) => onE (j r) r fun n => match n with
    | .int n => match ixN ds.length n with
      | some m => .nx (r.set i (.ow (ds.set m d)))
      | none => .no
    | _ => .no
  | _ => .no
def sAsg (G : D → Rho → Option Rho) (f : Rho → R D) : SF := fun r => onE (f r) r fun d => match G d r with
  | some r' => .nx r'
  | none => .no
def sPar (i j : Nat) (f g : Rho → R D) : SF := fun r => onE (f r) r fun x => onE (g r) r fun y => .nx ((r.set i (.sh x)).set j (.sh y))
def sAug (i : Nat) (F : D → D → R D) (f : Rho → R D) : SF := fun r => match r[i]? with
  | some (.sh x) => onE (f r) r fun y => onE (F x y) r fun z => .nx (r.set i (.sh z))
  | _ => .no
def forL (G : D → Rho → Option Rho) (F : SF) : List D → SF
  | [], r => .nx r
  | d :: ds, r => match G d r with
    | none => .no
    | some r1 => match F r1 with
      | .nx r2 => forL G F ds r2
      | .ct r2 => forL G F ds r2
      | .bk r2 => .nx r2
      | o => o
def sFor (fi : Rho → R (List D)) (G : D → Rho → Option Rho) (F : SF) : SF := fun r => onE (fi r) r fun ds => forL G F ds r
def whileL (t : Rho → R Bool) (F : SF) : Nat → SF
  | 0, _ => .no
  | n + 1, r => onE (t r) r fun b => if b then (match F r with
    | .nx r2 => whileL t F n r2
    | .ct r2 => whileL t F n r2
    | .bk r2 => .nx r2
    | o => o) else .nx r
def sRaise (k : Nat) : SF := fun r => .xx k r
def sTry (F : SF) (hs : Nat → Option SF) : SF := fun r => match F r with
  | .xx k r' => match hs k with
    | some G => G r'
    | none => .xx k r'
  | o => o
def runS (F : SF) (r : Rho) : R D := match F r with
  | .nx _ => .ok .none
  | .rt d => .ok d
  | .xx k _ => .ex k
  | _ => .no
def gNm (i : Nat) : D → Rho → Option Rho := fun d r => some (r.set i (.sh d))
def gsNil : List D → Rho → Option Rho
  | [], r => some r
  | _ :: _, _ => none
def gsCons (g : D → Rho → Option Rho) (gs : List D → Rho → Option Rho) : List D → Rho → Option Rho
  | [], _ => none
  | d :: ds, r => (g d r).bind fun r' => gs ds r'
def gTp (gs : List D → Rho → Option Rho) : D → Rho → Option Rho
  | .tuple ds, r => gs ds r
  | .list ds, r => gs ds r
  | _, _ => none

section
variable {X : Cx} {cm : Nat → Addr} {W : WX} {k : Nat} {s : Stmt} {ss : List Stmt} {F G : SF} {e a b c : Expr} {f g h : Rho → R D} {pos : Pos}

theorem pso_of {K : PySem.W.Frag} {C : ZC} {Dn : Ends} {r : Rho} {σ : St} {H : Hp} {α : Type} {x : R α} {g : α → Out} (E : EnvOk K C H r σ) (h : pso K cm W C Dn (onE x r g)) : pst cm W σ H x fun a => pso K cm W C Dn (g a) := by
  cases x with
  | ok a => exact h
  | ex k => exact fun H' s => h σ H' (E.go s)
  | no => exact h
theorem zss_nil : ZSs X cm W [] sNil := PSs.imp pss_nil fun Dn σ H ⟨C, r, E, q⟩ => q σ H E
theorem zss_cons (h1 : ZS X cm W s F) (h2 : ZSs X cm W ss G) : ZSs X cm W (s :: ss) (sSeq F G) := PSs.imp (pss_cons h1 h2) fun Dn σ H ⟨C, r, E, q⟩ => ⟨C, r, E, by
  unfold sSeq at q
  cases hF : F r with
  | nx r' =>
    rw [hF] at q
    exact fun σ' H' E' => ⟨C, r', E', q⟩
  | rt d => rw [hF] at q; exact q
  | bk r' => rw [hF] at q; exact q
  | ct r' => rw [hF] at q; exact q
  | xx k r' => rw [hF] at q; exact q
  | no => rw [hF] at q; exact q⟩
theorem zss_one (h1 : ZS X cm W s F) : ZSs X cm W [s] F := pss_one h1
theorem zs_pass : ZS X cm W (.Pass pos) sNil := PS.imp ps_pass fun Dn σ H ⟨C, r, E, q⟩ => q σ H E
theorem zs_break : ZS X cm W (.Break pos) sBrk := PS.imp ps_break fun Dn σ H ⟨C, r, E, q⟩ => q σ H E
theorem zs_continue : ZS X cm W (.Continue pos) sCt := PS.imp ps_continue fun Dn σ H ⟨C, r, E, q⟩ => q σ H E
theorem zs_expr (he : ZE X cm W e f) (hs : swapsWith e none pos.line X.env = pure false := by rfl) : ZS X cm W (.Expr e pos) (sEx f) := PS.imp (ps_expr he hs) fun Dn σ H ⟨C, r, E, q⟩ =>
  ⟨C, r, E, pst_imp (pso_of E q) fun d q v H1 s1 r1 => q σ H1 (E.go s1)⟩
theorem zs_ret (he : ZE X cm W e f) : ZS X cm W (.Return (some e) pos) (sRet f) := PS.imp (ps_ret he) fun Dn σ H ⟨C, r, E, q⟩ =>
  ⟨C, r, E, pst_imp (pso_of E q) fun d q v H1 s1 r1 => q v H1 (E.same.trans s1) (r1.mono (Same.refl _) fun a z => .inl (.inl z))⟩
theorem zs_retN : ZS X cm W (.Return none pos) sRetN := PS.imp ps_retN fun Dn σ H ⟨C, r, E, q⟩ => q .non H E.same .non
theorem zs_if {t : Rho → R Bool} {A B : List Stmt} (hc : ZT X cm W c t) (ha : ZSs X cm W A F) (hb : ZSs X cm W B G) : ZS X cm W (.If c A B pos) (sIf t F G) := PS.imp (ps_if hc ha hb) fun Dn σ H ⟨C, r, E, q⟩ =>
  ⟨C, r, E, pst_imp (pso_of E q) fun d q H1 s1 => by
    cases d with
    | true => exact ⟨C, r, E.go s1, q⟩
    | false => exact ⟨C, r, E.go s1, q⟩⟩
theorem zs_set (i : Nat) {x : Str} {pos' : Pos} (A : Amb X W k) (he : ZE X cm W e f) (hi : X.N[i]? = some x := by rfl) (hx : Loc X.env.scope x := by first | exact Or.inl rfl | exact Or.inr rfl) (hs : swapsWith e (some (.Name x pos')) pos.line X.env = pure false := by rfl)
    (hf : X.fn x = true ∨ X.env.scope.names.lookup x = some .local := by first | exact .inl rfl | exact .inr rfl | assumption) : ZS X cm W (.Assign [.Name x pos'] e pos) (sSet i f) := PS.imp (ps_set A.nd hi hx he hs hf) fun Dn σ H ⟨C, r, E, q⟩ =>
  ⟨C, r, E, pst_imp (pso_of E q) fun d q v H1 s1 r1 => q _ H1 ((E.go s1).set_sh r1)⟩
theorem zs_own (i : Nat) {x : Str} {pos' : Pos} {f : Rho → R (List D)} (A : Amb X W k) (he : ZF X cm W e f) (hi : X.N[i]? = some x := by rfl) (hx : Loc X.env.scope x := by first | exact Or.inl rfl | exact Or.inr rfl) (hs : swapsWith e (some (.Name x pos')) pos.line X.env = pure false := by rfl)
    (hf : X.fn x = true ∨ X.env.scope.names.lookup x = some .local := by first | exact .inl rfl | exact .inr rfl | assumption) : ZS X cm W (.Assign [.Name x pos'] e pos) (sOwn i f) := PS.imp (ps_set A.nd hi hx he hs hf) fun Dn σ H ⟨C, r, E, q⟩ =>
  ⟨C, r, E, pst_imp (pso_of E q) fun ds q p vs H1 s1 np hp rp => by
    by_cases hl : i < r.length
    · rw [if_pos hl] at q
      exact q _ H1 (E.set_ow np s1 hp rp hl)
    · rw [if_neg hl] at q
      exact (show False from q).elim⟩
theorem zss_rel (i : Nat) (h : ZSs X cm W ss F) : ZSs X cm W ss (sRel i F) := PSs.imp h fun Dn σ H ⟨C, r, E, q⟩ => by
  unfold sRel at q
  split at q
  · rename_i ds hr
    exact ⟨C, _, E.rel hr, q⟩
  · exact ⟨C, r, E, q⟩
theorem zs_app (i : Nat) {x : Str} {px apos cpos : Pos} (A : Amb X W k) (he : ZE X cm W e f) (hN : X.N[i]? = some x := by rfl) (hv : Vis X.env.scope x := by first | exact Or.inl rfl | exact Or.inr (Or.inl rfl) | exact Or.inr (Or.inr rfl)) (hd : (x == ("__debug__" : Str)) = false := by decide) (hcd : (x == ("__classdict__" : Str)) = false := by decide)
    (hs : swapsWith (.Call (.Attribute (.Name x px) "append" apos) [e] [] cpos) none pos.line X.env = pure false := by rfl)
    (hfew : ((backTo cpos (starEach (e :: []) X.env)).all (fun x => !x.1) && (backToKw cpos (keywordEach [] X.env)).all (fun x => x.1.isSome)
      && decide ((e :: []).length + ([] : List Keyword).length + (if ([] : List Keyword).isEmpty then 0 else 1) < 30)) = true := by rfl)
    (hline : (apos.endLine == cpos.line) = true := by rfl) (hst : starEach (e :: []) X.env = (false, eval e X.env) :: starEach [] X.env := by rfl) :
    ZS X cm W (.Expr (.Call (.Attribute (.Name x px) "append" apos) [e] [] cpos) pos) (sApp i f) :=
  PS.imp (ps_expr (pe_bm PySem.F.plainAttrs_list PySem.F.slot_list_append PySem.F.type_list_append mt_append (pe_var hN hv hd hcd) (pa_cons he pa_nil hst) rfl hfew hline hst rfl) hs) fun Dn σ H ⟨C, r, E, q⟩ => by
    unfold sApp at q
    split at q
    · rename_i ds hr
      obtain ⟨a, vs, e1, e2, e0, rv⟩ := E.ow i ds hr
      refine ⟨.ref a, e1, .inl ⟨rfl, vs, .inl (.inl e2)⟩, C, r, E, pst_imp (pso_of E q) fun d q v H1 s1 r1 => ?_⟩
      by_cases hz : ds.length < sizeLine
      · rw [if_pos hz] at q
        refine ⟨a, vs, v, rfl, rfl, s1 _ _ e2, by rw [rv.length]; exact hz, ?_⟩
        exact q σ _ ((E.go s1).upd_ow hr e1 ((rv.mono s1).append (.cons r1 .nil)))
      · rw [if_neg hz] at q
        exact (show False from q).elim
    · exact (show False from q).elim
theorem zs_put (i : Nat) {x : Str} {px spos : Pos} {j : Expr} {fj : Rho → R D} (he : ZE X cm W e f) (hj : ZE X cm W j fj) (hN : X.N[i]? = some x := by rfl) (hv : Vis X.env.scope x := by first | exact Or.inl rfl | exact Or.inr (Or.inl rfl) | exact Or.inr (Or.inr rfl)) (hd : (x == ("__debug__" : Str)) = false := by decide) (hcd : (x == ("__classdict__" : Str)) = false := by decide)
    (ha : ∀ v, assign (.Subscript (.Name x px) j spos) X.env v = (do
      let ov ← holding [v] (eval (.Name x px) X.env)
      let iv ← holding [v, ov] (eval j X.env)
      standAt spos
      holding [v, ov, iv] (setItem ov iv v)
      release [v, ov, iv] []) := by intro _; rfl)
    (hs : swapsWithSole [.Subscript (.Name x px) j spos] e pos.line X.env = pure false := by rfl) (hw : swappedStores [.Subscript (.Name x px) j spos] e X.env = pure none := by rfl)
    (h1 : (assignEach [.Subscript (.Name x px) j spos] X.env).map (·.2) = [assign (.Subscript (.Name x px) j spos) X.env] := by rfl) : ZS X cm W (.Assign [.Subscript (.Name x px) j spos] e pos) (sPut i fj f) :=
  PS.imp (ps_asg he (pg_sub (pe_var hN hv hd hcd) hj set_list ha) hs hw h1) fun Dn σ H ⟨C, r, E, q⟩ => ⟨C, r, E, pst_imp (pso_of E q) fun d q v H1 s1 r1 => by
    split at q
    · rename_i ds hr
      have E1 := E.go s1
      obtain ⟨a, vs, e1, e2, e0, rv⟩ := E1.ow i ds hr
      refine ⟨.ref a, e1, C, r, E1, pst_imp (pso_of E1 q) fun n q w H2 s2 r2 => ?_⟩
      cases n with
      | int n =>
        cases r2
        cases hm : ixN ds.length n with
        | none =>
          have q' : pso X.K cm W C Dn (match ixN ds.length n with
            | some m => Out.nx (r.set i (.ow (ds.set m d)))
            | none => .no) := q
          rw [hm] at q'
          exact (show False from q').elim
        | some m =>
          have q' : pso X.K cm W C Dn (match ixN ds.length n with
            | some m => Out.nx (r.set i (.ow (ds.set m d)))
            | none => .no) := q
          rw [hm] at q'
          refine ⟨a, vs, n, m, rfl, rfl, s2 _ _ e2, by rw [rv.length]; exact hm, ?_⟩
          exact q' σ _ ((E1.go s2).upd_ow hr e1 (RpAll.set (r1.mono s2) m (rv.mono s2)))
      | _ => exact (show False from q).elim
    · exact (show False from q).elim⟩

/-! ### targets -/
theorem PG.imp {tg : Expr} {t t' : TG} (h : PG X tg t) (i : ∀ v σ H Q, t' v σ H Q → t v σ H Q) : PG X tg t' := ⟨fun pins s σ H v u Q I r q => h.run pins s σ H v u Q I r (i v σ H Q q)⟩
theorem PGs.imp {tg : List Expr} {t t' : TGs} (h : PGs X tg t) (i : ∀ v σ H Q, t' v σ H Q → t v σ H Q) : PGs X tg t' := ⟨fun pins s σ H v u Q I r q => h.run pins s σ H v u Q I r (i v σ H Q q)⟩
def tG (K : PySem.W.Frag) (is : List Nat) (G : D → Rho → Option Rho) : TG := fun v σ H Q => ∃ C r r' d, EnvOk K C H r σ ∧ Rp K H (BB C r σ) v d ∧ G d r = some r' ∧
  ∀ σ', EnvOk K C H r' σ' → (∀ a, BB C r' σ' a → BB C r σ a) → (∀ j, j ∉ is → σ'[j]? = σ[j]?) → Q σ' H
def tGs (K : PySem.W.Frag) (is : List Nat) (G : List D → Rho → Option Rho) : TGs := fun vs σ H Q => ∃ C r r' ds, EnvOk K C H r σ ∧ RpAll K H (BB C r σ) vs ds ∧ G ds r = some r' ∧
  ∀ σ', EnvOk K C H r' σ' → (∀ a, BB C r' σ' a → BB C r σ a) → (∀ j, j ∉ is → σ'[j]? = σ[j]?) → Q σ' H
structure ZG (X : Cx) (tg : Expr) (is : List Nat) (G : D → Rho → Option Rho) : Prop where
  pg : PG X tg (tG X.K is G)
  keep : ∀ d r r', G d r = some r' → ∀ j, j ∉ is → r'[j]? = r[j]?
  size : ∀ d r r', G d r = some r' → r'.length = r.length
theorem zg_name (i : Nat) {x : Str} (nd : X.N.Nodup) (hi : X.N[i]? = some x := by rfl) (hx : Loc X.env.scope x := by first | exact Or.inl rfl | exact Or.inr rfl) (hf : X.fn x = true ∨ X.env.scope.names.lookup x = some .local := by first | exact .inl rfl | exact .inr rfl | assumption) :
    ZG X (.Name x pos) [i] (gNm i) := by
  refine ⟨PG.imp (pg_name nd hi hx hf) fun v σ H Q ⟨C, r, r', d, E, rv, h, k⟩ => ?_, fun d r r' h j hj => ?_, fun d r r' h => by cases h; exact List.length_set⟩
  · cases h
    exact k _ (E.set_sh rv) (fun a z => z.elim .inl fun z => .inr (own_set (fun ds e => by cases e) z)) fun j hj => List.getElem?_set_ne (fun e => hj (by rw [e]; exact List.mem_singleton_self _))
  · cases h
    exact List.getElem?_set_ne (fun e => hj (by rw [e]; exact List.mem_singleton_self _))
structure ZGs (X : Cx) (ts : List Expr) (n : Nat) (is : List Nat) (G : List D → Rho → Option Rho) : Prop where
  pg : PGs X ts (tGs X.K is G)
  keep : ∀ d r r', G d r = some r' → ∀ j, j ∉ is → r'[j]? = r[j]?
  size : ∀ d r r', G d r = some r' → r'.length = r.length
  len : ∀ ds r r', G ds r = some r' → ds.length = n
theorem zgs_nil : ZGs X [] 0 [] gsNil := by
  refine ⟨PGs.imp pgs_nil fun vs σ H Q ⟨C, r, r', ds, E, rv, h, k⟩ => ?_, fun d r r' h j hj => ?_, fun d r r' h => by cases d <;> cases h; rfl, fun ds r r' h => ?_⟩
  · cases ds with
    | nil =>
      cases rv
      cases h
      exact ⟨rfl, k σ E (fun _ z => z) fun _ _ => rfl⟩
    | cons d ds => cases h
  · cases d with
    | nil => cases h; rfl
    | cons d ds => cases h
  · cases ds with
    | nil => rfl
    | cons d ds => cases h
theorem zgs_cons {t : Expr} {ts : List Expr} {n : Nat} {is js : List Nat} {g : D → Rho → Option Rho} {gs : List D → Rho → Option Rho} (h1 : ZG X t is g) (h2 : ZGs X ts n js gs) (hs : (assignEach (t :: ts) X.env).map (·.2) = assign t X.env :: (assignEach ts X.env).map (·.2) := by rfl) :
    ZGs X (t :: ts) (n + 1) (is ++ js) (gsCons g gs) := by
  obtain ⟨p1, e1, z1⟩ := h1
  obtain ⟨p2, e2, z2, l2⟩ := h2
  have inv : ∀ {ds : List D} {r r' : Rho}, gsCons g gs ds r = some r' → ∃ d es r1, ds = d :: es ∧ g d r = some r1 ∧ gs es r1 = some r' := fun {ds r r'} h => by
    cases ds with
    | nil => cases h
    | cons d es =>
      have h' : (g d r).bind (fun r' => gs es r') = some r' := h
      cases hg : g d r with
      | none => rw [hg] at h'; cases h'
      | some r1 =>
        rw [hg] at h'
        exact ⟨d, es, r1, rfl, hg, h'⟩
  refine ⟨PGs.imp (pgs_cons p1 p2 hs) fun vs σ H Q ⟨C, r, r', ds, E, rv, h, k⟩ => ?_, fun d r r' h j hj => ?_, fun d r r' h => ?_, fun ds r r' h => ?_⟩
  · obtain ⟨d, es, r1, rfl, h1, h2⟩ := inv h
    cases rv with
    | cons ra rb =>
      refine ⟨_, _, rfl, C, r, r1, d, E, ra, h1, fun σ1 E1 b1 s1 => ⟨C, r1, r', es, E1, rb.mono (Same.refl H) (fun a z => .inl (b1 a z)), h2, fun σ2 E2 b2 s2 => k σ2 E2 (fun a z => b1 a (b2 a z)) fun j hj => ?_⟩⟩
      rw [List.mem_append, not_or] at hj
      exact (s2 j hj.2).trans (s1 j hj.1)
  · obtain ⟨d, es, r1, rfl, h1, h2⟩ := inv h
    rw [List.mem_append, not_or] at hj
    exact (e2 _ _ _ h2 j hj.2).trans (e1 _ _ _ h1 j hj.1)
  · obtain ⟨d, es, r1, rfl, h1, h2⟩ := inv h
    exact (z2 _ _ _ h2).trans (z1 _ _ _ h1)
  · obtain ⟨d, es, r1, rfl, h1, h2⟩ := inv h
    rw [List.length_cons, l2 _ _ _ h2]
theorem PG.or {tg : Expr} {t t' : TG} (h : PG X tg t) (h' : PG X tg t') : PG X tg (fun v σ H Q => t v σ H Q ∨ t' v σ H Q) := ⟨fun pins s σ H v u Q I r q => q.elim (h.run pins s σ H v u Q I r) (h'.run pins s σ H v u Q I r)⟩
theorem zg_tup {es : List Expr} {k n : Nat} {is : List Nat} {gs : List D → Rho → Option Rho} (hc : X.calm = true) (h : ZGs X es n is gs) (hn : (assignEach es X.env).length = n := by rfl) (hst : (assignEach es X.env).findIdx? (·.1) = none := by rfl) : ZG X (.Tuple es k pos) is (gTp gs) := by
  obtain ⟨p1, e1, z1, l1⟩ := h
  refine ⟨PG.imp (PG.or (pg_tup hc p1 hn hst) (pg_lst hc p1 hn hst)) fun v σ H Q ⟨C, r, r', d, E, rv, h, k⟩ => ?_, fun d r r' h j hj => ?_, fun d r r' h => ?_⟩
  · cases d with
    | tuple ds =>
      cases rv with
      | tup hs ra => exact .inl ⟨_, _, rfl, hs, by rw [ra.length]; exact l1 ds r r' h, C, r, r', ds, E, ra, h, k⟩
    | list ds =>
      cases rv with
      | lst hs ra => exact .inr ⟨_, _, rfl, hs.sq, by rw [ra.length]; exact l1 ds r r' h, C, r, r', ds, E, ra, h, k⟩
    | _ => cases h
  · cases d with
    | tuple ds => exact e1 ds r r' h j hj
    | list ds => exact e1 ds r r' h j hj
    | _ => cases h
  · cases d with
    | tuple ds => exact z1 ds r r' h
    | list ds => exact z1 ds r r' h
    | _ => cases h
theorem zs_asg {tg : Expr} {is : List Nat} {G : D → Rho → Option Rho} (he : ZE X cm W e f) (hg : ZG X tg is G) (hs : swapsWithSole [tg] e pos.line X.env = pure false := by rfl) (hw : swappedStores [tg] e X.env = pure none := by rfl)
    (h1 : (assignEach [tg] X.env).map (·.2) = [assign tg X.env] := by rfl) : ZS X cm W (.Assign [tg] e pos) (sAsg G f) := by
  refine PS.imp (ps_asg he hg.pg hs hw h1) fun Dn σ H ⟨C, r, E, q⟩ => ⟨C, r, E, pst_imp (pso_of E q) fun d q v H1 s1 r1 => ?_⟩
  cases hG : G d r with
  | none => rw [hG] at q; exact (show False from q).elim
  | some r' =>
    rw [hG] at q
    exact ⟨C, r, r', d, E.go s1, r1, hG, fun σ' E' _ _ => q σ' H1 E'⟩
theorem zs_par (i j : Nat) {x y : Str} {px py pt : Pos} {kt k2 pt2} (A : Amb X W k) (ha : ZE X cm W a f) (hb : ZE X cm W b g) (hw : swappedStores [.Tuple [.Name x px, .Name y py] kt pt] (.Tuple [a, b] k2 pt2) X.env = pure (some [x, y]) := by rfl) (hij : i ≠ j := by decide) (hi : X.N[i]? = some x := by rfl) (hj : X.N[j]? = some y := by rfl)
    (hx : X.env.scope.names.lookup x = some .local := by rfl) (hy : X.env.scope.names.lookup y = some .local := by rfl) (hs1 : starEach (a :: [b]) X.env = (false, eval a X.env) :: starEach [b] X.env := by rfl) (hs2 : starEach (b :: []) X.env = (false, eval b X.env) :: starEach [] X.env := by rfl)
    (hs : swapsWithSole [.Tuple [.Name x px, .Name y py] kt pt] (.Tuple [a, b] k2 pt2) pos.line X.env = pure false := by rfl) :
    ZS X cm W (.Assign [.Tuple [.Name x px, .Name y py] kt pt] (.Tuple [a, b] k2 pt2) pos) (sPar i j f g) :=
  PS.imp (ps_par A.calm A.nd hi hj hij hx hy (pa_cons ha (pa_cons hb pa_nil hs2) hs1) hw hs) fun Dn σ H ⟨C, r, E, q⟩ => ⟨C, r, E, pst_imp (pso_of E q) fun d q v H1 s1 r1 => ⟨C, r, E.go s1, pst_imp (pso_of (E.go s1) q) fun e q w H2 s2 r2 =>
    ⟨v, w, rfl, q _ H2 (((E.go s1).go s2).set_sh (r1.mono s2) |>.set_sh (r2.mono (Same.refl _) fun a z => .inl (z.elim .inl fun z => .inr (own_set (fun ds e => by cases e) z))))⟩⟩⟩
theorem zs_aug (i : Nat) {x : Str} {op : Operator} {pos' : Pos} {rr : TIp} {F : D → D → R D} (A : Amb X W k) (ho : PIp X op rr) (hk : ∀ σ H B x y d e Q, NB B H → RpC X.K H B x d → RpC X.K H B y e → Res X.K cm W σ B H (F d e) Q → rr x y H Q) (he : ZE X cm W e f)
    (hi : X.N[i]? = some x := by rfl) (hx : Loc X.env.scope x := by first | exact Or.inl rfl | exact Or.inr rfl) (hf : X.fn x = true ∨ X.env.scope.names.lookup x = some .local := by first | exact .inl rfl | exact .inr rfl | assumption) :
    ZS X cm W (.AugAssign (.Name x pos') op e pos) (sAug i F f) := PS.imp (ps_aug A.nd hi hx he ho hf) fun Dn σ H ⟨C, r, E, q⟩ => by
  unfold sAug at q
  split at q
  · rename_i d hr
    obtain ⟨v, e1, rv⟩ := E.sh i d hr
    refine ⟨v, e1, C, r, E, pst_imp (pso_of E q) fun e q w H1 s1 r1 => ?_⟩
    have q := pso_of (E.go s1) q
    exact hk σ H1 (BB C r σ) v w d e _ (E.nb.go s1) (rv.mono s1).c r1.c (pst_imp q fun z q u H2 s2 r2 => q _ H2 (((E.go s1).go s2).set_sh r2))
  · exact (show False from q).elim
def iaddD : D → D → R D
  | .int i, .int j => .ok (.int (i + j))
  | _, _ => .no
def imulD : D → D → R D
  | .int i, .int j => if (-(2 ^ 64) < i ∧ i < 2 ^ 64) ∨ (-(2 ^ 64) < j ∧ j < 2 ^ 64) then .ok (.int (i * j)) else .no
  | _, _ => .no
theorem zs_augAdd (i : Nat) {x : Str} {pos' : Pos} (A : Amb X W k) (he : ZE X cm W e f) (hi : X.N[i]? = some x := by rfl) (hx : Loc X.env.scope x := by first | exact Or.inl rfl | exact Or.inr rfl) (hf : X.fn x = true ∨ X.env.scope.names.lookup x = some .local := by first | exact .inl rfl | exact .inr rfl | assumption) :
    ZS X cm W (.AugAssign (.Name x pos') .Add e pos) (sAug i iaddD f) := zs_aug i A ip_add (fun σ H B x y d e Q hb rx ry q => by
    cases d with
    | int i =>
      cases e with
      | int j => exact ⟨i, j, rx.int, ry.int, (show Res X.K cm W σ B H (.ok (.int (i + j))) Q from q).ok (.int _)⟩
      | _ => exact (show False from q).elim
    | _ => cases e <;> exact (show False from q).elim) he hi hx hf
theorem zs_augMul (i : Nat) {x : Str} {pos' : Pos} (A : Amb X W k) (he : ZE X cm W e f) (hi : X.N[i]? = some x := by rfl) (hx : Loc X.env.scope x := by first | exact Or.inl rfl | exact Or.inr rfl) (hf : X.fn x = true ∨ X.env.scope.names.lookup x = some .local := by first | exact .inl rfl | exact .inr rfl | assumption) :
    ZS X cm W (.AugAssign (.Name x pos') .Mult e pos) (sAug i imulD f) := zs_aug i A iop_mul (fun σ H B x y d e Q hb rx ry q => by
    cases d with
    | int i =>
      cases e with
      | int j =>
        obtain ⟨hz, q⟩ := res_ite q
        exact ⟨i, j, rx.int, ry.int, hz, q.ok (.int _)⟩
      | _ => exact (show False from q).elim
    | _ => cases e <;> exact (show False from q).elim) he hi hx hf

/-! ### what is walked -/
/-- through J come the items ds, whatever happens meanwhile to what is not of the ground Hb -/
def Yl (K : PySem.W.Frag) (Hb : Hp) (B0 : Addr → Prop) (J : It) (ds : List D) : Prop := ∀ (i : Nat) (H : Hp), Same Hb H → (i < ds.length → J.go i H) ∧ (ds.length ≤ i → J.stop i H) ∧
  ∀ x H', J.yld i H x H' → i < ds.length → Same H H' ∧ ∃ d, ds[i]? = some d ∧ ∀ B : Addr → Prop, (∀ a, B a → B0 a ∨ Hb a = none) → Rp K H' B x d
def tI (K : PySem.W.Frag) (cm : Nat → Addr) (W : WX) (f : Rho → R (List D)) : TI := fun σ H R => ∃ C r, EnvOk K C H r σ ∧ pst cm W σ H (f r) fun ds => ∀ J H1, Same H H1 → Yl K (ground H1 r σ) C.B0 J ds → R J H1
abbrev ZI (X : Cx) (cm : Nat → Addr) (W : WX) (tg iter : Expr) (f : Rho → R (List D)) : Prop := PI X tg iter (tI X.K cm W f)
theorem PI.imp {tg iter : Expr} {t t' : TI} (h : PI X tg iter t) (i : ∀ σ H Q, t' σ H Q → t σ H Q) : PI X tg iter t' := ⟨fun pins s σ H Q I q => h.run pins s σ H Q I (i σ H Q q)⟩
theorem PI.or {tg iter : Expr} {t t' : TI} (h : PI X tg iter t) (h' : PI X tg iter t') : PI X tg iter (fun σ H R => t σ H R ∨ t' σ H R) := ⟨fun pins s σ H Q I q => q.elim (h.run pins s σ H Q I) (h'.run pins s σ H Q I)⟩
def walkD : D → R (List D)
  | .list ds => .ok ds
  | .tuple ds => .ok ds
  | .str z => .ok (z.cps.toList.map fun c => .str ⟨#[c]⟩)
  | _ => .no
def cIt (f : Rho → R D) : Rho → R (List D) := fun r => (f r).bind walkD
theorem up_rp {K : PySem.W.Frag} {Hb H : Hp} {B0 B : Addr → Prop} {v : V} {d : D} (q : Rp K Hb B0 v d) (s : Same Hb H) (hb : ∀ a, B a → B0 a ∨ Hb a = none) : Rp K H B v d := q.mono s hb
theorem zi_seq {tg : Expr} (ha : ZE X cm W e f) : ZI X cm W tg e (cIt f) := PI.imp (PI.or (pi_str ha) (PI.or (pi_list ha) (pi_tup ha))) fun σ H Q ⟨C, r, E, q⟩ => by
  have q := pst_bind q
  have exs : (∃ z, f r = .ok (.str z)) ∨ ¬ ∃ z, f r = .ok (.str z) := Classical.em _
  rcases exs with ⟨z, hf⟩ | hns
  · refine .inl ⟨C, r, E, ?_⟩
    rw [hf] at q ⊢
    intro v H1 s1 r1
    cases r1
    refine ⟨z, rfl, q _ H1 s1 fun i H2 s2 => ?_⟩
    have hl : (z.cps.toList.map fun c => PyData.str ⟨#[c]⟩).length = z.cps.size := by rw [List.length_map, Array.length_toList]
    rw [hl]
    refine ⟨fun hi => hi, fun hi => hi, fun x H3 y hi => ?_⟩
    obtain ⟨e3, c, hc, ev⟩ := y
    subst e3
    subst ev
    refine ⟨Same.refl _, .str ⟨#[c]⟩, ?_, fun B hB => .str _⟩
    rw [List.getElem?_map, Array.getElem?_toList, hc]
    rfl
  refine .inr ?_
  have ex : (∃ ds, f r = .ok (.tuple ds)) ∨ ¬ ∃ ds, f r = .ok (.tuple ds) := Classical.em _
  rcases ex with ⟨ds, hf⟩ | hn
  · refine .inr ⟨C, r, E, ?_⟩
    rw [hf] at q ⊢
    intro v H1 s1 r1
    have E1 := E.go s1
    have r2 := Rp.toAt E1 r1
    cases r2 with
    | tup hs ra =>
      rename_i a xs
      cases r1 with
      | tup hs1 ra1 =>
        refine ⟨a, rfl, ⟨_, hs1⟩, q _ H1 s1 fun i H2 s2 => ⟨fun hi => ?_, fun hi => ?_, fun x H3 y hi => ?_⟩⟩
        · have hx : i < xs.length := by rw [ra.length]; exact hi
          exact ⟨xs, xs[i], sqT_same s2 hs, List.getElem?_eq_getElem hx⟩
        · exact ⟨xs, sqT_same s2 hs, by rw [ra.length]; exact hi⟩
        · obtain ⟨e3, y⟩ := y
          subst e3
          obtain ⟨d, hd, rd⟩ := ra.get (y xs (sqT_same s2 hs))
          exact ⟨Same.refl _, d, hd, fun B hB => rd.mono s2 hB⟩
  · refine .inl ⟨C, r, E, ?_⟩
    cases hf : f r with
    | ex k => rw [hf] at q; exact q
    | no => rw [hf] at q; exact q
    | ok d =>
      rw [hf] at q
      intro v H1 s1 r1
      have E1 := E.go s1
      have r2 := Rp.toAt E1 r1
      cases d with
      | list ds =>
        cases r2 with
        | lst hs ra =>
          rename_i a xs
          cases r1 with
          | lst hs1 ra1 =>
            refine ⟨a, rfl, ⟨_, hs1.sq⟩, q _ H1 s1 fun i H2 s2 => ⟨fun hi => ?_, fun hi => ?_, fun x H3 y hi => ?_⟩⟩
            · have hx : i < xs.length := by rw [ra.length]; exact hi
              exact ⟨xs, xs[i], sqL_same s2 hs.sq, List.getElem?_eq_getElem hx⟩
            · exact ⟨xs, sqL_same s2 hs.sq, by rw [ra.length]; exact hi⟩
            · obtain ⟨e3, y⟩ := y
              subst e3
              obtain ⟨d, hd, rd⟩ := ra.get (y xs (sqL_same s2 hs.sq))
              exact ⟨Same.refl _, d, hd, fun B hB => rd.mono s2 hB⟩
      | tuple ds => exact (hn ⟨ds, hf⟩).elim
      | str z => exact (hns ⟨z, hf⟩).elim
      | _ => exact (show False from q).elim
/-! range -/
def rngL (lo : Int) (n : Nat) : List D := (List.range n).map fun i => .int (lo + (i : Nat))
theorem yl_rng {K : PySem.W.Frag} {Hb : Hp} {B0 : Addr → Prop} (lo : Int) (n : Nat) : Yl K Hb B0 (Itr lo n) (rngL lo n) := fun i H s => by
  have hl : (rngL lo n).length = n := by simp [rngL]
  rw [hl]
  refine ⟨fun h => h, fun h => h, fun x H' y hi => ?_⟩
  obtain ⟨e, y⟩ := y
  subst e
  refine ⟨Same.refl _, .int (lo + i), ?_, fun B hB => ?_⟩
  · unfold rngL
    rw [List.getElem?_map, List.getElem?_range hi]
    rfl
  · rw [y]
    exact .int _
def rng1D : D → R (List D)
  | .int j => if -(2 ^ 62) ≤ j ∧ j < 2 ^ 62 then .ok (rngL 0 j.toNat) else .no
  | _ => .no
def rng2D : D → D → R (List D)
  | .int i, .int j => if -(2 ^ 62) ≤ i ∧ i < 2 ^ 62 ∧ -(2 ^ 62) ≤ j ∧ j < 2 ^ 62 then .ok (rngL i (j - i).toNat) else .no
  | _, _ => .no
def cR1 (f : Rho → R D) : Rho → R (List D) := fun r => (f r).bind rng1D
def cR2 (f g : Rho → R D) : Rho → R (List D) := fun r => (f r).bind fun x => (g r).bind fun y => rng2D x y
theorem zi_range1 {tg : Expr} {p : Pos} (ha : ZE X cm W a f) (hm : X.mg "range" = none) (hg : Gl X "range" := by rfl) (hs1 : starEach (a :: []) X.env = (false, eval a X.env) :: starEach [] X.env := by rfl) (hs : starEach [a] X.env = [(false, eval a X.env)] := by rfl) : ZI X cm W tg (.Call (.Name "range" p) [a] [] pos) (cR1 f) :=
  PI.imp (pi_range1 hg hm (pa_cons ha pa_nil hs1) hs) fun σ H Q ⟨C, r, E, q⟩ => ⟨C, r, E, pst_imp (pst_bind q) fun d q v H1 s1 r1 => by
    cases d with
    | int j =>
      cases r1
      obtain ⟨hc, q⟩ := pst_ite q
      exact ⟨j, rfl, hc.1, hc.2, q _ H1 s1 (yl_rng 0 j.toNat)⟩
    | _ => exact (show False from q).elim⟩
theorem zi_range2 {tg : Expr} {p : Pos} (ha : ZE X cm W a f) (hb : ZE X cm W b g) (hm : X.mg "range" = none) (hg : Gl X "range" := by rfl) (hs1 : starEach (a :: [b]) X.env = (false, eval a X.env) :: starEach [b] X.env := by rfl) (hs2 : starEach (b :: []) X.env = (false, eval b X.env) :: starEach [] X.env := by rfl)
    (hs : starEach [a, b] X.env = [(false, eval a X.env), (false, eval b X.env)] := by rfl) (hs3 : starEach [b] X.env = [(false, eval b X.env)] := by rfl) : ZI X cm W tg (.Call (.Name "range" p) [a, b] [] pos) (cR2 f g) :=
  PI.imp (pi_range2 hg hm (pa_cons ha (pa_cons hb pa_nil hs2) hs1) hs hs3) fun σ H Q ⟨C, r, E, q⟩ => ⟨C, r, E, pst_imp (pst_bind q) fun d q v H1 s1 r1 => ⟨C, r, E.go s1, pst_imp (pst_bind (pst_go q s1)) fun d2 q w H2 s2 r2 => by
    cases d with
    | int i =>
      cases r1
      cases d2 with
      | int j =>
        cases r2
        obtain ⟨hc, q⟩ := pst_ite q
        exact ⟨i, j, rfl, hc, q _ H2 (s1.trans s2) (yl_rng i (j - i).toNat)⟩
      | _ => exact (show False from q).elim
    | _ => cases d2 <;> exact (show False from q).elim⟩⟩
/-- range with a step -/
def rgN (i j c : Int) : Nat := if 0 < c then ((j - i + c - 1) / c).toNat else ((i - j + (-c) - 1) / (-c)).toNat

/-! ### for -/
theorem pso_at {K : PySem.W.Frag} {C : ZC} {H : Hp} {r : Rho} {σ : St} {Dn : Ends} (E : EnvOk K C H r σ) {o : Out} (q : pso K cm W C Dn o) : pso K cm W (C.at H r σ) Dn o := by
  have up : Same C.H0 (ground H r σ) := fun a o h => by
    have n : ¬ OwnA r σ a := fun z => by
      rw [(E.own z).choose_spec.2] at h
      cases h
    rw [ground_of n]
    exact E.same _ _ h
  cases o with
  | nx r' => exact fun σ' H' E' => q σ' H' (E.ofAt E')
  | rt d => exact fun v H' s rv => q v H' (up.trans s) rv
  | bk r' => exact fun σ' H' E' => q σ' H' (E.ofAt E')
  | ct r' => exact fun σ' H' E' => q σ' H' (E.ofAt E')
  | xx k r' => exact fun σ' H' E' => q σ' H' (E.ofAt E')
  | no => exact q
theorem drop_at {α : Type} : ∀ {l : List α} {i : Nat} {d : α}, l[i]? = some d → l.drop i = d :: l.drop (i + 1)
  | [], i, d, h => by simp at h
  | a :: l, 0, d, h => by
    have e : a = d := Option.some.inj h
    rw [e]
    rfl
  | a :: l, i + 1, d, h => drop_at (l := l) (i := i) h
theorem zs_for {tg iter : Expr} {body : List Stmt} {is : List Nat} {fi : Rho → R (List D)} {G : D → Rho → Option Rho} (A : Amb X W k) (hi : ZI X cm W tg iter fi) (hg : ZG X tg is G) (hb : ZSs X cm W body F) (hs : ∀ x, foldedSetIterable iter X.env x = pure x := by intro _; rfl) :
    ZS X cm W (.For tg iter body [] pos) (sFor fi G F) := by
  refine PS.imp (ps_for A.po A.calm hi hg.pg hb hs) fun Dn σ H ⟨C, r, E, q⟩ => ⟨C, r, E, pst_imp (pso_of E q) fun ds q J H1 s1 yl => ?_⟩
  have E1 := E.go s1
  have q := pso_at (cm := cm) (W := W) E1 q
  refine ⟨fun i m σ' H' => ∃ r', EnvOk X.K (C.at H1 r σ) H' r' σ' ∧ m = ds.length - i ∧ i ≤ ds.length ∧ pso X.K cm W (C.at H1 r σ) Dn (forL G F (ds.drop i) r'),
    ⟨ds.length, r, E1.toAt, by omega, Nat.zero_le _, q⟩, fun i m σ' H' ⟨r', E', em, hl, q'⟩ => ?_⟩
  obtain ⟨y1, y2, y3⟩ := yl i H' E'.same
  by_cases hlt : i < ds.length
  · refine .inr ⟨y1 hlt, fun σ2 H2 => ∃ r2, EnvOk X.K (C.at H1 r σ) H2 r2 σ2 ∧ pso X.K cm W (C.at H1 r σ) Dn (forL G F (ds.drop (i + 1)) r2), fun σ2 H2 ⟨r2, E2, q2⟩ => ⟨m - 1, by omega, r2, E2, by omega, hlt, q2⟩, fun x H2 hy => ?_⟩
    obtain ⟨s2, d, hd, rd⟩ := y3 x H2 hy hlt
    rw [drop_at hd] at q'
    have E2 := E'.go s2
    have rx : Rp X.K H2 (BB (C.at H1 r σ) r' σ') x d := rd _ fun a z => z.elim .inl fun z => .inr (E'.own z).choose_spec.2
    have q' : pso X.K cm W (C.at H1 r σ) Dn (match G d r' with
      | none => .no
      | some r1 => match F r1 with
        | .nx r2 => forL G F (ds.drop (i + 1)) r2
        | .ct r2 => forL G F (ds.drop (i + 1)) r2
        | .bk r2 => .nx r2
        | o => o) := q'
    cases hG : G d r' with
    | none => rw [hG] at q'; exact (show False from q').elim
    | some r1 =>
      rw [hG] at q'
      refine ⟨C.at H1 r σ, r', r1, d, E2, rx, hG, fun σ2 E3 _ _ => ⟨C.at H1 r σ, r1, E3, ?_⟩⟩
      have q' : pso X.K cm W (C.at H1 r σ) Dn (match F r1 with
        | .nx r2 => forL G F (ds.drop (i + 1)) r2
        | .ct r2 => forL G F (ds.drop (i + 1)) r2
        | .bk r2 => .nx r2
        | o => o) := q'
      cases hF : F r1 with
      | nx r2 => rw [hF] at q'; exact fun σ4 H4 E4 => ⟨r2, E4, q'⟩
      | ct r2 => rw [hF] at q'; exact fun σ4 H4 E4 => ⟨r2, E4, q'⟩
      | bk r2 => rw [hF] at q'; exact q'
      | rt d => rw [hF] at q'; exact q'
      | xx k r2 => rw [hF] at q'; exact q'
      | no => rw [hF] at q'; exact q'
  · have e : i = ds.length := by omega
    subst e
    rw [List.drop_length] at q'
    exact .inl ⟨y2 (Nat.le_refl _), q' σ' H' E'⟩
theorem zs_while {body : List Stmt} {t : Rho → R Bool} (n : Nat) (A : Amb X W k) (hc : ZT X cm W c t) (hb : ZSs X cm W body F) : ZS X cm W (.While c body [] pos) (whileL t F n) := by
  refine PS.imp (ps_while A.po hc hb) fun Dn σ H ⟨C, r, E, q⟩ => ⟨fun m σ' H' => ∃ r', EnvOk X.K C H' r' σ' ∧ pso X.K cm W C Dn (whileL t F m r'), ⟨n, r, E, q⟩, fun m σ' H' ⟨r', E', q'⟩ => ?_⟩
  cases m with
  | zero => exact (show False from q').elim
  | succ m =>
    have q' : pso X.K cm W C Dn (onE (t r') r' fun b => if b then (match F r' with
      | .nx r2 => whileL t F m r2
      | .ct r2 => whileL t F m r2
      | .bk r2 => .nx r2
      | o => o) else .nx r') := q'
    refine ⟨C, r', E', pst_imp (pso_of E' q') fun b q2 H2 s2 => ?_⟩
    cases b with
    | false => exact q2 σ' H2 (E'.go s2)
    | true =>
      refine ⟨fun σ3 H3 => ∃ r3, EnvOk X.K C H3 r3 σ3 ∧ pso X.K cm W C Dn (whileL t F m r3), fun σ3 H3 ⟨r3, E3, q3⟩ => ⟨m, Nat.lt_succ_self m, r3, E3, q3⟩, C, r', E'.go s2, ?_⟩
      have q2 : pso X.K cm W C Dn (match F r' with
        | .nx r2 => whileL t F m r2
        | .ct r2 => whileL t F m r2
        | .bk r2 => .nx r2
        | o => o) := q2
      cases hF : F r' with
      | nx r2 => rw [hF] at q2; exact fun σ4 H4 E4 => ⟨r2, E4, q2⟩
      | ct r2 => rw [hF] at q2; exact fun σ4 H4 E4 => ⟨r2, E4, q2⟩
      | bk r2 => rw [hF] at q2; exact q2
      | rt d => rw [hF] at q2; exact q2
      | xx k r2 => rw [hF] at q2; exact q2
      | no => rw [hF] at q2; exact q2
end
end Z


set_option Elab.async false
set_option linter.all false
set_option maxRecDepth 100000
set_option maxHeartbeats 4000000
namespace Z
open PySem PySem.Spec PyProof.Rows L2

/-! ### comprehensions -/
abbrev W0 : WX := fun _ _ _ _ => False
def wipeR (r : Rho) : List Nat → Rho
  | [] => r
  | v :: vs => (wipeR r vs).set v .un
def noOw (r : Rho) (vs : List Nat) : Bool := vs.all fun i => match r[i]? with
  | some (.ow _) => false
  | _ => true
def compL (G : D → Rho → Option Rho) (T : Rho → R Bool) (f : Rho → R D) (r0 : Rho) : List D → List D → R (List D)
  | acc, [] => .ok acc
  | acc, d :: ds => match G d r0 with
    | none => .no
    | some r1 => match T r1 with
      | .ok true => (match f r1 with
        | .ok x => if acc.length < sizeLine then compL G T f r0 (acc ++ [x]) ds else .no
        | _ => .no)
      | .ok false => compL G T f r0 acc ds
      | _ => .no
def cLc (vs : List Nat) (fi : Rho → R (List D)) (G : D → Rho → Option Rho) (T : Rho → R Bool) (f : Rho → R D) : Rho → R (List D) := fun r => if noOw r vs = true then (fi r).bind fun ds => compL G T f (wipeR r vs) [] ds else .no
def cYes : Rho → R Bool := fun _ => .ok true
section
variable {K : PySem.W.Frag} {C : ZC} {H H' : Hp} {r : Rho} {σ : St}
theorem EnvOk.wipe (E : EnvOk K C H r σ) : ∀ vs : List Nat, EnvOk K C H (wipeR r vs) (wipe σ vs)
  | [] => E
  | v :: vs => (EnvOk.wipe E vs).set_un
theorem wipeR_out {i : Nat} : ∀ {vs : List Nat}, i ∉ vs → (wipeR r vs)[i]? = r[i]?
  | [], _ => rfl
  | v :: vs, h => by
    rw [List.mem_cons, not_or] at h
    unfold wipeR
    rw [List.getElem?_set_ne (fun e => h.1 e.symm)]
    exact wipeR_out h.2
theorem wipeR_length : ∀ vs : List Nat, (wipeR r vs).length = r.length
  | [] => rfl
  | v :: vs => by unfold wipeR; rw [List.length_set, wipeR_length vs]
theorem wipe_out' {i : Nat} : ∀ {vs : List Nat}, i ∉ vs → (wipe σ vs)[i]? = σ[i]?
  | [], _ => rfl
  | v :: vs, h => by
    rw [List.mem_cons, not_or] at h
    unfold wipe
    rw [List.getElem?_set_ne (fun e => h.1 e.symm)]
    exact wipe_out' h.2
theorem wipe_in {i : Nat} {a b : St} (hl : a.length = b.length) : ∀ {vs : List Nat}, i ∈ vs → (wipe a vs)[i]? = (wipe b vs)[i]?
  | v :: vs, h => by
    unfold wipe
    by_cases e : v = i
    · subst e
      have la := wipe_length a vs
      have lb := wipe_length b vs
      by_cases hv : v < a.length
      · rw [List.getElem?_set_self (by rw [la]; exact hv), List.getElem?_set_self (by rw [lb, ← hl]; exact hv)]
      · rw [List.getElem?_eq_none (by rw [List.length_set, la]; omega), List.getElem?_eq_none (by rw [List.length_set, lb]; omega)]
    · rw [List.getElem?_set_ne e, List.getElem?_set_ne e]
      rcases List.mem_cons.mp h with q | q
      · exact absurd q.symm e
      · exact wipe_in hl q
theorem wipe_eq {a b : St} {vs : List Nat} (hl : a.length = b.length) (h : ∀ i, i ∉ vs → a[i]? = b[i]?) : wipe a vs = wipe b vs := by
  apply List.ext_getElem?
  intro i
  by_cases hi : i ∈ vs
  · exact wipe_in hl hi
  · rw [wipe_out' hi, wipe_out' hi, h i hi]
theorem EnvOk.plus (E : EnvOk K C H r σ) {p : Addr} (np : H p = none) (s : Same H H') (hp : H' p ≠ none) : EnvOk K ⟨C.H0, fun a => C.B0 a ∨ a = p⟩ H' r σ := by
  have bb : ∀ a, BB ⟨C.H0, fun a => C.B0 a ∨ a = p⟩ r σ a → BB C r σ a ∨ H a = none := fun a z => by
    rcases z with (z | z) | z
    · exact .inl (.inl z)
    · exact .inr (by rw [z]; exact np)
    · exact .inl (.inr z)
  refine ⟨E.len, E.same.trans s, fun a h => ?_, fun i d h => ?_, fun i ds h => ?_, E.inj⟩
  · rcases h with h | h
    · exact ⟨fun z => (E.b0 a h).1 (s.free z), (E.b0 a h).2⟩
    · refine ⟨by rw [h]; exact hp, fun z => ?_⟩
      obtain ⟨vs, e, _⟩ := E.own z
      rw [h, np] at e
      cases e
  · obtain ⟨v, e, q⟩ := E.sh i d h
    exact ⟨v, e, q.mono s bb⟩
  · obtain ⟨a, vs, e1, e2, e3, q⟩ := E.ow i ds h
    exact ⟨a, vs, e1, s _ _ e2, e3, q.mono s bb⟩
/-- a list of which nothing else knows is changed -/
theorem RpAll.updB {B : Addr → Prop} {p : Addr} {vs ws : List V} {ds : List D} {o : HO} (q : RpAll K H B vs ds) (hb : B p) (hp : H p = some (.lst ws)) : RpAll K (upd H p o) B vs ds := by
  refine Rp.stepAll ⟨fun b xs rd nb => ⟨?_, nb⟩, fun b xs t => ?_⟩ ds vs q
  · have ne : b ≠ p := fun z => nb (by rw [z]; exact hb)
    rcases rd with rd | ⟨o, rd⟩
    · exact .inl (by rw [upd_ne ne]; exact rd)
    · exact .inr ⟨o, by rw [upd_ne ne]; exact rd⟩
  · rcases t with t | t
    · rcases t with t | ⟨o, t⟩
      · have ne : b ≠ p := fun z => by rw [z, hp] at t; cases t
        exact .inl (.inl (by rw [upd_ne ne]; exact t))
      · have ne : b ≠ p := fun z => by rw [z, hp] at t; cases t
        exact .inl (.inr ⟨o, by rw [upd_ne ne]; exact t⟩)
    · exact .inr t
theorem Rp.updB {B : Addr → Prop} {p : Addr} {ws : List V} {v : V} {d : D} {o : HO} (q : Rp K H B v d) (hb : B p) (hp : H p = some (.lst ws)) : Rp K (upd H p o) B v d := by
  have h := RpAll.updB (o := o) (RpAll.cons q .nil) hb hp
  cases h with
  | cons a b => exact a
end
section
variable {X : Cx} {cm : Nat → Addr} {W : WX} {k : Nat} {e a b c : Expr} {f g h : Rho → R D} {pos : Pos}
abbrev ZTs (X : Cx) (cm : Nat → Addr) (W : WX) (es : List Expr) (f : Rho → R Bool) : Prop := PTs X es (tT X.K cm W f)
theorem zts_nil : ZTs X cm W [] cYes := by
  refine ⟨fun pins s σ H Q I ⟨C, r, E, q⟩ => pts_nil.run pins s σ H Q I ?_⟩
  exact q H (Same.refl H)
theorem zts_one {T : Rho → R Bool} (h : ZT X cm W e T) : ZTs X cm W [e] T := pts_one h
theorem Amb.blk (A : Amb X W k) (s : Shared) (H : Hp) (scope : Scope) (cenv : Env) (fp : List Addr) : Amb (X.blk s H scope cenv fp) W0 k := ⟨A.calm, A.nd, PassesOwn.never, takes0, A.hr⟩
theorem compL_nox {G : D → Rho → Option Rho} {T : Rho → R Bool} {r0 : Rho} : ∀ (ds acc : List D) j, compL G T f r0 acc ds ≠ .ex j
  | [], acc, j => fun e => by cases e
  | d :: ds, acc, j => fun e => by
    unfold compL at e
    cases hG : G d r0 with
    | none => rw [hG] at e; cases e
    | some r1 =>
      rw [hG] at e
      cases hT : T r1 with
      | ok t =>
        cases t with
        | false =>
          simp only [hT] at e
          exact compL_nox ds acc j e
        | true =>
          simp only [hT] at e
          cases hf : f r1 with
          | ok x =>
            simp only [hf] at e
            split at e
            · exact compL_nox ds _ j e
            · cases e
          | ex i => simp only [hf] at e; cases e
          | no => simp only [hf] at e; cases e
      | ex i => simp only [hT] at e; cases e
      | no => simp only [hT] at e; cases e
theorem compL_cons {G : D → Rho → Option Rho} {T : Rho → R Bool} {r0 : Rho} {d : D} {ds acc es : List D} (h : compL G T f r0 acc (d :: ds) = .ok es) :
    ∃ r1 t, G d r0 = some r1 ∧ T r1 = .ok t ∧ (t = false → compL G T f r0 acc ds = .ok es) ∧ (t = true → ∃ x, f r1 = .ok x ∧ acc.length < sizeLine ∧ compL G T f r0 (acc ++ [x]) ds = .ok es) := by
  unfold compL at h
  cases hG : G d r0 with
  | none => rw [hG] at h; cases h
  | some r1 =>
    rw [hG] at h
    cases hT : T r1 with
    | ok t =>
      refine ⟨r1, t, rfl, hT, fun e => ?_, fun e => ?_⟩
      · subst e
        simp only [hT] at h
        exact h
      · subst e
        simp only [hT] at h
        cases hf : f r1 with
        | ok x =>
          simp only [hf] at h
          obtain ⟨hz, h⟩ := rs_ite h
          exact ⟨x, rfl, hz, h⟩
        | ex i => simp only [hf] at h; cases h
        | no => simp only [hf] at h; cases h
    | ex i => simp only [hT] at h; cases h
    | no => simp only [hT] at h; cases h
theorem lc_reads {K : PySem.W.Frag} {is vs : List Nat} {fi : Rho → R (List D)} {G : D → Rho → Option Rho} {T : Rho → R Bool} (hk : ∀ d r r', G d r = some r' → ∀ j, j ∉ is → r'[j]? = r[j]?) (hz' : ∀ d r r', G d r = some r' → r'.length = r.length) (hv : ∀ i ∈ is, i ∈ vs) :
    ∀ σ H Q, tF K cm W (cLc vs fi G T f) σ H Q → tLc (tI K cm W fi) (tG K is G) (tT K cm W0 T) (tE K cm W0 f) vs σ H Q := fun σ H Q ⟨C, r, E, q⟩ => by
  obtain ⟨hno, q⟩ := pst_ite q
  refine ⟨C, r, E, pst_imp (pst_bind q) fun ds q J H1 s1 yl D hD => ?_⟩
  have E1 := E.go s1
  cases hc : compL G T f (wipeR r vs) [] ds with
  | ex j => exact (compL_nox ds [] j hc).elim
  | no => rw [hc] at q; exact (show False from q).elim
  | ok es =>
  rw [hc] at q
  have notow : ∀ i ds, r[i]? = some (.ow ds) → i ∉ vs := fun i ds hr hi => by
    have z := List.all_eq_true.mp hno i hi
    rw [hr] at z
    cases z
  have q : ∀ p vs' H', Same H H' → H p = none → H' p = some (.lst vs') → RpAll K H' (fun a => BB C r σ a ∨ a = p) vs' es → Q (.ref p) H' := q
  refine ⟨fun i m H' => ∃ acc dacc, m = ds.length - i ∧ i ≤ ds.length ∧ Same H1 H' ∧ H' D = some (.lst acc) ∧ RpAll K H' (fun a => BB C r σ a ∨ a = D) acc dacc ∧ compL G T f (wipeR r vs) dacc (ds.drop i) = .ok es,
    ⟨ds.length, [], [], by omega, Nat.zero_le _, same_upd hD, upd_same, .nil, hc⟩, fun i m H' ⟨acc, dacc, em, hl, s2, hD', ra, hcc⟩ => ?_⟩
  have sg : Same (ground H1 r σ) H' := ground_same.trans s2
  obtain ⟨y1, y2, y3⟩ := yl i H' sg
  by_cases hlt : i < ds.length
  · refine .inr ⟨y1 hlt, fun H4 => ∃ acc dacc, Same H1 H4 ∧ H4 D = some (.lst acc) ∧ RpAll K H4 (fun a => BB C r σ a ∨ a = D) acc dacc ∧ compL G T f (wipeR r vs) dacc (ds.drop (i + 1)) = .ok es,
      fun H4 ⟨acc, dacc, h1, h2, h3, h4⟩ => ⟨m - 1, by omega, acc, dacc, by omega, hlt, h1, h2, h3, h4⟩, fun x H2 hy => ?_⟩
    obtain ⟨s3, d, hd, rd⟩ := y3 x H2 hy hlt
    rw [drop_at hd] at hcc
    obtain ⟨r1, t, hG, hT, hf, ht⟩ := compL_cons hcc
    have s4 : Same H1 H2 := s2.trans s3
    have hD2 : H2 D = some (.lst acc) := s3 _ _ hD'
    have ra2 := ra.mono (B' := fun a => BB C r σ a ∨ a = D) s3 (fun _ z => .inl z)
    have E2 : EnvOk K ⟨C.H0, fun a => C.B0 a ∨ a = D⟩ H2 (wipeR r vs) (wipe σ vs) := (E1.plus hD s4 (by rw [hD2]; exact fun z => nomatch z)).wipe vs
    have ownw : ∀ a, OwnA (wipeR r vs) (wipe σ vs) a → OwnA r σ a := fun a ⟨j, es, h1, h2⟩ => by
      by_cases hj : j ∈ vs
      · exfalso
        obtain ⟨e, _⟩ := wipe_some (show (wipe σ vs)[j]? = some (some (V.ref a)) from h2)
        exact (wipe_some (show (wipe σ vs)[j]? = some (some (V.ref a)) from h2)).2 hj
      · rw [wipeR_out hj] at h1
        rw [wipe_out' hj] at h2
        exact ⟨j, es, h1, h2⟩
    have rx : Rp K H2 (BB ⟨C.H0, fun a => C.B0 a ∨ a = D⟩ (wipeR r vs) (wipe σ vs)) x d := rd _ fun a z => by
      rcases z with (z | z) | z
      · exact .inl z
      · refine .inr ?_
        rw [z]
        exact ground_same.free hD
      · exact .inr (ground_own (ownw a z))
    refine ⟨⟨C.H0, fun a => C.B0 a ∨ a = D⟩, wipeR r vs, r1, d, E2, rx, hG, fun σ2 E3 bb hσ => ⟨?_, ?_⟩⟩
    · refine wipe_eq ?_ fun i hi => ?_
      · have l1 := E3.len
        have l2 := E1.len
        have l3 : (wipeR r vs).length = r.length := wipeR_length vs
        rw [← l1, ← l2, hz' d _ _ hG, l3]
      · exact (hσ i fun z => hi (hv i z)).trans (wipe_out' hi)
    · refine ⟨_, r1, E3, ?_⟩
      rw [hT]
      intro H5 s5
      have s6 := s4.trans s5
      have hD5 : H5 D = some (.lst acc) := s5 _ _ hD2
      have ra5 := ra2.mono (B' := fun a => BB C r σ a ∨ a = D) s5 (fun _ z => .inl z)
      cases t with
      | false =>
        rw [if_neg Bool.false_ne_true]
        exact ⟨acc, dacc, s6, hD5, ra5, hf rfl⟩
      | true =>
        rw [if_pos rfl]
        obtain ⟨y, hy, hz, hc2⟩ := ht rfl
        refine ⟨_, r1, E3.go s5, ?_⟩
        rw [hy]
        intro v H6 s7 rv
        have hD6 : H6 D = some (.lst acc) := s7 _ _ hD5
        have ra6 := ra5.mono (B' := fun a => BB C r σ a ∨ a = D) s7 (fun _ z => .inl z)
        have rv6 : Rp K H6 (fun a => BB C r σ a ∨ a = D) v y := rv.mono (Same.refl _) fun a z => .inl (by
          rcases z with (z | ⟨j, es, h1, h2⟩) | z
          · exact .inl (.inl z)
          · have hj := notow j es h1
            refine .inr ⟨j, es, ?_, ?_⟩
            · rw [hk d _ _ hG j fun z => hj (hv j z), wipeR_out hj]
              exact h1
            · rw [hσ j fun z => hj (hv j z), wipe_out' hj]
              exact h2
          · exact .inl (.inr z))
        refine ⟨acc, hD6, by rw [ra.length]; exact hz, acc ++ [v], dacc ++ [y], fun b o hb => ?_, upd_same, (ra6.updB (.inr rfl) hD6).append (.cons (rv6.updB (.inr rfl) hD6) .nil), hc2⟩
        have ne : b ≠ D := ne_of_none hb hD
        rw [upd_ne ne]
        exact s7 _ _ (s6 _ _ hb)
  · have e : i = ds.length := by omega
    subst e
    rw [List.drop_length] at hcc
    have e2 : dacc = es := R.ok.inj hcc
    subst e2
    exact .inl ⟨y2 (Nat.le_refl _), q D acc H' (s1.trans s2) (s1.free hD) hD' ra⟩
section
variable {elt tg iter : Expr} {ifs : List Expr} {scope : Scope} {own : List (Str × Nat)} {is : List Nat} {fi : Rho → R (List D)} {G : D → Rho → Option Rho} {T : Rho → R Bool}
theorem zf_lc (own : List (Str × Nat)) (A : Amb X W k) (hi : ZI X cm W tg iter fi) (ok : BlkOk X.N X.env.scope scope own) (hg : ∀ (s : Shared) (H : Hp) (C : Addr) (cl : List (Str × Addr)) (fp : List Addr), ZG (X.blk s H scope (compEnvC scope cl C X.env) fp) tg is G)
    (ht : ∀ (s : Shared) (H : Hp) (C : Addr) (cl : List (Str × Addr)) (fp : List Addr), ZTs (X.blk s H scope (compEnvC scope cl C X.env) fp) cm W0 ifs T)
    (he : ∀ (s : Shared) (H : Hp) (C : Addr) (cl : List (Str × Addr)) (fp : List Addr), Amb (X.blk s H scope (compEnvC scope cl C X.env) fp) W0 k → ZE (X.blk s H scope (compEnvC scope cl C X.env) fp) cm W0 elt f) (hv : ∀ i ∈ is, i ∈ own.map (·.2) := by decide) (hs : ∀ x, foldedSetIterable iter X.env x = pure x := by intro _; rfl) :
    ZF X cm W (.ListComp elt [⟨tg, iter, ifs, 0⟩] scope pos) (cLc (own.map (·.2)) fi G T f) :=
  PE.imp (pe_lc (g := tG X.K is G) (tt := tT X.K cm W0 T) (te := tE X.K cm W0 f) A.calm A.nd hi ok (fun s H C cl fp => (hg s H C cl fp).pg) (fun s H C cl fp => ht s H C cl fp) (fun s H C cl fp => he s H C cl fp (A.blk s H scope _ fp)) hs)
    (lc_reads (hg X.s_0 X.H_0 0 [] []).keep (hg X.s_0 X.H_0 0 [] []).size hv)
theorem zs_setLc (i : Nat) {y : Str} {py spos : Pos} (own : List (Str × Nat)) (A : Amb X W k) (hi : ZI X cm W tg iter fi) (ok : BlkOk X.N X.env.scope scope own) (hg : ∀ (s : Shared) (H : Hp) (C : Addr) (cl : List (Str × Addr)) (fp : List Addr), ZG (X.blk s H scope (compEnvC scope cl C X.env) fp) tg is G)
    (ht : ∀ (s : Shared) (H : Hp) (C : Addr) (cl : List (Str × Addr)) (fp : List Addr), ZTs (X.blk s H scope (compEnvC scope cl C X.env) fp) cm W0 ifs T)
    (he : ∀ (s : Shared) (H : Hp) (C : Addr) (cl : List (Str × Addr)) (fp : List Addr), Amb (X.blk s H scope (compEnvC scope cl C X.env) fp) W0 k → ZE (X.blk s H scope (compEnvC scope cl C X.env) fp) cm W0 elt f)
    (hsw : swapsWith (.ListComp elt [⟨tg, iter, ifs, 0⟩] scope pos) (some (.Name y py)) spos.line X.env = pure true) (hv : ∀ i ∈ is, i ∈ own.map (·.2) := by decide) (hs : ∀ x, foldedSetIterable iter X.env x = pure x := by intro _; rfl)
    (hy : X.N[i]? = some y := by rfl) (hyl : X.env.scope.names.lookup y = some .local := by rfl) :
    ZS X cm W (.Assign [.Name y py] (.ListComp elt [⟨tg, iter, ifs, 0⟩] scope pos) spos) (sSet i (cL (cLc (own.map (·.2)) fi G T f))) :=
  PS.imp (ps_setLc (g := tG X.K is G) (tt := tT X.K cm W0 T) (te := tE X.K cm W0 f) A.calm A.nd hy hyl hsw hi ok (fun s H C cl fp => (hg s H C cl fp).pg) (fun s H C cl fp => ht s H C cl fp) (fun s H C cl fp => he s H C cl fp (A.blk s H scope _ fp)) hs) fun Dn σ H ⟨C, r, E, q⟩ =>
    lc_reads (K := X.K) (cm := cm) (W := W) (f := f) (hg X.s_0 X.H_0 0 [] []).keep (hg X.s_0 X.H_0 0 [] []).size hv σ H (fun x H1 => Dn.nx (σ.set i (some x)) H1) ⟨C, r, E, pst_imp (pst_bind (pso_of E q)) fun ds q p vs H1 s1 np hp rp =>
      q _ H1 ((E.go s1).set_sh (.lst (.mk (.inl hp) (fun z => E.bb z np)) (rp.mono (Same.refl _) fun a z => .inl (.inl z))))⟩
theorem zs_ownLc (i : Nat) {y : Str} {py spos : Pos} (own : List (Str × Nat)) (A : Amb X W k) (hi : ZI X cm W tg iter fi) (ok : BlkOk X.N X.env.scope scope own) (hg : ∀ (s : Shared) (H : Hp) (C : Addr) (cl : List (Str × Addr)) (fp : List Addr), ZG (X.blk s H scope (compEnvC scope cl C X.env) fp) tg is G)
    (ht : ∀ (s : Shared) (H : Hp) (C : Addr) (cl : List (Str × Addr)) (fp : List Addr), ZTs (X.blk s H scope (compEnvC scope cl C X.env) fp) cm W0 ifs T)
    (he : ∀ (s : Shared) (H : Hp) (C : Addr) (cl : List (Str × Addr)) (fp : List Addr), Amb (X.blk s H scope (compEnvC scope cl C X.env) fp) W0 k → ZE (X.blk s H scope (compEnvC scope cl C X.env) fp) cm W0 elt f)
    (hsw : swapsWith (.ListComp elt [⟨tg, iter, ifs, 0⟩] scope pos) (some (.Name y py)) spos.line X.env = pure true) (hv : ∀ i ∈ is, i ∈ own.map (·.2) := by decide) (hs : ∀ x, foldedSetIterable iter X.env x = pure x := by intro _; rfl)
    (hy : X.N[i]? = some y := by rfl) (hyl : X.env.scope.names.lookup y = some .local := by rfl) :
    ZS X cm W (.Assign [.Name y py] (.ListComp elt [⟨tg, iter, ifs, 0⟩] scope pos) spos) (sOwn i (cLc (own.map (·.2)) fi G T f)) :=
  PS.imp (ps_setLc (g := tG X.K is G) (tt := tT X.K cm W0 T) (te := tE X.K cm W0 f) A.calm A.nd hy hyl hsw hi ok (fun s H C cl fp => (hg s H C cl fp).pg) (fun s H C cl fp => ht s H C cl fp) (fun s H C cl fp => he s H C cl fp (A.blk s H scope _ fp)) hs) fun Dn σ H ⟨C, r, E, q⟩ =>
    lc_reads (K := X.K) (cm := cm) (W := W) (f := f) (hg X.s_0 X.H_0 0 [] []).keep (hg X.s_0 X.H_0 0 [] []).size hv σ H (fun x H1 => Dn.nx (σ.set i (some x)) H1) ⟨C, r, E, pst_imp (pso_of E q) fun ds q p vs H1 s1 np hp rp => by
      by_cases hl : i < r.length
      · rw [if_pos hl] at q
        exact q _ H1 (E.set_ow np s1 hp rp hl)
      · rw [if_neg hl] at q
        exact (show False from q).elim⟩
end

/-! ### defs -/
/-- the promise of a def that computes Gd -/
def spZ (K : PySem.W.Frag) (cm : Nat → Addr) (Gd : List D → R D) : Sp := fun vs H Q E => ∃ (B : Addr → Prop) (ds : List D), NB B H ∧ RpAll K H B vs ds ∧ match Gd ds with
  | .ok d => ∀ v H', Same H H' → Rp K H' B v d → Q v H'
  | .ex k => ∀ H', Same H H' → E (.ref (cm k)) none H'
  | .no => False
structure ZFn (P : Program) (w : World) (K : PySem.W.Frag) (mg : Str → Option Value) (base : Heap) (cm : Nat → Addr) (x : Str) (k : Nat) (Gd : List D → R D) : Prop where
  ex : ∃ (f : Addr) (fd : FuncData) (ps : List Str), mg x = some (.ref f) ∧ PySem.W.keepIn K (.ref f) = true ∧ Binds K fd ps [] ∧ FnOk P w K mg base (L2.CX P w) k f fd ps (spZ K cm Gd)
def startR (n : Nat) (ds : List D) : Rho := ds.map .sh ++ List.replicate (n - ds.length) .un
def runF (n m : Nat) (F : SF) (ds : List D) : R D := if ds.length = m then runS F (startR n ds) else .no
theorem ZFn.imp {P : Program} {w : World} {K : PySem.W.Frag} {mg : Str → Option Value} {base : Heap} {x : Str} {Gd Gd' : List D → R D} (Y : ZFn P w K mg base cm x k Gd) (h : ∀ ds, Gd' ds = .no ∨ Gd ds = Gd' ds) : ZFn P w K mg base cm x k Gd' := by
  obtain ⟨f, fd, ps, h1, h2, h3, h4⟩ := Y.ex
  refine ⟨f, fd, ps, h1, h2, h3, h4.imp fun vs H Q E ⟨B, ds, nb, r, q⟩ => ⟨B, ds, nb, r, ?_⟩⟩
  rcases h ds with e | e
  · rw [e] at q; exact (show False from q).elim
  · rw [e]; exact q
theorem ZFn.up {P : Program} {w : World} {K : PySem.W.Frag} {mg : Str → Option Value} {base : Heap} {x : Str} {j : Nat} {Gd : List D → R D} (Y : ZFn P w K mg base cm x j Gd) (h : j ≤ k) : ZFn P w K mg base cm x k Gd := by
  obtain ⟨f, fd, ps, h1, h2, h3, h4⟩ := Y.ex
  exact ⟨f, fd, ps, h1, h2, h3, h4.mono h⟩
def cCall (Gd : List D → R D) (fa : Rho → R (List D)) : Rho → R D := fun r => (fa r).bind Gd
theorem call_reads {K : PySem.W.Frag} {Gd : List D → R D} {fa : Rho → R (List D)} : ∀ σ H Q, tE K cm W (cCall Gd fa) σ H Q → tCallS (spZ K cm Gd) (WE W) (tA K cm W fa) σ H Q := fun σ H Q ⟨C, r, E, q⟩ =>
  ⟨C, r, E, pst_imp (pst_bind q) fun ds q vs H1 s1 rv => ⟨BB C r σ, ds, E.nb.go s1, rv, by
    cases hG : Gd ds with
    | ok d => rw [hG] at q; exact fun v H2 s2 rd => q v H2 (s1.trans s2) rd
    | ex k => rw [hG] at q; exact fun H2 s2 => q H2 (s1.trans s2)
    | no => rw [hG] at q; exact q⟩⟩
theorem ze_call {x : Str} {p : Pos} {es : List Expr} {j : Nat} {Gd : List D → R D} {fa : Rho → R (List D)} (Y : ZFn X.prog X.w X.K X.mg X.base cm x j Gd) (A : Amb X W k) (hj : j ≤ k) (ha : ZA X cm W (e :: es) fa) (hg : Gl X x := by rfl)
    (hdb : (x == ("__debug__" : Str)) = false := by decide) (he : starEach (e :: es) X.env = (false, eval e X.env) :: starEach es X.env := by rfl) (hpl : (backTo pos (starEach es X.env)).any (·.1) = false := by rfl) :
    ZE X cm W (.Call (.Name x p) (e :: es) [] pos) (cCall Gd fa) := by
  obtain ⟨f, fd, ps, h1, h2, h3, h4⟩ := (Y.up hj).ex
  exact PE.imp (pe_callS (E := WE W) h4 A.hr hg h1 h2 h3 (fun σ => passAt A.tk σ) ha hdb he hpl) call_reads
theorem ze_call0 {x : Str} {p : Pos} {j : Nat} {Gd : List D → R D} (Y : ZFn X.prog X.w X.K X.mg X.base cm x j Gd) (A : Amb X W k) (hj : j ≤ k) (hg : Gl X x := by rfl) (hdb : (x == ("__debug__" : Str)) = false := by decide) :
    ZE X cm W (.Call (.Name x p) [] [] pos) (cCall Gd cNil) := by
  obtain ⟨f, fd, ps, h1, h2, h3, h4⟩ := (Y.up hj).ex
  refine ⟨fun pins s σ H Q I h => ?_⟩
  refine wpAny_Call_Name_kw (ld_glob I hg h1 ?_ hdb)
  refine PySem.W.callWith_K0 I.kIn h2 (run_fnS (us := []) (vs := []) h4 A.hr h3 (passAt A.tk σ) I .nil ?_)
  have q := call_reads (fa := cNil) σ H Q h
  obtain ⟨C, r, E, q⟩ := q
  exact q [] H (Same.refl H) .nil
theorem start_env {K : PySem.W.Frag} {H : Hp} {B : Addr → Prop} {N : List Str} {vs : List V} {ds : List D} (nb : NB B H) (r : RpAll K H B vs ds) : EnvOk K ⟨H, B⟩ H (startR N.length ds) (L2.start N vs) := by
  have l := r.length
  have noow : ∀ (i : Nat) es, (startR N.length ds)[i]? ≠ some (.ow es) := fun i es e => by
    unfold startR at e
    by_cases hi : i < ds.length
    · rw [List.getElem?_append_left (by simpa using hi), List.getElem?_map] at e
      cases h : ds[i]? with
      | none => rw [h] at e; cases e
      | some d => rw [h] at e; cases e
    · rw [List.getElem?_append_right (by simpa using hi), List.getElem?_replicate] at e
      split at e <;> cases e
  have noown : ∀ a, ¬ OwnA (startR N.length ds) (L2.start N vs) a := fun a ⟨i, es, h, _⟩ => noow i es h
  refine ⟨?_, Same.refl H, fun a h => ⟨nb a h, noown a⟩, fun i d h => ?_, fun i es h => (noow i es h).elim, fun i j es _ _ h => (noow i es h).elim⟩
  · unfold startR L2.start
    simp only [List.length_append, List.length_map, List.length_replicate, l]
  · have hi : i < ds.length := by
      by_cases hi : i < ds.length
      · exact hi
      · unfold startR at h
        rw [List.getElem?_append_right (by simpa using hi), List.getElem?_replicate] at h
        split at h <;> cases h
    unfold startR at h
    rw [List.getElem?_append_left (by simpa using hi), List.getElem?_map] at h
    cases hd : ds[i]? with
    | none => rw [hd] at h; cases h
    | some d' =>
      rw [hd] at h
      cases h
      obtain ⟨v, hv, rv⟩ := r.get' hd
      refine ⟨v, ?_, rv.mono (Same.refl H) fun a z => .inl (z.elim id fun z => (noown a z).elim)⟩
      unfold L2.start
      rw [List.getElem?_append_left (by rw [List.length_map, l]; exact hi), List.getElem?_map, hv]
      rfl
theorem zfn_ok {P : Program} {w : World} {K : PySem.W.Frag} {mg : Str → Option Value} {base : Heap} {x : Str} {st : Stmt} {f : Addr} {fd : FuncData} {N ps : List Str} {F : SF} (Fn : Fun K x x st f fd) (S : FnScope N ps (defScope st)) 
    (body : ∀ (cdv : Value) (A : Around) (outer : List Env) (s : Shared) (H : Hp) (E : XK), Amb (cxOf (L2.CX P w) P w K mg base N x (defScope st) f cdv A outer s H E) (fun c d _ H' => E c d H') k →
      ZSs (cxOf (L2.CX P w) P w K mg base N x (defScope st) f cdv A outer s H E) cm (fun c d _ H' => E c d H') (defBody st) F) : FnOk P w K mg base (L2.CX P w) (k + 1) f fd ps (spZ K cm (runF N.length ps.length F)) := by
  refine Fn.okX S (fun vs H Q E ⟨B, ds, nb, r, q⟩ => ?_) (fun cdv A outer s H vs Q E hr ⟨B, ds, nb, r, q⟩ => ⟨_, body cdv A outer s H E ⟨rfl, S.nd, passes_of rfl, takes_of rfl rfl rfl rfl, hr⟩, ?_⟩)
  · unfold runF at q
    by_cases hl : ds.length = ps.length
    · rw [r.length, hl]
    · rw [if_neg hl] at q; exact (show False from q).elim
  · unfold runF at q
    by_cases hl : ds.length = ps.length
    · rw [if_pos hl] at q
      refine ⟨⟨H, B⟩, startR N.length ds, start_env nb r, ?_⟩
      unfold runS at q
      cases hF : F (startR N.length ds) with
      | nx r' => rw [hF] at q; exact fun σ' H' E' => q .non H' E'.same .non
      | rt d => rw [hF] at q; exact fun v H' s' rv => q v H' s' rv
      | bk r' => rw [hF] at q; exact (show False from q).elim
      | ct r' => rw [hF] at q; exact (show False from q).elim
      | xx j r' => rw [hF] at q; exact fun σ' H' E' => q H' E'.same
      | no => rw [hF] at q; exact q
    · rw [if_neg hl] at q; exact (show False from q).elim

theorem zfn {P : Program} {w : World} {K : PySem.W.Frag} {mg : Str → Option Value} {base : Heap} {x : Str} {st : Stmt} {f : Addr} {fd : FuncData} {N ps : List Str} {F : SF} (Fn : Fun K x x st f fd) (S : FnScope N ps (defScope st)) (hm : mg x = some (.ref f)) (hb : Binds K fd ps [])
    (body : ∀ (cdv : Value) (A : Around) (outer : List Env) (s : Shared) (H : Hp) (E : XK), Amb (cxOf (L2.CX P w) P w K mg base N x (defScope st) f cdv A outer s H E) (fun c d _ H' => E c d H') k →
      ZSs (cxOf (L2.CX P w) P w K mg base N x (defScope st) f cdv A outer s H E) cm (fun c d _ H' => E c d H') (defBody st) F) : ZFn P w K mg base cm x (k + 1) (runF N.length ps.length F) := ⟨f, fd, ps, hm, Fn.kp, hb, zfn_ok Fn S body⟩

/-! ### exceptions -/
abbrev veChain : List Value := [.type "ValueError", .type "Exception", .type "BaseException", .type "object"]
structure ZExc (K : PySem.W.Frag) (mg : Str → Option Value) (cm : Nat → Addr) (x : Str) (k : Nat) : Prop where
  gC : mg x = some (.ref (cm k))
  q : PySem.W.excIn K (cm k) veChain "ValueError.__new__" = true
  kC : PySem.W.keepIn K (.ref (cm k)) = true
  b : PySem.W.subIn K (.ref (cm k)) (.type "BaseException") = some true
  t : PySem.W.typeIn K (.ref (cm k)) = some (.type "type")
theorem zs_raise {x m : Str} {j i : Nat} {p p2 p3 : Pos} (A : Amb X W k) (Y : ZExc X.K X.mg cm x i) (hg : Gl X x := by rfl) (hdb : (x == ("__debug__" : Str)) = false := by decide) :
    ZS X cm W (.Raise (some (.Call (.Name x p) [.Constant (.str m) j p2] [] p3)) none pos) (sRaise i) :=
  PS.imp (ps_raise A.calm A.tk (pmk_own PySem.F.excBase_ValueError Y.q Y.gC Y.kC (raises_own Y.b Y.t) hg hdb)) fun Dn σ H ⟨C, r, E, q⟩ => q σ H E
def noX : Out → Out
  | .xx _ _ => .no
  | o => o
theorem pso_noX {K : PySem.W.Frag} {C : ZC} {Dn : Ends} {o : Out} (h : pso K cm W C Dn (noX o)) {W' : WX} : pso K cm W' C Dn o := by
  cases o with
  | xx k r => exact (show False from h).elim
  | nx r => exact h
  | rt d => exact h
  | bk r => exact h
  | ct r => exact h
  | no => exact h
def sTryO (F : SF) (mt : Nat → Option Bool) (G : SF) : SF := fun r => match F r with
  | .xx k r' => match mt k with
    | some true => noX (G r')
    | some false => .xx k r'
    | none => .no
  | o => o
theorem zs_tryO {x : Str} {body suite : List Stmt} {b0 : Stmt} {np pos' : Pos} {kc : Nat} {F G : SF} {mt : Nat → Option Bool} (A : Amb X W k) (hx : X.mg x = some (.ref (cm kc))) (hm : ∀ i b, mt i = some b → PySem.W.exmOne X.K (.ref (cm i)) (.ref (cm kc)) = some b)
    (hb : ∀ (W' : WX) (pn : List (Addr × Obj)) (xe : Value → Shared → Prop), Amb (X.tr pn xe) W' k → ZSs (X.tr pn xe) cm W' body F)
    (hsu : ∀ (a : Addr) (pn : List (Addr × Obj)), ZSs (X.suite a pn) cm W0 (b0 :: suite) G) (hst : X.stack = X.env :: X.outer := by rfl) (hf : X.env.frame = some X.env.locals := by rfl) (hg : Gl X x := by rfl) (hdb : (x == ("__debug__" : Str)) = false := by decide) :
    ZS X cm W (.Try body [.ExceptHandler (some (.Name x np)) none (b0 :: suite) pos'] [] [] pos) (sTryO F mt G) := by
  refine PS.imp (ps_try_only (tb := fun W' => tS X.K cm W' F) (ts := fun _ _ _ => tS X.K cm W0 G) hst hf ⟨hg, hdb, .inl hx⟩ A.tk (fun W' pn xe tk po => hb W' pn xe ⟨A.calm, A.nd, po, tk, A.hr⟩) (fun a oe cls d pn _ _ => hsu a _)) fun Dn σ H ⟨C, r, E, q⟩ => ⟨C, r, E, ?_⟩
  unfold sTryO at q
  cases hF : F r with
  | xx i r' =>
    rw [hF] at q
    intro σ' H' E'
    cases hmi : mt i with
    | none => simp only [hmi] at q; exact (show False from q).elim
    | some b =>
      refine ⟨b, hm i b hmi, fun e a _ => ?_, fun e => ?_⟩
      · subst e
        simp only [hmi] at q
        exact ⟨C, r', E', pso_noX q⟩
      · subst e
        simp only [hmi] at q
        exact q σ' H' E'
  | nx r' => rw [hF] at q; exact q
  | rt d => rw [hF] at q; exact q
  | bk r' => rw [hF] at q; exact q
  | ct r' => rw [hF] at q; exact q
  | no => rw [hF] at q; exact q

/-! ### isinstance with a built-in type -/
theorem tyX_of {K : PySem.W.Frag} {H : Hp} {B : Addr → Prop} {v : V} : ∀ {d : D}, RpC K H B v d → TyX K H v (.type (kindD d))
  | .none, r => by rw [r.non]; exact .base .non
  | .bool b, r => by rw [r.bl]; exact .base (.bl b)
  | .int i, r => by rw [r.int]; exact .base (.int i)
  | .str x, r => by rw [r.str]; exact .base (.str x)
  | .list ds, r => by
    obtain ⟨a, xs, rfl, h, _⟩ := r.lstE
    rcases h with (h | ⟨o, h⟩) | ⟨o, its, n, h, h2, _⟩
    · exact .base (.lst h)
    · exact .base (.frz h)
    · exact .kList h h2
  | .tuple ds, r => by
    obtain ⟨a, xs, rfl, h, _⟩ := r.tup
    rcases h with (h | ⟨o, h⟩) | ⟨o, its, n, h, h2, _⟩
    · exact .base (.tup h)
    · exact .fTuple h
    · exact .kTuple h h2
  | .dict _, r => r.nodict.elim
def isiD (is : String → Bool) (d : D) : R D := .ok (.bool (is (kindD d)))
theorem ze_isi {T : String} {is : String → Bool} {y : Str} {p p2 : Pos} (hk : ∀ d : D, kitB (kindD d) T = some (is (kindD d))) (ha : ZK X cm W a f) (hy : X.mg y = none) (hv : bootBuiltins y = some (.type T)) (hm : X.mg "isinstance" = none) (hg : Gl X "isinstance" := by rfl) (hgy : Gl X y := by rfl)
    (he : starEach (a :: [.Name y p2]) X.env = (false, eval a X.env) :: starEach [.Name y p2] X.env := by rfl) (he2 : starEach (.Name y p2 :: []) X.env = (false, eval (.Name y p2) X.env) :: starEach [] X.env := by rfl) (hpl : (backTo pos (starEach [.Name y p2] X.env)).any (·.1) = false := by rfl)
    (hn : y ≠ "__name__" := by decide) (hdb : (y == ("__debug__" : Str)) = false := by decide) :
    ZE X cm W (.Call (.Name "isinstance" p) [a, .Name y p2] [] pos) (cB1 (isiD is) f) :=
  PE.imp (pe_callB call_isi hg hm (by decide +kernel) (pa_cons ha (pa_cons (pe_bltn (v := .ty T) hgy hy hv rfl hn hdb) pa_nil he2) he) (by decide) (by decide) he hpl) (then1 (kk := fun x H Q => rIsi X.K [x, .ty T] H Q) fun σ H B x d Q hb rx q =>
    ⟨x, .ty T, .type (kindD d), .type T, is (kindD d), rfl, .ty T, tyX_of rx, kit_ty (hk d), (show Res X.K cm W σ B H (.ok (.bool (is (kindD d)))) Q from q).ok (.bl _)⟩)
end
end Z


set_option Elab.async false
set_option linter.all false
set_option maxRecDepth 100000
set_option maxHeartbeats 4000000
namespace Z
open PySem PySem.Spec PyProof.Rows L2
theorem ite_nx {α : Type} {p : Prop} [Decidable p] {x y : R α} (hx : ∀ j, x ≠ .ex j) (hy : ∀ j, y ≠ .ex j) : ∀ j, (if p then x else y) ≠ .ex j := fun j => by
  by_cases h : p
  · rw [if_pos h]; exact hx j
  · rw [if_neg h]; exact hy j
theorem ok_nx {α : Type} {a : α} : ∀ j, (R.ok a) ≠ .ex j := fun j e => by cases e
theorem no_nx {α : Type} : ∀ j, (R.no : R α) ≠ .ex j := fun j e => by cases e
theorem eqD_nx (d e : D) (j : Nat) : eqD d e ≠ .ex j := ite_nx ok_nx no_nx j
theorem neD_nx (d e : D) (j : Nat) : neD d e ≠ .ex j := ite_nx ok_nx no_nx j
theorem ltD_nx (d e : D) (j : Nat) : ltD d e ≠ .ex j := fun h => by cases d <;> cases e <;> cases h
theorem leD_nx (d e : D) (j : Nat) : leD d e ≠ .ex j := fun h => by cases d <;> cases e <;> cases h
theorem gtD_nx (d e : D) (j : Nat) : gtD d e ≠ .ex j := fun h => by cases d <;> cases e <;> cases h
theorem geD_nx (d e : D) (j : Nat) : geD d e ≠ .ex j := fun h => by cases d <;> cases e <;> cases h
theorem sgnD_nx (z : Str) (x : D) (j : Nat) : sgnD z x ≠ .ex j := fun h => by
  cases x with
  | str w =>
    unfold sgnD at h
    simp only at h
    split at h <;> cases h
  | _ => cases h
theorem inD_nx (d e : D) (j : Nat) : inD d e ≠ .ex j := fun h => by
  cases e with
  | list ys => exact ite_nx ok_nx no_nx j h
  | tuple ys => exact ite_nx ok_nx no_nx j h
  | str z => exact sgnD_nx z d j h
  | _ => cases h
theorem notInD_nx (d e : D) (j : Nat) : notInD d e ≠ .ex j := bind_nox (inD_nx d e) (fun _ _ h => by cases h) j
section
variable {X : Cx} {cm : Nat → Addr} {W : WX} {k : Nat} {e a b c : Expr} {f g h : Rho → R D} {pos : Pos}
theorem rp_non {K : PySem.W.Frag} {H : Hp} {B : Addr → Prop} {v : V} {d : D} (r : RpC K H B v d) : isND d = .ok (decide (v = .non)) ∧ notND d = .ok (!decide (v = .non)) := by
  cases d with
  | none => rw [r.non]; exact ⟨rfl, rfl⟩
  | bool b => rw [r.bl]; exact ⟨rfl, rfl⟩
  | int b => rw [r.int]; exact ⟨rfl, rfl⟩
  | str b => rw [r.str]; exact ⟨rfl, rfl⟩
  | list b => obtain ⟨a, xs, rfl, _⟩ := r.lstE; exact ⟨rfl, rfl⟩
  | tuple b => obtain ⟨a, xs, rfl, _⟩ := r.tup; exact ⟨rfl, rfl⟩
  | dict b => exact r.nodict.elim
theorem zt_isN {j pos'} (ha : ZK X cm W a f) : ZT X cm W (.Compare a [.Is] [.Constant .none j pos'] pos) (cT1 isND f) := PT.imp (pt_cmp (pc_isN ha)) (then1T (kk := fun x H Q => ∃ c, V.bl (decide (x = .non)) = .bl c ∧ Q c H) fun σ H B x d Q hb rx q => ⟨_, rfl, by
  rw [(rp_non rx).1] at q
  exact q H (Same.refl H)⟩)
theorem zt_notN {j pos'} (ha : ZK X cm W a f) : ZT X cm W (.Compare a [.IsNot] [.Constant .none j pos'] pos) (cT1 notND f) := PT.imp (pt_cmp (pc_notN ha)) (then1T (kk := fun x H Q => ∃ c, V.bl (!decide (x = .non)) = .bl c ∧ Q c H) fun σ H B x d Q hb rx q => ⟨_, rfl, by
  rw [(rp_non rx).2] at q
  exact q H (Same.refl H)⟩)
def tR (F : D → R Bool) (d : D) : R D := (F d).bind fun b => .ok (.bool b)
theorem ze_isN {j pos'} (ha : ZK X cm W a f) : ZE X cm W (.Compare a [.Is] [.Constant .none j pos'] pos) (cB1 (tR isND) f) := PE.imp (pe_cmp (pc_isN ha)) (then1 (kk := fun x H Q => Q (.bl (decide (x = .non))) H) fun σ H B x d Q hb rx q => by
  unfold tR at q
  rw [(rp_non rx).1] at q
  exact (show Res X.K cm W σ B H (.ok (.bool (decide (x = .non)))) Q from q).ok (.bl _))
theorem ze_notN {j pos'} (ha : ZK X cm W a f) : ZE X cm W (.Compare a [.IsNot] [.Constant .none j pos'] pos) (cB1 (tR notND) f) := PE.imp (pe_cmp (pc_notN ha)) (then1 (kk := fun x H Q => Q (.bl (!decide (x = .non))) H) fun σ H B x d Q hb rx q => by
  unfold tR at q
  rw [(rp_non rx).2] at q
  exact (show Res X.K cm W σ B H (.ok (.bool (!decide (x = .non)))) Q from q).ok (.bl _))

/-! ### range with a step -/
def rng3L (i c : Int) (n : Nat) : List D := (List.range n).map fun m => .int (i + (m : Nat) * c)
def rng3D : D → D → D → R (List D)
  | .int i, .int j, .int c => if c ≠ 0 ∧ c.natAbs < 1073741824 ∧ Builtin.Range.small i j c = true ∧ 0 ≤ Builtin.Range.rangeSize i j c then .ok (rng3L i c (Builtin.Range.rangeSize i j c).toNat) else .no
  | _, _, _ => .no
theorem yl_rng3 {K : PySem.W.Frag} {Hb : Hp} {B0 : Addr → Prop} (lo c : Int) (n : Nat) : Yl K Hb B0 (Itc lo c n) (rng3L lo c n) := fun i H s => by
  have hl : (rng3L lo c n).length = n := by simp [rng3L]
  rw [hl]
  refine ⟨fun h => h, fun h => h, fun x H' y hi => ?_⟩
  obtain ⟨e, y⟩ := y
  subst e
  refine ⟨Same.refl _, .int (lo + (i : Nat) * c), ?_, fun B hB => ?_⟩
  · unfold rng3L
    rw [List.getElem?_map, List.getElem?_range hi]
    rfl
  · rw [y]
    exact .int _
def cR3 (f g h : Rho → R D) : Rho → R (List D) := fun r => (f r).bind fun x => (g r).bind fun y => (h r).bind fun z => rng3D x y z
theorem zi_range3 {tg : Expr} {p : Pos} (ha : ZE X cm W a f) (hb : ZE X cm W b g) (hc : ZE X cm W c h) (hm : X.mg "range" = none) (hg : Gl X "range" := by rfl) (hs1 : starEach (a :: [b, c]) X.env = (false, eval a X.env) :: starEach [b, c] X.env := by rfl) (hs2 : starEach (b :: [c]) X.env = (false, eval b X.env) :: starEach [c] X.env := by rfl) (hs3 : starEach (c :: []) X.env = (false, eval c X.env) :: starEach [] X.env := by rfl) (hpl : (backTo pos (starEach [b, c] X.env)).any (·.1) = false := by rfl) :
    ZI X cm W tg (.Call (.Name "range" p) [a, b, c] [] pos) (cR3 f g h) :=
  PI.imp (pi_range3 hg hm (pa_cons ha (pa_cons hb (pa_cons hc pa_nil hs3) hs2) hs1) hs1 hpl) fun σ H Q ⟨C, r, E, q⟩ => ⟨C, r, E, pst_imp (pst_bind q) fun d q v H1 s1 r1 => ⟨C, r, E.go s1, pst_imp (pst_bind (pst_go q s1)) fun d2 q w H2 s2 r2 => ⟨C, r, E.go (s1.trans s2), pst_imp (pst_bind (pst_go q s2)) fun d3 q u H3 s3 r3 => by
    cases d with
    | int i =>
      cases r1
      cases d2 with
      | int j =>
        cases r2
        cases d3 with
        | int l =>
          cases r3
          obtain ⟨hc, q⟩ := pst_ite q
          exact ⟨i, j, l, _, rfl, ⟨hc.1, hc.2.1, hc.2.2.1, (Int.toNat_of_nonneg hc.2.2.2).symm⟩, q _ H3 ((s1.trans s2).trans s3) (yl_rng3 i l _)⟩
        | _ => exact (show False from q).elim
      | _ => cases d3 <;> exact (show False from q).elim
    | _ => cases d2 <;> cases d3 <;> exact (show False from q).elim⟩⟩⟩

/-! ### dicts of the module with text keys and flat values -/
structure ZDict (K : PySem.W.Frag) (w : World) (mg : Str → Option Value) (x : Str) (tab : List (Str × Str)) : Prop where
  ex : ∃ d es n, mg x = some (.ref d) ∧ KDict K w d es n ∧ ∀ z : Str, ∃ r, PySem.W.nsIn K d z = some r ∧ match List.lookup z tab with
    | some y => ∃ u, r = some u ∧ RelV (.str y) u
    | none => r = none
def kdIn (tab : List (Str × Str)) : D → R Bool
  | .str z => .ok (List.lookup z tab).isSome
  | _ => .no
def kdNotIn (tab : List (Str × Str)) : D → R Bool
  | .str z => .ok (!(List.lookup z tab).isSome)
  | _ => .no
def kdIx (tab : List (Str × Str)) : D → R D
  | .str z => match List.lookup z tab with
    | some y => .ok (.str y)
    | none => .no
  | _ => .no
theorem zt_inKD {x : Str} {p : Pos} {tab : List (Str × Str)} (Y : ZDict X.K X.w X.mg x tab) (ha : ZK X cm W a f) (hg : Gl X x := by rfl) (hd : (x == ("__debug__" : Str)) = false := by decide) (hm : behindInMarks .In (.Name x p) = false := by rfl) :
    ZT X cm W (.Compare a [.In] [.Name x p] pos) (cT1 (kdIn tab) f) := by
  obtain ⟨d, es, n, hx, hd2, ht⟩ := Y.ex
  refine PT.imp (pt_cmpR (op_in_kd hd2) ha (pe_glob (v := .ref d) hg hx rfl hd) hm) (then1T (kk := fun x H Q => ∃ (z : Str) (r : Option Value), x = .str z ∧ V.ref d = .ref d ∧ PySem.W.nsIn X.K d z = some r ∧ ∃ k, V.bl r.isSome = .bl k ∧ Q k H) fun σ H B x e Q hb rx q => ?_)
  cases e with
  | str z =>
    obtain ⟨r, h1, h2⟩ := ht z
    refine ⟨z, r, rx.str, rfl, h1, _, rfl, ?_⟩
    have q : ∀ H', Same H H' → Q (List.lookup z tab).isSome H' := q
    cases hl : List.lookup z tab with
    | none => rw [hl] at h2 q; rw [h2]; exact q H (Same.refl H)
    | some y => rw [hl] at h2 q; obtain ⟨u, e, _⟩ := h2; rw [e]; exact q H (Same.refl H)
  | _ => exact (show False from q).elim
theorem zt_notInKD {x : Str} {p : Pos} {tab : List (Str × Str)} (Y : ZDict X.K X.w X.mg x tab) (ha : ZK X cm W a f) (hg : Gl X x := by rfl) (hd : (x == ("__debug__" : Str)) = false := by decide) (hm : behindInMarks .NotIn (.Name x p) = false := by rfl) :
    ZT X cm W (.Compare a [.NotIn] [.Name x p] pos) (cT1 (kdNotIn tab) f) := by
  obtain ⟨d, es, n, hx, hd2, ht⟩ := Y.ex
  refine PT.imp (pt_cmpR (op_notIn_kd hd2) ha (pe_glob (v := .ref d) hg hx rfl hd) hm) (then1T (kk := fun x H Q => ∃ (z : Str) (r : Option Value), x = .str z ∧ V.ref d = .ref d ∧ PySem.W.nsIn X.K d z = some r ∧ ∃ k, V.bl (!r.isSome) = .bl k ∧ Q k H) fun σ H B x e Q hb rx q => ?_)
  cases e with
  | str z =>
    obtain ⟨r, h1, h2⟩ := ht z
    refine ⟨z, r, rx.str, rfl, h1, _, rfl, ?_⟩
    have q : ∀ H', Same H H' → Q (!(List.lookup z tab).isSome) H' := q
    cases hl : List.lookup z tab with
    | none => rw [hl] at h2 q; rw [h2]; exact q H (Same.refl H)
    | some y => rw [hl] at h2 q; obtain ⟨u, e, _⟩ := h2; rw [e]; exact q H (Same.refl H)
  | _ => exact (show False from q).elim
theorem ze_ixKD {x : Str} {p : Pos} {tab : List (Str × Str)} (Y : ZDict X.K X.w X.mg x tab) (ha : ZK X cm W a f) (hg : Gl X x := by rfl) (hd : (x == ("__debug__" : Str)) = false := by decide) (hs : PlainIx a := by exact fun _ _ => rfl) :
    ZE X cm W (.Subscript (.Name x p) a pos) (cB1 (kdIx tab) f) := by
  obtain ⟨d, es, n, hx, hd2, ht⟩ := Y.ex
  refine PE.imp (pe_ix ix_kdict (pe_glob (v := .ref d) hg hx rfl hd) ha hs) (then1 (kk := fun y H Q => rIxD X.K X.w (.ref d) y H Q) fun σ H B x e Q hb rx q => ?_)
  cases e with
  | str z =>
    obtain ⟨r, h1, h2⟩ := ht z
    have q' : Res X.K cm W σ B H (match List.lookup z tab with
      | some y => R.ok (.str y)
      | none => .no) Q := q
    cases hl : List.lookup z tab with
    | none => rw [hl] at q'; exact (show False from q').elim
    | some y =>
      rw [hl] at h2 q'
      obtain ⟨u, e, ru⟩ := h2
      subst e
      exact ⟨d, z, .str y, rfl, rx.str, ⟨es, n, u, hd2.at_, hd2.lit, h1, ru⟩, q'.ok (.str _)⟩
  | _ => exact (show False from q).elim
end
end Z
namespace Z
open PySem PySem.Spec PyProof.Rows L2
/-- enough turns for any while here; never unfolded -/
def fuelW : Nat := 2 ^ 2000000
/-- the def x of the text stands in the module -/
def FnHas (K : PySem.W.Frag) (mg : Str → Option Value) (x : Str) (st : Stmt) (ps : List Str) : Prop := ∃ f fd, Fun K x x st f fd ∧ mg x = some (.ref f) ∧ L2.Binds K fd ps []
theorem zfnH {P : Program} {w : World} {K : PySem.W.Frag} {mg : Str → Option Value} {base : Heap} {cm : Nat → Addr} {k : Nat} {x : Str} {st : Stmt} {N ps : List Str} {F : SF} (Y : FnHas K mg x st ps) (S : FnScope N ps (defScope st))
    (body : ∀ (f : Addr) (cdv : Value) (A : Around) (outer : List Env) (s : Shared) (H : Hp) (E : XK), Amb (cxOf (L2.CX P w) P w K mg base N x (defScope st) f cdv A outer s H E) (fun c d _ H' => E c d H') k →
      ZSs (cxOf (L2.CX P w) P w K mg base N x (defScope st) f cdv A outer s H E) cm (fun c d _ H' => E c d H') (defBody st) F) : ZFn P w K mg base cm x (k + 1) (runF N.length ps.length F) := by
  obtain ⟨f, fd, h1, h2, h3⟩ := Y
  exact zfn h1 S h2 h3 (body f)
end Z
namespace Z
open PySem PySem.Spec PyProof.Rows L2
theorem kit_tuple : ∀ d : D, kitB (kindD d) "tuple" = some (kindD d == "tuple")
  | .none => (by decide +kernel : kitB "NoneType" "tuple" = some ("NoneType" == "tuple"))
  | .bool _ => (by decide +kernel : kitB "bool" "tuple" = some ("bool" == "tuple"))
  | .int _ => (by decide +kernel : kitB "int" "tuple" = some ("int" == "tuple"))
  | .str _ => (by decide +kernel : kitB "str" "tuple" = some ("str" == "tuple"))
  | .list _ => (by decide +kernel : kitB "list" "tuple" = some ("list" == "tuple"))
  | .tuple _ => (by decide +kernel : kitB "tuple" "tuple" = some ("tuple" == "tuple"))
  | .dict _ => (by decide +kernel : kitB "dict" "tuple" = some ("dict" == "tuple"))
/-! ### constants of the module -/
theorem globD_str {K : PySem.W.Frag} {mg : Str → Option Value} {x y : Str} {t : Tok} (h : mg x = some (.str y t)) : GlobD K mg x (.str y) := ⟨_, .str y, h, ⟨t, rfl⟩, fun _ _ => .str y⟩
theorem globD_int {K : PySem.W.Frag} {mg : Str → Option Value} {x : Str} {y : Int} {t : Tok} (h : mg x = some (.int y t)) : GlobD K mg x (.int y) := ⟨_, .int y, h, ⟨t, rfl⟩, fun _ _ => .int y⟩
/-- the texts of a written tuple -/
def strVals : List Value → Option (List Str)
  | [] => some []
  | .str x _ :: r => (strVals r).map (x :: ·)
  | _ :: _ => none
theorem strVals_ok : ∀ {us : List Value} {xs : List Str}, strVals us = some xs → Vals (xs.map V.str) us
  | [], xs, h => by
    have e : xs = [] := (Option.some.inj h).symm
    subst e
    exact .nil
  | .str x t :: r, xs, h => by
    have h' : (strVals r).map (x :: ·) = some xs := h
    cases e : strVals r with
    | none => rw [e] at h'; cases h'
    | some ys =>
      rw [e] at h'
      have e2 : xs = x :: ys := (Option.some.inj h').symm
      subst e2
      exact .cons ⟨t, rfl⟩ (strVals_ok e)
  | .none :: _, _, h => nomatch h
  | .bool _ :: _, _, h => nomatch h
  | .int _ _ :: _, _, h => nomatch h
  | .ref _ :: _, _, h => nomatch h
  | .type _ :: _, _, h => nomatch h
theorem globD_strs {K : PySem.W.Frag} {mg : Str → Option Value} {x : Str} {a : Addr} {dd : Option Addr} {its : Array Value} {n : Nat} {sl : Array (Option Value)} {ys : List Str} (h : mg x = some (.ref a)) (hk : K.lookup a = some ⟨.type "tuple", dd, .seq its n, sl⟩)
    (hv : strVals its.toList = some ys) (hz : ys.length ≤ 1000) : GlobD K mg x (.tuple (ys.map .str)) := by
  have r := strVals_ok hv
  have l := r.length
  rw [List.length_map] at l
  exact ⟨_, .ref a, h, rfl, fun _ _ => .tup (.inr ⟨_, its, n, hk, rfl, rfl, by have := small1000 hz; have := Array.length_toList (xs := its); omega, r⟩) (.strs _)⟩
/-- a written dict with text keys and text values -/
def strEnts : List DictEntry → Option (List (Str × Str))
  | [] => some []
  | e :: r => match e.key, e.val with
    | .str x _, .str y _ => (strEnts r).map ((x, y) :: ·)
    | _, _ => none
theorem strEnts_find : ∀ {es : List DictEntry} {tab : List (Str × Str)} (z : Str), strEnts es = some tab → (match List.lookup z tab with
    | some y => ∃ e, es.find? (·.key.isStr z) = some e ∧ RelV (.str y) e.val
    | none => es.find? (·.key.isStr z) = none) ∧ es.any (·.refKey) = false
  | [], tab, z, h => by
    have e : tab = [] := (Option.some.inj h).symm
    subst e
    exact ⟨rfl, rfl⟩
  | e :: r, tab, z, h => by
    unfold strEnts at h
    split at h
    · rename_i x t y u hk hv
      cases er : strEnts r with
      | none => rw [er] at h; cases h
      | some tr =>
        rw [er] at h
        have et : tab = (x, y) :: tr := (Option.some.inj h).symm
        subst et
        obtain ⟨h1, h2⟩ := strEnts_find (es := r) z er
        have hkey : e.key.isStr z = decide (x = z) := by
          rw [hk, PySem.W.isStr_of]
          unfold Value.isStrOf
          simp [Bool.beq_eq_decide_eq]
        refine ⟨?_, ?_⟩
        · by_cases hz : z = x
          · subst hz
            rw [List.lookup_cons_self]
            refine ⟨e, ?_, ?_⟩
            · rw [List.find?_cons_of_pos]
              rw [hkey]; simp
            · rw [hv]; exact ⟨u, rfl⟩
          · have hl : List.lookup z ((x, y) :: tr) = List.lookup z tr := by
              rw [List.lookup_cons]
              have : (z == x) = false := beq_eq_false_iff_ne.mpr hz
              rw [this]
            rw [hl]
            have hn : ¬ (e.key.isStr z = true) := by
              rw [hkey]
              simp
              exact fun q => hz q.symm
            have hf : List.find? (fun x => x.key.isStr z) (e :: r) = List.find? (fun x => x.key.isStr z) r := List.find?_cons_of_neg hn
            rw [hf]
            exact h1
        · rw [List.any_cons, h2]
          have : e.refKey = false := by
            unfold DictEntry.refKey
            rw [hk]
          rw [this]; rfl
    · cases h
theorem zdict {K : PySem.W.Frag} {w : World} {mg : Str → Option Value} {x : Str} {d : Addr} {es : Array DictEntry} {n : Nat} {tab : List (Str × Str)} (h : mg x = some (.ref d)) (hk : K.lookup d = some ⟨.type "dict", none, .dict es n, #[]⟩) (hl : PySem.W.KeysLit w.params es.toList) (hlow : (d == sysModules) = false)
    (ht : strEnts es.toList = some tab) : ZDict K w mg x tab := by
  refine ⟨d, es, n, h, ⟨hk, hl, hlow⟩, fun z => ?_⟩
  obtain ⟨h1, h2⟩ := strEnts_find z ht
  have e : PySem.W.nsIn K d z = match es.toList.find? (·.key.isStr z) with
      | some e => some (some e.val)
      | none => if es.toList.any (·.refKey) then none else some none := by
    unfold PySem.W.nsIn
    rw [hk] <;> rfl
  cases hz : List.lookup z tab with
  | none =>
    rw [hz] at h1
    simp only at h1
    rw [h1, h2] at e
    exact ⟨none, e, rfl⟩
  | some y =>
    rw [hz] at h1
    obtain ⟨en, h3, h4⟩ := h1
    rw [h3] at e
    exact ⟨some en.val, e, en.val, rfl, h4⟩
end Z


set_option Elab.async false
set_option linter.all false
set_option maxRecDepth 100000
set_option maxHeartbeats 8000000
namespace K80
open PySem PySem.Spec PyProof.Rows L2 Z
def topS (i : Nat) : Stmt := PySem.Challenge.pw_kerbwise_k80_commands_read.main.body.getD i (.Pass ⟨0, 0, 0, 0⟩)
abbrev s_common : Stmt := topS 6
abbrev N_common : List Str := [(Str.ofString "first"), (Str.ofString "second")]
theorem sc_common : FnScope N_common [(Str.ofString "first"), (Str.ofString "second")] (defScope s_common) := ⟨rfl, rfl, rfl, by decide +kernel, rfl, by decide +kernel, by decide +kernel⟩
abbrev s_is_ratio : Stmt := topS 7
abbrev N_is_ratio : List Str := [(Str.ofString "pair")]
theorem sc_is_ratio : FnScope N_is_ratio [(Str.ofString "pair")] (defScope s_is_ratio) := ⟨rfl, rfl, rfl, by decide +kernel, rfl, by decide +kernel, by decide +kernel⟩
abbrev s_negated : Stmt := topS 8
abbrev N_negated : List Str := [(Str.ofString "first")]
theorem sc_negated : FnScope N_negated [(Str.ofString "first")] (defScope s_negated) := ⟨rfl, rfl, rfl, by decide +kernel, rfl, by decide +kernel, by decide +kernel⟩
abbrev s_ratio_text : Stmt := topS 9
abbrev N_ratio_text : List Str := [(Str.ofString "first")]
theorem sc_ratio_text : FnScope N_ratio_text [(Str.ofString "first")] (defScope s_ratio_text) := ⟨rfl, rfl, rfl, by decide +kernel, rfl, by decide +kernel, by decide +kernel⟩
abbrev s_is_digits : Stmt := topS 10
abbrev N_is_digits : List Str := [(Str.ofString "text"), (Str.ofString "sign")]
theorem sc_is_digits : FnScope N_is_digits [(Str.ofString "text")] (defScope s_is_digits) := ⟨rfl, rfl, rfl, by decide +kernel, rfl, by decide +kernel, by decide +kernel⟩
abbrev s_read_ratio : Stmt := topS 11
abbrev N_read_ratio : List Str := [(Str.ofString "text"), (Str.ofString "body"), (Str.ofString "pair"), (Str.ofString "first"), (Str.ofString "sign"), (Str.ofString "second")]
theorem sc_read_ratio : FnScope N_read_ratio [(Str.ofString "text")] (defScope s_read_ratio) := ⟨rfl, rfl, rfl, by decide +kernel, rfl, by decide +kernel, by decide +kernel⟩
abbrev s_read_number : Stmt := topS 17
abbrev N_read_number : List Str := [(Str.ofString "word"), (Str.ofString "sign")]
theorem sc_read_number : FnScope N_read_number [(Str.ofString "word")] (defScope s_read_number) := ⟨rfl, rfl, rfl, by decide +kernel, rfl, by decide +kernel, by decide +kernel⟩
abbrev s_ratio_of : Stmt := topS 18
abbrev N_ratio_of : List Str := [(Str.ofString "word")]
theorem sc_ratio_of : FnScope N_ratio_of [(Str.ofString "word")] (defScope s_ratio_of) := ⟨rfl, rfl, rfl, by decide +kernel, rfl, by decide +kernel, by decide +kernel⟩
abbrev s_read_term : Stmt := topS 19
abbrev N_read_term : List Str := [(Str.ofString "word"), (Str.ofString "factor"), (Str.ofString "lot"), (Str.ofString "household"), (Str.ofString "first"), (Str.ofString "sign"), (Str.ofString "rest"), (Str.ofString "second"), (Str.ofString "slash"), (Str.ofString "third")]
theorem sc_read_term : FnScope N_read_term [(Str.ofString "word")] (defScope s_read_term) := ⟨rfl, rfl, rfl, by decide +kernel, rfl, by decide +kernel, by decide +kernel⟩
abbrev s_read_ask : Stmt := topS 20
abbrev N_read_ask : List Str := [(Str.ofString "words"), (Str.ofString "bound"), (Str.ofString "terms"), (Str.ofString "word")]
theorem sc_read_ask : FnScope N_read_ask [(Str.ofString "words")] (defScope s_read_ask) := ⟨rfl, rfl, rfl, by decide +kernel, rfl, by decide +kernel, by decide +kernel⟩
abbrev s_read_fix : Stmt := topS 21
abbrev N_read_fix : List Str := [(Str.ofString "line"), (Str.ofString "parts")]
theorem sc_read_fix : FnScope N_read_fix [(Str.ofString "line")] (defScope s_read_fix) := ⟨rfl, rfl, rfl, by decide +kernel, rfl, by decide +kernel, by decide +kernel⟩
abbrev s_read_command : Stmt := topS 22
abbrev N_read_command : List Str := [(Str.ofString "line"), (Str.ofString "words"), (Str.ofString "numbers"), (Str.ofString "word")]
theorem sc_read_command : FnScope N_read_command [(Str.ofString "line")] (defScope s_read_command) := ⟨rfl, rfl, rfl, by decide +kernel, rfl, by decide +kernel, by decide +kernel⟩
abbrev s__law_row : Stmt := topS 24
abbrev N__law_row : List Str := [(Str.ofString "script"), (Str.ofString "row"), (Str.ofString "k"), (Str.ofString "cell"), (Str.ofString "turn"), (Str.ofString "mixed")]
theorem sc__law_row : FnScope N__law_row [(Str.ofString "script")] (defScope s__law_row) := ⟨rfl, rfl, rfl, by decide +kernel, rfl, by decide +kernel, by decide +kernel⟩
abbrev s__law_at : Stmt := topS 25
abbrev N__law_at : List Str := [(Str.ofString "row"), (Str.ofString "at")]
theorem sc__law_at : FnScope N__law_at [(Str.ofString "row"), (Str.ofString "at")] (defScope s__law_at) := ⟨rfl, rfl, rfl, by decide +kernel, rfl, by decide +kernel, by decide +kernel⟩
abbrev s__law_ratio : Stmt := topS 26
abbrev N__law_ratio : List Str := [(Str.ofString "number"), (Str.ofString "n"), (Str.ofString "d"), (Str.ofString "k")]
theorem sc__law_ratio : FnScope N__law_ratio [(Str.ofString "number")] (defScope s__law_ratio) := ⟨rfl, rfl, rfl, by decide +kernel, rfl, by decide +kernel, by decide +kernel⟩
abbrev s__law_text : Stmt := topS 27
abbrev N__law_text : List Str := [(Str.ofString "ratio")]
theorem sc__law_text : FnScope N__law_text [(Str.ofString "ratio")] (defScope s__law_text) := ⟨rfl, rfl, rfl, by decide +kernel, rfl, by decide +kernel, by decide +kernel⟩
abbrev s__law_lines : Stmt := topS 28
abbrev N__law_lines : List Str := [(Str.ofString "row"), (Str.ofString "small"), (Str.ofString "text"), (Str.ofString "terms"), (Str.ofString "k"), (Str.ofString "ask"), (Str.ofString "lines"), (Str.ofString "household")]
theorem sc__law_lines : FnScope N__law_lines [(Str.ofString "row")] (defScope s__law_lines) := ⟨rfl, rfl, rfl, by decide +kernel, rfl, by decide +kernel, by decide +kernel⟩
abbrev s__law_written : Stmt := topS 29
abbrev N__law_written : List Str := [(Str.ofString "parts"), (Str.ofString "words"), (Str.ofString "lot"), (Str.ofString "household"), (Str.ofString "factor"), (Str.ofString "word"), (Str.ofString "part")]
theorem sc__law_written : FnScope N__law_written [(Str.ofString "parts")] (defScope s__law_written) := ⟨rfl, rfl, rfl, by decide +kernel, rfl, by decide +kernel, by decide +kernel⟩
abbrev s__law_spoilt : Stmt := topS 30
abbrev N__law_spoilt : List Str := [(Str.ofString "parts"), (Str.ofString "text"), (Str.ofString "word"), (Str.ofString "found"), (Str.ofString "cut"), (Str.ofString "rest"), (Str.ofString "tail"), (Str.ofString "bad")]
theorem sc__law_spoilt : FnScope N__law_spoilt [(Str.ofString "parts"), (Str.ofString "text")] (defScope s__law_spoilt) := ⟨rfl, rfl, rfl, by decide +kernel, rfl, by decide +kernel, by decide +kernel⟩
abbrev s_law : Stmt := topS 31
abbrev N_law : List Str := [(Str.ofString "script"), (Str.ofString "row"), (Str.ofString "parts"), (Str.ofString "text"), (Str.ofString "told"), (Str.ofString "bad"), (Str.ofString "one")]
theorem sc_law : FnScope N_law [(Str.ofString "script")] (defScope s_law) := ⟨rfl, rfl, rfl, by decide +kernel, rfl, by decide +kernel, by decide +kernel⟩
def tab_FORMS : List (Str × Str) := [((Str.ofString "strike"), (Str.ofString "k")), ((Str.ofString "again"), (Str.ofString "k")), ((Str.ofString "book"), (Str.ofString "")), ((Str.ofString "weight"), (Str.ofString "k")), ((Str.ofString "from"), (Str.ofString "kk")), ((Str.ofString "sure"), (Str.ofString "")), ((Str.ofString "price"), (Str.ofString "kkkk")), ((Str.ofString "bill"), (Str.ofString "")), ((Str.ofString "balance"), (Str.ofString "k")), ((Str.ofString "can"), (Str.ofString "")), ((Str.ofString "must"), (Str.ofString "")), ((Str.ofString "cannot"), (Str.ofString "")), ((Str.ofString "few"), (Str.ofString "")), ((Str.ofString "search"), (Str.ofString ""))]
def mt_BadForm : Nat → Option Bool := fun k => match k with
  | 0 => some false
  | 1 => some true
  | _ => none
def G_common : List D → R D := runF 2 2
    (sSeq (sSet 0 (cB1 absD (cVarC 0)))
    (sSeq (sSet 1 (cB1 absD (cVarC 1)))
    (sSeq (whileL (cT2 neD (cVarC 1) (cK (.int 0))) (sPar 0 1 (cVar 1) (cB2 modD (cVarC 0) (cVarC 1))) 100)
    (sRet (cVar 0)))))
def G_is_ratio : List D → R D := runF 1 1
    (sRet (cAndV (cBl (cT2 eqD (cB1 lenD (cVarC 0)) (cK (.int 2)))) (cAndV (cBl (cT2 geD (cB2 ixD (cVarC 0) (cK (.int 1))) (cK (.int 1)))) (cBl (cT2 eqD (cCall G_common (cCons (cB2 ixD (cVarC 0) (cK (.int 0))) (cCons (cB2 ixD (cVarC 0) (cK (.int 1))) cNil))) (cK (.int 1)))))))
def G_negated : List D → R D := runF 1 1
    (sRet (cTup (cCons (cB1 negD (cB2 ixD (cVarC 0) (cK (.int 0)))) (cCons (cB2 ixD (cVarC 0) (cK (.int 1))) cNil))))
def G_ratio_text : List D → R D := runF 1 1
    (sSeq (sIf (cT2 eqD (cB2 ixD (cVarC 0) (cK (.int 1))) (cK (.int 1))) (sRet (cB1 strD (cB2 ixD (cVarC 0) (cK (.int 0))))) sNil)
    (sRet (cJ (cJc (cB1 fmtD (cB2 ixD (cVarC 0) (cK (.int 0)))) (cJc (cK (.str (Str.ofString "/"))) (cJc (cB1 fmtD (cB2 ixD (cVarC 0) (cK (.int 1)))) cJ0))))))
def G_is_digits : List D → R D := runF 2 1
    (sRet (cAndV (cBl (cT2 neD (cVarC 0) (cK (.str (Str.ofString ""))))) (cB1 allD (cL (cLc [1] (cIt (cVar 0)) (gNm 1) cYes (cBl (cT2 inD (cVarC 1) (cK (.str (Str.ofString "0123456789"))))))))))
def G_read_ratio : List D → R D := runF 6 1
    (sSeq (sIf (cT2 gtD (cB1 lenD (cVarC 0)) (cK (.int 60))) (sRaise 1) sNil)
    (sSeq (sSet 1 (cIf (cT2 eqD (cSl (cVarC 0) cO0 (cO (cK (.int 1)))) (cK (.str (Str.ofString "-")))) (cSl (cVarC 0) (cO (cK (.int 1))) cO0) (cVar 0)))
    (sSeq (sAsg (gTp (gsCons (gNm 3) (gsCons (gNm 4) (gsCons (gNm 5) gsNil)))) (cM1 partD (cVarC 1) (cK (.str (Str.ofString "/")))))
    (sSeq (sIf (cOr (cNot (cT1 truD (cCall G_is_digits (cCons (cVar 3) cNil)))) (cAnd (cT2 neD (cVarC 4) (cK (.str (Str.ofString "")))) (cNot (cT1 truD (cCall G_is_digits (cCons (cVar 5) cNil)))))) (sRaise 1) sNil)
    (sSeq (sSet 2 (cTup (cCons (cB1 intD (cVarC 3)) (cCons (cIf (cT2 eqD (cVarC 4) (cK (.str (Str.ofString "")))) (cK (.int 1)) (cB1 intD (cVarC 5))) cNil))))
    (sSeq (sIf (cT2 eqD (cSl (cVarC 0) cO0 (cO (cK (.int 1)))) (cK (.str (Str.ofString "-")))) (sSet 2 (cCall G_negated (cCons (cVar 2) cNil))) sNil)
    (sSeq (sIf (cOr (cNot (cT1 truD (cCall G_is_ratio (cCons (cVar 2) cNil)))) (cT2 neD (cCall G_ratio_text (cCons (cVar 2) cNil)) (cVarC 0))) (sRaise 1) sNil)
    (sRet (cVar 2)))))))))
def G_read_number : List D → R D := runF 2 1
    (sSeq (sIf (cOr (cT2 ltD (cB1 lenD (cVarC 0)) (cK (.int 1))) (cOr (cT2 gtD (cB1 lenD (cVarC 0)) (cK (.int 3))) (cNot (cT1 truD (cB1 allD (cL (cLc [1] (cIt (cVar 0)) (gNm 1) cYes (cBl (cT2 inD (cVarC 1) (cK (.str (Str.ofString "0123456789")))))))))))) (sRet (cK .none)) sNil)
    (sSeq (sIf (cAnd (cT2 gtD (cB1 lenD (cVarC 0)) (cK (.int 1))) (cT2 eqD (cB2 ixD (cVarC 0) (cK (.int 0))) (cK (.str (Str.ofString "0"))))) (sRet (cK .none)) sNil)
    (sRet (cB1 intD (cVarC 0)))))
def G_ratio_of : List D → R D := runF 1 1
    (sTryO (sRet (cCall G_read_ratio (cCons (cVar 0) cNil))) mt_BadForm (sRet (cK .none)))
def G_read_term : List D → R D := runF 10 1
    (sSeq (sAsg (gTp (gsCons (gNm 4) (gsCons (gNm 5) (gsCons (gNm 6) gsNil)))) (cM1 partD (cVarC 0) (cK (.str (Str.ofString "*")))))
    (sSeq (sSet 1 (cCall G_ratio_of (cCons (cVar 4) cNil)))
    (sSeq (sIf (cOr (cT2 eqD (cVarC 5) (cK (.str (Str.ofString "")))) (cT1 isND (cVarC 1))) (sRet (cK .none)) sNil)
    (sSeq (sAsg (gTp (gsCons (gNm 7) (gsCons (gNm 8) (gsCons (gNm 9) gsNil)))) (cM1 partD (cVarC 6) (cK (.str (Str.ofString "/")))))
    (sSeq (sSet 2 (cCall G_read_number (cCons (cVar 7) cNil)))
    (sSeq (sSet 3 (cK .none))
    (sSeq (sIf (cT2 neD (cVarC 8) (cK (.str (Str.ofString "")))) (sSeq (sSet 3 (cCall G_read_number (cCons (cVar 9) cNil)))
    (sIf (cT1 isND (cVarC 3)) (sRet (cK .none)) sNil)) sNil)
    (sSeq (sIf (cT1 isND (cVarC 2)) (sRet (cK .none)) sNil)
    (sRet (cTup (cCons (cVar 2) (cCons (cVar 3) (cCons (cVar 1) cNil)))))))))))))
def G_read_ask : List D → R D := runF 4 1
    (sSeq (sIf (cOr (cT2 ltD (cB1 lenD (cVarC 0)) (cK (.int 4))) (cT2 notInD (cB2 ixD (cVarC 0) (cK (.int 1))) (cK (.tuple [(.str (Str.ofString "<=")), (.str (Str.ofString ">=")), (.str (Str.ofString "="))])))) (sRet (cK .none)) sNil)
    (sSeq (sSet 1 (cCall G_ratio_of (cCons (cB2 ixD (cVarC 0) (cK (.int 2))) cNil)))
    (sSeq (sSet 2 (cL (cLc [3] (cIt (cSl (cVarC 0) (cO (cK (.int 3))) cO0)) (gNm 3) cYes (cCall G_read_term (cCons (cVar 3) cNil)))))
    (sSeq (sIf (cOr (cT1 isND (cVarC 1)) (cT2 inD (cK .none) (cVarC 2))) (sRet (cK .none)) sNil)
    (sRet (cTup (cCons (cK (.str (Str.ofString "ask"))) (cCons (cB2 ixD (cVarC 0) (cK (.int 1))) (cCons (cVar 1) (cCons (cVar 2) cNil))))))))))
def G_read_fix : List D → R D := runF 2 1
    (sSeq (sSet 1 (cL (cM2F splitMaxD (cVarC 0) (cK (.str (Str.ofString " "))) (cK (.int 2)))))
    (sSeq (sIf (cOr (cT2 ltD (cB1 lenD (cVarC 1)) (cK (.int 2))) (cT1 isND (cCall G_read_number (cCons (cB2 ixD (cVarC 1) (cK (.int 1))) cNil)))) (sRet (cK .none)) sNil)
    (sRet (cTup (cCons (cK (.str (Str.ofString "fix"))) (cCons (cCall G_read_number (cCons (cB2 ixD (cVarC 1) (cK (.int 1))) cNil)) (cCons (cM1 joinD (cK (.str (Str.ofString " "))) (cSl (cVarC 1) (cO (cK (.int 2))) cO0)) cNil)))))))
def G_read_command : List D → R D := runF 4 1
    (sSeq (sIf (cT2 eqD (cVarC 0) (cK (.str (Str.ofString "")))) (sRet (cTup cNil)) sNil)
    (sSeq (sSet 1 (cL (cM1F splitD (cVarC 0) (cK (.str (Str.ofString " "))))))
    (sSeq (sIf (cT2 inD (cB2 ixD (cVarC 1) (cK (.int 0))) (cK (.tuple [(.str (Str.ofString "yard")), (.str (Str.ofString "note"))]))) (sRet (cTup (cCons (cB2 ixD (cVarC 1) (cK (.int 0))) (cCons (cSl (cVarC 0) (cO (cB2 addD (cB1 lenD (cB2 ixD (cVarC 1) (cK (.int 0)))) (cK (.int 1)))) cO0) cNil)))) sNil)
    (sSeq (sIf (cT2 eqD (cB2 ixD (cVarC 1) (cK (.int 0))) (cK (.str (Str.ofString "fix")))) (sRet (cCall G_read_fix (cCons (cVar 0) cNil))) sNil)
    (sSeq (sIf (cT2 eqD (cB2 ixD (cVarC 1) (cK (.int 0))) (cK (.str (Str.ofString "ask")))) (sRet (cCall G_read_ask (cCons (cVar 1) cNil))) sNil)
    (sSeq (sIf (cOr (cT1 (kdNotIn tab_FORMS) (cB2 ixD (cVarC 1) (cK (.int 0)))) (cT2 neD (cB1 lenD (cVarC 1)) (cB2 addD (cB1 lenD (cB1 (kdIx tab_FORMS) (cB2 ixD (cVarC 1) (cK (.int 0))))) (cK (.int 1))))) (sRet (cK .none)) sNil)
    (sSeq (sSet 2 (cL (cLc [3] (cIt (cSl (cVarC 1) (cO (cK (.int 1))) cO0)) (gNm 3) cYes (cCall G_read_number (cCons (cVar 3) cNil)))))
    (sSeq (sIf (cT2 inD (cK .none) (cVarC 2)) (sRet (cK .none)) sNil)
    (sRet (cTup (cCons (cB2 ixD (cVarC 1) (cK (.int 0))) (cStar (cVarC 2) cNil))))))))))))
def G__law_row : List D → R D := runF 6 1
    (sSeq (sOwn 1 (cLst cNil))
    (sSeq (sFor (cR1 (cB1 lenD (cVarC 0))) (gNm 2) (sSeq (sSet 3 (cB1 absD (cB1 intD (cB2 ixD (cVarC 0) (cVarC 2)))))
    (sIf (cT2 geD (cVarC 3) (cB2 powD (cK (.int 10)) (cK (.int 18)))) (sFor (cR1 (cK (.int 40))) (gNm 4) (sIf (cT2 gtD (cVarC 3) (cK (.int 0))) (sSeq (sApp 1 (cB2 modD (cB1 intD (cVarC 3)) (cK (.int 1009))))
    (sSet 3 (cB2 fdivD (cVarC 3) (cK (.int 1009))))) sNil)) (sSeq (sSet 5 (cB2 modD (cB1 intD (cB2 addD (cB2 addD (cB2 mulD (cVarC 3) (cK (.int 48271))) (cB2 mulD (cVarC 2) (cK (.int 69621)))) (cK (.int 12345)))) (cK (.int 2147483647))))
    (sFor (cR1 (cK (.int 6))) (gNm 4) (sSeq (sSet 5 (cB2 modD (cB1 intD (cB2 addD (cB2 addD (cB2 mulD (cVarC 5) (cK (.int 16807))) (cB2 mulD (cK (.int 11)) (cVarC 4))) (cK (.int 1)))) (cK (.int 2147483647))))
    (sApp 1 (cB2 modD (cB1 intD (cB2 fdivD (cVarC 5) (cK (.int 7)))) (cK (.int 1009))))))))))
    (sRel 1 (sRet (cVar 1)))))
def G__law_at : List D → R D := runF 2 2
    (sSeq (sIf (cCh leD ltD (cK (.int 0)) (cVarC 1) (cB1 lenD (cVarC 0))) (sRet (cB2 ixD (cVarC 0) (cVarC 1))) sNil)
    (sRet (cK (.int 0))))
def G__law_ratio : List D → R D := runF 4 1
    (sSeq (sSet 1 (cB2 subD (cB2 modD (cB1 intD (cVarC 0)) (cK (.int 50))) (cK (.int 20))))
    (sSeq (sSet 2 (cB2 addD (cK (.int 1)) (cB2 modD (cB2 fdivD (cB1 intD (cVarC 0)) (cK (.int 50))) (cK (.int 6)))))
    (sSeq (sFor (cR3 (cK (.int 6)) (cK (.int 1)) (cB1 negD (cK (.int 1)))) (gNm 3) (sIf (cAnd (cT2 eqD (cB2 modD (cVarC 1) (cVarC 3)) (cK (.int 0))) (cT2 eqD (cB2 modD (cVarC 2) (cVarC 3)) (cK (.int 0)))) (sSeq (sSet 1 (cB2 fdivD (cVarC 1) (cVarC 3)))
    (sSet 2 (cB2 fdivD (cVarC 2) (cVarC 3)))) sNil))
    (sSeq (sIf (cT2 eqD (cVarC 1) (cK (.int 0))) (sSet 2 (cK (.int 1))) sNil)
    (sRet (cTup (cCons (cVar 1) (cCons (cVar 2) cNil))))))))
def G__law_text : List D → R D := runF 1 1
    (sSeq (sIf (cT2 eqD (cB2 ixD (cVarC 0) (cK (.int 1))) (cK (.int 1))) (sRet (cB1 strD (cB2 ixD (cVarC 0) (cK (.int 0))))) sNil)
    (sRet (cB2 addD (cB2 addD (cB1 strD (cB2 ixD (cVarC 0) (cK (.int 0)))) (cK (.str (Str.ofString "/")))) (cB1 strD (cB2 ixD (cVarC 0) (cK (.int 1)))))))
def G__law_lines : List D → R D := runF 8 1
    (sSeq (sSet 1 (cL (cLc [4] (cR1 (cK (.int 4))) (gNm 4) cYes (cB2 modD (cB1 intD (cCall G__law_at (cCons (cVar 0) (cCons (cVar 4) cNil)))) (cK (.int 1000))))))
    (sSeq (sSet 2 (cB2 ixD (cL (cLst (cCons (cK (.str (Str.ofString ""))) (cCons (cK (.str (Str.ofString " "))) (cCons (cK (.str (Str.ofString "2: +0 +1"))) (cCons (cK (.str (Str.ofString "find 4 yes"))) (cCons (cK (.str (Str.ofString "x  y"))) (cCons (cK (.str (Str.ofString "weighing ab 12 0,3 7/2"))) cNil)))))))) (cB2 modD (cB1 intD (cCall G__law_at (cCons (cVar 0) (cCons (cK (.int 4)) cNil)))) (cK (.int 6)))))
    (sSeq (sOwn 3 (cLst cNil))
    (sSeq (sFor (cR1 (cB2 addD (cK (.int 1)) (cB2 modD (cB1 intD (cCall G__law_at (cCons (cVar 0) (cCons (cK (.int 5)) cNil)))) (cK (.int 3))))) (gNm 4) (sSeq (sSet 7 (cB2 modD (cB1 intD (cCall G__law_at (cCons (cVar 0) (cCons (cB2 addD (cK (.int 7)) (cB2 mulD (cK (.int 3)) (cVarC 4))) cNil)))) (cK (.int 5))))
    (sSeq (sIf (cT2 eqD (cVarC 7) (cK (.int 4))) (sSet 7 (cK .none)) sNil)
    (sApp 3 (cTup (cCons (cB2 modD (cB1 intD (cCall G__law_at (cCons (cVar 0) (cCons (cB2 addD (cK (.int 6)) (cB2 mulD (cK (.int 3)) (cVarC 4))) cNil)))) (cK (.int 12))) (cCons (cVar 7) (cCons (cCall G__law_ratio (cCons (cCall G__law_at (cCons (cVar 0) (cCons (cB2 addD (cK (.int 8)) (cB2 mulD (cK (.int 3)) (cVarC 4))) cNil))) cNil)) cNil))))))))
    (sRel 3 (sSeq (sSet 5 (cTup (cCons (cK (.str (Str.ofString "ask"))) (cCons (cB2 ixD (cL (cLst (cCons (cK (.str (Str.ofString "<="))) (cCons (cK (.str (Str.ofString ">="))) (cCons (cK (.str (Str.ofString "="))) cNil))))) (cB2 modD (cB1 intD (cCall G__law_at (cCons (cVar 0) (cCons (cK (.int 20)) cNil)))) (cK (.int 3)))) (cCons (cCall G__law_ratio (cCons (cCall G__law_at (cCons (cVar 0) (cCons (cK (.int 21)) cNil))) cNil)) (cCons (cVar 3) cNil))))))
    (sSeq (sSet 6 (cL (cLst (cCons (cTup (cCons (cK (.str (Str.ofString "yard"))) (cCons (cVar 2) cNil))) (cCons (cTup (cCons (cK (.str (Str.ofString "note"))) (cCons (cVar 2) cNil))) (cCons (cTup (cCons (cK (.str (Str.ofString "fix"))) (cCons (cB2 ixD (cVarC 1) (cK (.int 0))) (cCons (cVar 2) cNil)))) (cCons (cTup (cCons (cK (.str (Str.ofString "strike"))) (cCons (cB2 ixD (cVarC 1) (cK (.int 0))) cNil))) (cCons (cTup (cCons (cK (.str (Str.ofString "again"))) (cCons (cB2 ixD (cVarC 1) (cK (.int 1))) cNil))) (cCons (cTup (cCons (cK (.str (Str.ofString "book"))) cNil)) (cCons (cVar 5) cNil))))))))))
    (sSeq (sSet 6 (cB2 addD (cVarC 6) (cL (cLst (cCons (cTup (cCons (cK (.str (Str.ofString "weight"))) (cCons (cB2 ixD (cVarC 1) (cK (.int 0))) cNil))) (cCons (cTup (cCons (cK (.str (Str.ofString "from"))) (cCons (cB2 ixD (cVarC 1) (cK (.int 1))) (cCons (cB2 ixD (cVarC 1) (cK (.int 2))) cNil)))) (cCons (cTup (cCons (cK (.str (Str.ofString "sure"))) cNil)) (cCons (cTup (cCons (cK (.str (Str.ofString "price"))) (cCons (cB2 ixD (cVarC 1) (cK (.int 0))) (cCons (cB2 ixD (cVarC 1) (cK (.int 1))) (cCons (cB2 ixD (cVarC 1) (cK (.int 2))) (cCons (cB2 ixD (cVarC 1) (cK (.int 3))) cNil)))))) cNil))))))))
    (sRet (cB2 addD (cVarC 6) (cL (cLst (cCons (cTup (cCons (cK (.str (Str.ofString "bill"))) cNil)) (cCons (cTup (cCons (cK (.str (Str.ofString "balance"))) (cCons (cB2 ixD (cVarC 1) (cK (.int 3))) cNil))) (cCons (cTup (cCons (cK (.str (Str.ofString "can"))) cNil)) (cCons (cTup (cCons (cK (.str (Str.ofString "must"))) cNil)) (cCons (cTup (cCons (cK (.str (Str.ofString "cannot"))) cNil)) (cCons (cTup (cCons (cK (.str (Str.ofString "few"))) cNil)) (cCons (cTup (cCons (cK (.str (Str.ofString "search"))) cNil)) cNil)))))))))))))))))))
def G__law_written : List D → R D := runF 7 1
    (sSeq (sIf (cT2 neD (cB2 ixD (cVarC 0) (cK (.int 0))) (cK (.str (Str.ofString "ask")))) (sRet (cM1 joinD (cK (.str (Str.ofString " "))) (cL (cLc [6] (cIt (cVar 0)) (gNm 6) cYes (cB1 strD (cVarC 6)))))) sNil)
    (sSeq (sOwn 1 (cLst (cCons (cK (.str (Str.ofString "ask"))) (cCons (cB2 ixD (cVarC 0) (cK (.int 1))) (cCons (cCall G__law_text (cCons (cB2 ixD (cVarC 0) (cK (.int 2))) cNil)) cNil)))))
    (sSeq (sFor (cIt (cB2 ixD (cVarC 0) (cK (.int 3)))) (gTp (gsCons (gNm 2) (gsCons (gNm 3) (gsCons (gNm 4) gsNil)))) (sSeq (sSet 5 (cB2 addD (cB2 addD (cCall G__law_text (cCons (cVar 4) cNil)) (cK (.str (Str.ofString "*")))) (cB1 strD (cVarC 2))))
    (sSeq (sIf (cT1 notND (cVarC 3)) (sSet 5 (cB2 addD (cB2 addD (cVarC 5) (cK (.str (Str.ofString "/")))) (cB1 strD (cVarC 3)))) sNil)
    (sApp 1 (cVar 5)))))
    (sRet (cM1 joinD (cK (.str (Str.ofString " "))) (cVarC 1))))))
def G__law_spoilt : List D → R D := runF 8 2
    (sSeq (sSet 2 (cB2 ixD (cVarC 0) (cK (.int 0))))
    (sSeq (sSet 3 (cL (cLst (cCons (cB2 addD (cK (.str (Str.ofString " "))) (cVarC 1)) (cCons (cB2 addD (cM0 upperD (cVarC 2)) (cSl (cVarC 1) (cO (cB1 lenD (cVarC 2))) cO0)) (cCons (cB2 addD (cB2 addD (cVarC 2) (cK (.str (Str.ofString "x")))) (cSl (cVarC 1) (cO (cB1 lenD (cVarC 2))) cO0)) cNil))))))
    (sSeq (sIf (cT2 inD (cVarC 2) (cL (cLst (cCons (cK (.str (Str.ofString "yard"))) (cCons (cK (.str (Str.ofString "note"))) cNil))))) (sRet (cVar 3)) sNil)
    (sSeq (sIf (cT2 eqD (cVarC 2) (cK (.str (Str.ofString "fix")))) (sSeq (sSet 5 (cSl (cVarC 1) (cO (cB2 addD (cK (.int 4)) (cB1 lenD (cB1 strD (cB2 ixD (cVarC 0) (cK (.int 1))))))) cO0))
    (sRet (cB2 addD (cB2 addD (cVarC 3) (cL (cLst (cCons (cK (.str (Str.ofString "fix"))) (cCons (cK (.str (Str.ofString "fix "))) cNil))))) (cL (cLc [7] (cIt (cL (cLst (cCons (cK (.str (Str.ofString "1000"))) (cCons (cK (.str (Str.ofString "01"))) (cCons (cK (.str (Str.ofString "-1"))) (cCons (cK (.str (Str.ofString "x"))) (cCons (cK (.str (Str.ofString ""))) cNil)))))))) (gNm 7) cYes (cB2 addD (cB2 addD (cK (.str (Str.ofString "fix "))) (cVarC 7)) (cVarC 5))))))) sNil)
    (sSeq (sSet 3 (cB2 addD (cVarC 3) (cL (cLst (cCons (cB2 addD (cVarC 1) (cK (.str (Str.ofString " ")))) (cCons (cB2 addD (cVarC 1) (cK (.str (Str.ofString " 1 ")))) (cCons (cB2 addD (cVarC 1) (cK (.str (Str.ofString " x")))) cNil)))))))
    (sSeq (sIf (cT2 eqD (cVarC 2) (cK (.str (Str.ofString "ask")))) (sSeq (sSet 6 (cSl (cVarC 1) (cO (cB2 addD (cK (.int 5)) (cB1 lenD (cB2 ixD (cVarC 0) (cK (.int 1)))))) cO0))
    (sSeq (sSet 3 (cB2 addD (cB2 addD (cVarC 3) (cL (cLc [7] (cIt (cL (cLst (cCons (cK (.str (Str.ofString "<"))) (cCons (cK (.str (Str.ofString "=="))) (cCons (cK (.str (Str.ofString "=>"))) (cCons (cK (.str (Str.ofString ""))) cNil))))))) (gNm 7) cYes (cB2 addD (cB2 addD (cK (.str (Str.ofString "ask "))) (cVarC 7)) (cVarC 6))))) (cL (cLst (cCons (cK (.str (Str.ofString "ask <= 1"))) (cCons (cK (.str (Str.ofString "ask <= 2/4 1*0"))) (cCons (cK (.str (Str.ofString "ask <= 1/1 1*0"))) cNil)))))))
    (sRet (cB2 addD (cVarC 3) (cL (cLc [7] (cIt (cL (cLst (cCons (cK (.str (Str.ofString "1"))) (cCons (cK (.str (Str.ofString "*0"))) (cCons (cK (.str (Str.ofString "1*"))) (cCons (cK (.str (Str.ofString "1*0/"))) (cCons (cK (.str (Str.ofString "1*x"))) (cCons (cK (.str (Str.ofString "2/2*0"))) (cCons (cK (.str (Str.ofString "1*01"))) (cCons (cK (.str (Str.ofString "1*0/x"))) (cCons (cK (.str (Str.ofString "1**0"))) (cCons (cK (.str (Str.ofString "01*0"))) (cCons (cK (.str (Str.ofString "1*-1"))) (cCons (cK (.str (Str.ofString "-0*1"))) cNil))))))))))))))) (gNm 7) cYes (cB2 addD (cK (.str (Str.ofString "ask <= 1 "))) (cVarC 7)))))))) sNil)
    (sSeq (sIf (cT2 eqD (cB1 lenD (cVarC 0)) (cK (.int 1))) (sRet (cB2 addD (cVarC 3) (cL (cLst (cCons (cB2 addD (cVarC 1) (cK (.str (Str.ofString " 1")))) cNil))))) sNil)
    (sSeq (sSet 4 (cSl (cVarC 1) cO0 (cO (cB2 subD (cB1 lenD (cVarC 1)) (cB1 lenD (cB1 strD (cB2 ixD (cVarC 0) (cB1 negD (cK (.int 1))))))))))
    (sRet (cB2 addD (cB2 addD (cVarC 3) (cL (cLc [7] (cIt (cL (cLst (cCons (cK (.str (Str.ofString "1000"))) (cCons (cK (.str (Str.ofString "01"))) (cCons (cK (.str (Str.ofString "-1"))) (cCons (cK (.str (Str.ofString "x"))) (cCons (cK (.str (Str.ofString ""))) (cCons (cK (.str (Str.ofString "+1"))) (cCons (cK (.str (Str.ofString "1/2"))) cNil)))))))))) (gNm 7) cYes (cB2 addD (cVarC 4) (cVarC 7))))) (cL (cLst (cCons (cB2 addD (cVarC 1) (cK (.str (Str.ofString " 1")))) (cCons (cVar 2) cNil))))))))))))))
def G_law : List D → R D := runF 7 1
    (sSeq (sSet 1 (cCall G__law_row (cCons (cVar 0) cNil)))
    (sSeq (sIf (cT2 neD (cCall G_read_command (cCons (cK (.str (Str.ofString ""))) cNil)) (cTup cNil)) (sRet (cK (.bool false))) sNil)
    (sSeq (sFor (cIt (cCall G__law_lines (cCons (cVar 1) cNil))) (gNm 2) (sSeq (sSet 3 (cCall G__law_written (cCons (cVar 2) cNil)))
    (sSeq (sSet 4 (cCall G_read_command (cCons (cVar 3) cNil)))
    (sSeq (sIf (cOr (cNot (cT1 truD (cB1 (isiD fun s => s == "tuple") (cVarC 4)))) (cT2 neD (cVarC 4) (cVarC 2))) (sRet (cK (.bool false))) sNil)
    (sFor (cIt (cCall G__law_spoilt (cCons (cVar 2) (cCons (cVar 3) cNil)))) (gNm 5) (sIf (cT1 notND (cCall G_read_command (cCons (cVar 5) cNil))) (sRet (cK (.bool false))) sNil))))))
    (sSeq (sIf (cT2 neD (cL (cLc [6] (cIt (cL (cLst (cCons (cK (.str (Str.ofString "yard"))) (cCons (cK (.str (Str.ofString "note "))) (cCons (cK (.str (Str.ofString "fix 7"))) cNil)))))) (gNm 6) cYes (cCall G_read_command (cCons (cVar 6) cNil)))) (cL (cLst (cCons (cTup (cCons (cK (.str (Str.ofString "yard"))) (cCons (cK (.str (Str.ofString ""))) cNil))) (cCons (cTup (cCons (cK (.str (Str.ofString "note"))) (cCons (cK (.str (Str.ofString ""))) cNil))) (cCons (cTup (cCons (cK (.str (Str.ofString "fix"))) (cCons (cK (.int 7)) (cCons (cK (.str (Str.ofString ""))) cNil)))) cNil)))))) (sRet (cK (.bool false))) sNil)
    (sRet (cAndV (cB1 (tR isND) (cCall G_read_command (cCons (cK (.str (Str.ofString " "))) cNil))) (cB1 (tR isND) (cCall G_read_command (cCons (cK (.str (Str.ofString "tell 1"))) cNil)))))))))
structure Txt (K : PySem.W.Frag) (w : World) (mg : Str → Option Value) (cm : Nat → Addr) : Prop where
  b_abs : mg (Str.ofString "abs") = none
  b_all : mg (Str.ofString "all") = none
  b_int : mg (Str.ofString "int") = none
  b_isinstance : mg (Str.ofString "isinstance") = none
  b_len : mg (Str.ofString "len") = none
  b_range : mg (Str.ofString "range") = none
  b_str : mg (Str.ofString "str") = none
  b_tuple : mg (Str.ofString "tuple") = none
  c_DIGITS_lines : GlobD K mg (Str.ofString "DIGITS_lines") (.str (Str.ofString "0123456789"))
  c_DIGITS_ratios : GlobD K mg (Str.ofString "DIGITS_ratios") (.str (Str.ofString "0123456789"))
  c_MAX_TEXT : GlobD K mg (Str.ofString "MAX_TEXT") (.int 60)
  c_RELATIONS : GlobD K mg (Str.ofString "RELATIONS") (.tuple [(.str (Str.ofString "<=")), (.str (Str.ofString ">=")), (.str (Str.ofString "="))])
  c_RESTS : GlobD K mg (Str.ofString "RESTS") (.tuple [(.str (Str.ofString "yard")), (.str (Str.ofString "note"))])
  d_FORMS : ZDict K w mg (Str.ofString "FORMS") tab_FORMS
  e_BadForm : ZExc K mg cm (Str.ofString "BadForm") 1
  m_BadForm : ∀ i b, mt_BadForm i = some b → PySem.W.exmOne K (.ref (cm i)) (.ref (cm 1)) = some b
  f_common : FnHas K mg (Str.ofString "common") s_common [(Str.ofString "first"), (Str.ofString "second")]
  f_is_ratio : FnHas K mg (Str.ofString "is_ratio") s_is_ratio [(Str.ofString "pair")]
  f_negated : FnHas K mg (Str.ofString "negated") s_negated [(Str.ofString "first")]
  f_ratio_text : FnHas K mg (Str.ofString "ratio_text") s_ratio_text [(Str.ofString "first")]
  f_is_digits : FnHas K mg (Str.ofString "is_digits") s_is_digits [(Str.ofString "text")]
  f_read_ratio : FnHas K mg (Str.ofString "read_ratio") s_read_ratio [(Str.ofString "text")]
  f_read_number : FnHas K mg (Str.ofString "read_number") s_read_number [(Str.ofString "word")]
  f_ratio_of : FnHas K mg (Str.ofString "ratio_of") s_ratio_of [(Str.ofString "word")]
  f_read_term : FnHas K mg (Str.ofString "read_term") s_read_term [(Str.ofString "word")]
  f_read_ask : FnHas K mg (Str.ofString "read_ask") s_read_ask [(Str.ofString "words")]
  f_read_fix : FnHas K mg (Str.ofString "read_fix") s_read_fix [(Str.ofString "line")]
  f_read_command : FnHas K mg (Str.ofString "read_command") s_read_command [(Str.ofString "line")]
  f__law_row : FnHas K mg (Str.ofString "_law_row") s__law_row [(Str.ofString "script")]
  f__law_at : FnHas K mg (Str.ofString "_law_at") s__law_at [(Str.ofString "row"), (Str.ofString "at")]
  f__law_ratio : FnHas K mg (Str.ofString "_law_ratio") s__law_ratio [(Str.ofString "number")]
  f__law_text : FnHas K mg (Str.ofString "_law_text") s__law_text [(Str.ofString "ratio")]
  f__law_lines : FnHas K mg (Str.ofString "_law_lines") s__law_lines [(Str.ofString "row")]
  f__law_written : FnHas K mg (Str.ofString "_law_written") s__law_written [(Str.ofString "parts")]
  f__law_spoilt : FnHas K mg (Str.ofString "_law_spoilt") s__law_spoilt [(Str.ofString "parts"), (Str.ofString "text")]
section
variable {P : Program} {w : World} {K : PySem.W.Frag} {mg : Str → Option Value} {base : Heap} {cm : Nat → Addr}
theorem ok_common (T : Txt K w mg cm)  : ZFn P w K mg base cm (Str.ofString "common") 1 G_common := zfnH T.f_common sc_common fun f cdv A outer s H E Am =>
    (zss_cons (zs_set 0 Am (ze_abs (zk_var 0) T.b_abs))
    (zss_cons (zs_set 1 Am (ze_abs (zk_var 1) T.b_abs))
    (zss_cons (zs_while 100 Am (zt_cmp (cmp_ne Am) (zk_var 1) (ze_k ze_int) neD_nx) (zss_one (zs_par 0 1 Am (ze_var 1) (ze_mod (zk_var 0) (zk_var 1)))))
    (zss_one (zs_ret (ze_var 0))))))
theorem ok_is_ratio (T : Txt K w mg cm) (h_common : ZFn P w K mg base cm (Str.ofString "common") 1 G_common) : ZFn P w K mg base cm (Str.ofString "is_ratio") 2 G_is_ratio := zfnH T.f_is_ratio sc_is_ratio fun f cdv A outer s H E Am =>
    (zss_one (zs_ret (ze_and (ze_cmp (cmp_eq Am) (ze_k (ze_len (zk_var 0) T.b_len)) (ze_k ze_int) eqD_nx) (ze_and (ze_cmp cmp_ge (ze_k (ze_ix (zk_var 0) (ze_k ze_int))) (ze_k ze_int) geD_nx) (ze_one (ze_cmp (cmp_eq Am) (ze_k (ze_call h_common Am (by decide) (za_cons (ze_ix (zk_var 0) (ze_k ze_int)) (za_cons (ze_ix (zk_var 0) (ze_k ze_int)) za_nil)))) (ze_k ze_int) eqD_nx))))))
theorem ok_negated (T : Txt K w mg cm)  : ZFn P w K mg base cm (Str.ofString "negated") 1 G_negated := zfnH T.f_negated sc_negated fun f cdv A outer s H E Am =>
    (zss_one (zs_ret (ze_tup (za_cons (ze_neg (ze_k (ze_ix (zk_var 0) (ze_k ze_int)))) (za_cons (ze_ix (zk_var 0) (ze_k ze_int)) za_nil)))))
theorem ok_ratio_text (T : Txt K w mg cm)  : ZFn P w K mg base cm (Str.ofString "ratio_text") 1 G_ratio_text := zfnH T.f_ratio_text sc_ratio_text fun f cdv A outer s H E Am =>
    (zss_cons (zs_if (zt_cmp (cmp_eq Am) (ze_k (ze_ix (zk_var 0) (ze_k ze_int))) (ze_k ze_int) eqD_nx) (zss_one (zs_ret (ze_tostr (ze_k (ze_ix (zk_var 0) (ze_k ze_int))) T.b_str))) zss_nil)
    (zss_one (zs_ret (ze_joined (zj_cons (ze_fmt (ze_ix (zk_var 0) (ze_k ze_int))) (zj_cons ze_str (zj_cons (ze_fmt (ze_ix (zk_var 0) (ze_k ze_int))) zj_nil)))))))
theorem ok_is_digits (T : Txt K w mg cm)  : ZFn P w K mg base cm (Str.ofString "is_digits") 1 G_is_digits := zfnH T.f_is_digits sc_is_digits fun f cdv A outer s H E Am =>
    (zss_one (zs_ret (ze_and (ze_cmp (cmp_ne Am) (zk_var 0) (ze_k ze_str) neD_nx) (ze_one (ze_all Am (zf_k (zf_lc [((Str.ofString "sign"), 1)] Am (zi_seq (ze_var 0)) (blkOk_by (N := N_is_digits) (sc := defScope s_is_digits) (by decide +kernel)) (fun _ _ _ _ _ => (zg_name 1 Am.nd)) (fun _ _ _ _ _ => zts_nil) (fun _ _ _ _ _ Am1 => (ze_cmp (cmp_in Am1) (zk_var 1) (ze_k (ze_glob T.c_DIGITS_ratios)) inD_nx)))) T.b_all)))))
theorem ok_read_ratio (T : Txt K w mg cm) (h_is_digits : ZFn P w K mg base cm (Str.ofString "is_digits") 1 G_is_digits) (h_negated : ZFn P w K mg base cm (Str.ofString "negated") 1 G_negated) (h_is_ratio : ZFn P w K mg base cm (Str.ofString "is_ratio") 2 G_is_ratio) (h_ratio_text : ZFn P w K mg base cm (Str.ofString "ratio_text") 1 G_ratio_text) : ZFn P w K mg base cm (Str.ofString "read_ratio") 3 G_read_ratio := zfnH T.f_read_ratio sc_read_ratio fun f cdv A outer s H E Am =>
    (zss_cons (zs_if (zt_cmp cmp_gt (ze_k (ze_len (zk_var 0) T.b_len)) (ze_k (ze_glob T.c_MAX_TEXT)) gtD_nx) (zss_one (zs_raise Am T.e_BadForm)) zss_nil)
    (zss_cons (zs_set 1 Am (ze_if (zt_cmp (cmp_eq Am) (ze_k (ze_sl (zk_var 0) zo_none (zo_some ze_int))) (ze_k ze_str) eqD_nx) (ze_sl (zk_var 0) (zo_some ze_int) zo_none) (ze_var 0)))
    (zss_cons (zs_asg (ze_part (zk_var 1) (ze_k ze_str)) (zg_tup Am.calm (zgs_cons (zg_name 3 Am.nd) (zgs_cons (zg_name 4 Am.nd) (zgs_cons (zg_name 5 Am.nd) zgs_nil)))))
    (zss_cons (zs_if (zt_w (zw_or (zt_not (zt_of (ze_k (ze_call h_is_digits Am (by decide) (za_cons (ze_var 3) za_nil))))) (zw_or1 (zt_w (zw_and (zt_cmp (cmp_ne Am) (zk_var 4) (ze_k ze_str) neD_nx) (zw_and1 (zt_not (zt_of (ze_k (ze_call h_is_digits Am (by decide) (za_cons (ze_var 5) za_nil))))))))))) (zss_one (zs_raise Am T.e_BadForm)) zss_nil)
    (zss_cons (zs_set 2 Am (ze_tup (za_cons (ze_toint (zk_var 3) T.b_int) (za_cons (ze_if (zt_cmp (cmp_eq Am) (zk_var 4) (ze_k ze_str) eqD_nx) ze_int (ze_toint (zk_var 5) T.b_int)) za_nil))))
    (zss_cons (zs_if (zt_cmp (cmp_eq Am) (ze_k (ze_sl (zk_var 0) zo_none (zo_some ze_int))) (ze_k ze_str) eqD_nx) (zss_one (zs_set 2 Am (ze_call h_negated Am (by decide) (za_cons (ze_var 2) za_nil)))) zss_nil)
    (zss_cons (zs_if (zt_w (zw_or (zt_not (zt_of (ze_k (ze_call h_is_ratio Am (by decide) (za_cons (ze_var 2) za_nil))))) (zw_or1 (zt_cmp (cmp_ne Am) (ze_k (ze_call h_ratio_text Am (by decide) (za_cons (ze_var 2) za_nil))) (zk_var 0) neD_nx)))) (zss_one (zs_raise Am T.e_BadForm)) zss_nil)
    (zss_one (zs_ret (ze_var 2))))))))))
theorem ok_read_number (T : Txt K w mg cm)  : ZFn P w K mg base cm (Str.ofString "read_number") 1 G_read_number := zfnH T.f_read_number sc_read_number fun f cdv A outer s H E Am =>
    (zss_cons (zs_if (zt_w (zw_or (zt_cmp cmp_lt (ze_k (ze_len (zk_var 0) T.b_len)) (ze_k ze_int) ltD_nx) (zw_or (zt_cmp cmp_gt (ze_k (ze_len (zk_var 0) T.b_len)) (ze_k ze_int) gtD_nx) (zw_or1 (zt_not (zt_of (ze_k (ze_all Am (zf_k (zf_lc [((Str.ofString "sign"), 1)] Am (zi_seq (ze_var 0)) (blkOk_by (N := N_read_number) (sc := defScope s_read_number) (by decide +kernel)) (fun _ _ _ _ _ => (zg_name 1 Am.nd)) (fun _ _ _ _ _ => zts_nil) (fun _ _ _ _ _ Am1 => (ze_cmp (cmp_in Am1) (zk_var 1) (ze_k (ze_glob T.c_DIGITS_lines)) inD_nx)))) T.b_all)))))))) (zss_one (zs_ret ze_non)) zss_nil)
    (zss_cons (zs_if (zt_w (zw_and (zt_cmp cmp_gt (ze_k (ze_len (zk_var 0) T.b_len)) (ze_k ze_int) gtD_nx) (zw_and1 (zt_cmp (cmp_eq Am) (ze_k (ze_ix (zk_var 0) (ze_k ze_int))) (ze_k ze_str) eqD_nx)))) (zss_one (zs_ret ze_non)) zss_nil)
    (zss_one (zs_ret (ze_toint (zk_var 0) T.b_int)))))
theorem ok_ratio_of (T : Txt K w mg cm) (h_read_ratio : ZFn P w K mg base cm (Str.ofString "read_ratio") 3 G_read_ratio) : ZFn P w K mg base cm (Str.ofString "ratio_of") 4 G_ratio_of := zfnH T.f_ratio_of sc_ratio_of fun f cdv A outer s H E Am =>
    (zss_one (zs_tryO Am T.e_BadForm.gC T.m_BadForm (fun _ _ _ At => (zss_one (zs_ret (ze_call h_read_ratio At (by decide) (za_cons (ze_var 0) za_nil))))) (fun _ _ => (zss_one (zs_ret ze_non)))))
theorem ok_read_term (T : Txt K w mg cm) (h_ratio_of : ZFn P w K mg base cm (Str.ofString "ratio_of") 4 G_ratio_of) (h_read_number : ZFn P w K mg base cm (Str.ofString "read_number") 1 G_read_number) : ZFn P w K mg base cm (Str.ofString "read_term") 5 G_read_term := zfnH T.f_read_term sc_read_term fun f cdv A outer s H E Am =>
    (zss_cons (zs_asg (ze_part (zk_var 0) (ze_k ze_str)) (zg_tup Am.calm (zgs_cons (zg_name 4 Am.nd) (zgs_cons (zg_name 5 Am.nd) (zgs_cons (zg_name 6 Am.nd) zgs_nil)))))
    (zss_cons (zs_set 1 Am (ze_call h_ratio_of Am (by decide) (za_cons (ze_var 4) za_nil)))
    (zss_cons (zs_if (zt_w (zw_or (zt_cmp (cmp_eq Am) (zk_var 5) (ze_k ze_str) eqD_nx) (zw_or1 (zt_isN (zk_var 1))))) (zss_one (zs_ret ze_non)) zss_nil)
    (zss_cons (zs_asg (ze_part (zk_var 6) (ze_k ze_str)) (zg_tup Am.calm (zgs_cons (zg_name 7 Am.nd) (zgs_cons (zg_name 8 Am.nd) (zgs_cons (zg_name 9 Am.nd) zgs_nil)))))
    (zss_cons (zs_set 2 Am (ze_call h_read_number Am (by decide) (za_cons (ze_var 7) za_nil)))
    (zss_cons (zs_set 3 Am ze_non)
    (zss_cons (zs_if (zt_cmp (cmp_ne Am) (zk_var 8) (ze_k ze_str) neD_nx) (zss_cons (zs_set 3 Am (ze_call h_read_number Am (by decide) (za_cons (ze_var 9) za_nil)))
    (zss_one (zs_if (zt_isN (zk_var 3)) (zss_one (zs_ret ze_non)) zss_nil))) zss_nil)
    (zss_cons (zs_if (zt_isN (zk_var 2)) (zss_one (zs_ret ze_non)) zss_nil)
    (zss_one (zs_ret (ze_tup (za_cons (ze_var 2) (za_cons (ze_var 3) (za_cons (ze_var 1) za_nil))))))))))))))
theorem ok_read_ask (T : Txt K w mg cm) (h_ratio_of : ZFn P w K mg base cm (Str.ofString "ratio_of") 4 G_ratio_of) (h_read_term : ZFn P w K mg base cm (Str.ofString "read_term") 5 G_read_term) : ZFn P w K mg base cm (Str.ofString "read_ask") 6 G_read_ask := zfnH T.f_read_ask sc_read_ask fun f cdv A outer s H E Am =>
    (zss_cons (zs_if (zt_w (zw_or (zt_cmp cmp_lt (ze_k (ze_len (zk_var 0) T.b_len)) (ze_k ze_int) ltD_nx) (zw_or1 (zt_cmp (cmp_notIn Am) (ze_k (ze_ix (zk_var 0) (ze_k ze_int))) (ze_k (ze_glob T.c_RELATIONS)) notInD_nx)))) (zss_one (zs_ret ze_non)) zss_nil)
    (zss_cons (zs_set 1 Am (ze_call h_ratio_of Am (by decide) (za_cons (ze_ix (zk_var 0) (ze_k ze_int)) za_nil)))
    (zss_cons (zs_setLc 2 [((Str.ofString "word"), 3)] Am (zi_seq (ze_sl (zk_var 0) (zo_some ze_int) zo_none)) (blkOk_by (N := N_read_ask) (sc := defScope s_read_ask) (by decide +kernel)) (fun _ _ _ _ _ => (zg_name 3 Am.nd)) (fun _ _ _ _ _ => zts_nil) (fun _ _ _ _ _ Am1 => (ze_call h_read_term Am1 (by decide) (za_cons (ze_var 3) za_nil))) (sw_true rfl rfl rfl (by decide +kernel)))
    (zss_cons (zs_if (zt_w (zw_or (zt_isN (zk_var 1)) (zw_or1 (zt_cmp (cmp_in Am) (ze_k ze_non) (zk_var 2) inD_nx)))) (zss_one (zs_ret ze_non)) zss_nil)
    (zss_one (zs_ret (ze_tup (za_cons ze_str (za_cons (ze_ix (zk_var 0) (ze_k ze_int)) (za_cons (ze_var 1) (za_cons (ze_var 2) za_nil)))))))))))
theorem ok_read_fix (T : Txt K w mg cm) (h_read_number : ZFn P w K mg base cm (Str.ofString "read_number") 1 G_read_number) : ZFn P w K mg base cm (Str.ofString "read_fix") 2 G_read_fix := zfnH T.f_read_fix sc_read_fix fun f cdv A outer s H E Am =>
    (zss_cons (zs_set 1 Am (zf_e (zf_splitMax (zk_var 0) (ze_k ze_str) (ze_k ze_int))))
    (zss_cons (zs_if (zt_w (zw_or (zt_cmp cmp_lt (ze_k (ze_len (zk_var 1) T.b_len)) (ze_k ze_int) ltD_nx) (zw_or1 (zt_isN (ze_k (ze_call h_read_number Am (by decide) (za_cons (ze_ix (zk_var 1) (ze_k ze_int)) za_nil))))))) (zss_one (zs_ret ze_non)) zss_nil)
    (zss_one (zs_ret (ze_tup (za_cons ze_str (za_cons (ze_call h_read_number Am (by decide) (za_cons (ze_ix (zk_var 1) (ze_k ze_int)) za_nil)) (za_cons (ze_join (ze_k ze_str) (ze_k (ze_sl (zk_var 1) (zo_some ze_int) zo_none))) za_nil))))))))
theorem ok_read_command (T : Txt K w mg cm) (h_read_fix : ZFn P w K mg base cm (Str.ofString "read_fix") 2 G_read_fix) (h_read_ask : ZFn P w K mg base cm (Str.ofString "read_ask") 6 G_read_ask) (h_read_number : ZFn P w K mg base cm (Str.ofString "read_number") 1 G_read_number) : ZFn P w K mg base cm (Str.ofString "read_command") 7 G_read_command := zfnH T.f_read_command sc_read_command fun f cdv A outer s H E Am =>
    (zss_cons (zs_if (zt_cmp (cmp_eq Am) (zk_var 0) (ze_k ze_str) eqD_nx) (zss_one (zs_ret (ze_tup za_nil))) zss_nil)
    (zss_cons (zs_set 1 Am (zf_e (zf_split (zk_var 0) (ze_k ze_str))))
    (zss_cons (zs_if (zt_cmp (cmp_in Am) (ze_k (ze_ix (zk_var 1) (ze_k ze_int))) (ze_k (ze_glob T.c_RESTS)) inD_nx) (zss_one (zs_ret (ze_tup (za_cons (ze_ix (zk_var 1) (ze_k ze_int)) (za_cons (ze_sl (zk_var 0) (zo_some (ze_add (ze_k (ze_len (ze_k (ze_ix (zk_var 1) (ze_k ze_int))) T.b_len)) (ze_k ze_int))) zo_none) za_nil))))) zss_nil)
    (zss_cons (zs_if (zt_cmp (cmp_eq Am) (ze_k (ze_ix (zk_var 1) (ze_k ze_int))) (ze_k ze_str) eqD_nx) (zss_one (zs_ret (ze_call h_read_fix Am (by decide) (za_cons (ze_var 0) za_nil)))) zss_nil)
    (zss_cons (zs_if (zt_cmp (cmp_eq Am) (ze_k (ze_ix (zk_var 1) (ze_k ze_int))) (ze_k ze_str) eqD_nx) (zss_one (zs_ret (ze_call h_read_ask Am (by decide) (za_cons (ze_var 1) za_nil)))) zss_nil)
    (zss_cons (zs_if (zt_w (zw_or (zt_notInKD T.d_FORMS (ze_k (ze_ix (zk_var 1) (ze_k ze_int)))) (zw_or1 (zt_cmp (cmp_ne Am) (ze_k (ze_len (zk_var 1) T.b_len)) (ze_k (ze_add (ze_k (ze_len (ze_k (ze_ixKD T.d_FORMS (ze_k (ze_ix (zk_var 1) (ze_k ze_int))))) T.b_len)) (ze_k ze_int))) neD_nx)))) (zss_one (zs_ret ze_non)) zss_nil)
    (zss_cons (zs_setLc 2 [((Str.ofString "word"), 3)] Am (zi_seq (ze_sl (zk_var 1) (zo_some ze_int) zo_none)) (blkOk_by (N := N_read_command) (sc := defScope s_read_command) (by decide +kernel)) (fun _ _ _ _ _ => (zg_name 3 Am.nd)) (fun _ _ _ _ _ => zts_nil) (fun _ _ _ _ _ Am1 => (ze_call h_read_number Am1 (by decide) (za_cons (ze_var 3) za_nil))) (sw_true rfl rfl rfl (by decide +kernel)))
    (zss_cons (zs_if (zt_cmp (cmp_in Am) (ze_k ze_non) (zk_var 2) inD_nx) (zss_one (zs_ret ze_non)) zss_nil)
    (zss_one (zs_ret (ze_tup (za_cons (ze_ix (zk_var 1) (ze_k ze_int)) (za_star (zk_var 2) za_nil)))))))))))))
theorem ok__law_row (T : Txt K w mg cm)  : ZFn P w K mg base cm (Str.ofString "_law_row") 1 G__law_row := zfnH T.f__law_row sc__law_row fun f cdv A outer s H E Am =>
    (zss_cons (zs_own 1 Am (zf_lst za_nil))
    (zss_cons (zs_for Am (zi_range1 (ze_len (zk_var 0) T.b_len) T.b_range) (zg_name 2 Am.nd) (zss_cons (zs_set 3 Am (ze_abs (ze_k (ze_toint (ze_k (ze_ix (zk_var 0) (zk_var 2))) T.b_int)) T.b_abs))
    (zss_one (zs_if (zt_cmp cmp_ge (zk_var 3) (ze_k (ze_pow (ze_k ze_int) (ze_k ze_int))) geD_nx) (zss_one (zs_for Am (zi_range1 ze_int T.b_range) (zg_name 4 Am.nd) (zss_one (zs_if (zt_cmp cmp_gt (zk_var 3) (ze_k ze_int) gtD_nx) (zss_cons (zs_app 1 Am (ze_mod (ze_k (ze_toint (zk_var 3) T.b_int)) (ze_k ze_int)))
    (zss_one (zs_set 3 Am (ze_fdiv (zk_var 3) (ze_k ze_int))))) zss_nil)))) (zss_cons (zs_set 5 Am (ze_mod (ze_k (ze_toint (ze_k (ze_add (ze_k (ze_add (ze_k (ze_mul (zk_var 3) (ze_k ze_int))) (ze_k (ze_mul (zk_var 2) (ze_k ze_int))))) (ze_k ze_int))) T.b_int)) (ze_k ze_int)))
    (zss_one (zs_for Am (zi_range1 ze_int T.b_range) (zg_name 4 Am.nd) (zss_cons (zs_set 5 Am (ze_mod (ze_k (ze_toint (ze_k (ze_add (ze_k (ze_add (ze_k (ze_mul (zk_var 5) (ze_k ze_int))) (ze_k (ze_mul (ze_k ze_int) (zk_var 4))))) (ze_k ze_int))) T.b_int)) (ze_k ze_int)))
    (zss_one (zs_app 1 Am (ze_mod (ze_k (ze_toint (ze_k (ze_fdiv (zk_var 5) (ze_k ze_int))) T.b_int)) (ze_k ze_int))))))))))))
    (zss_rel 1 (zss_one (zs_ret (ze_var 1))))))
theorem ok__law_at (T : Txt K w mg cm)  : ZFn P w K mg base cm (Str.ofString "_law_at") 1 G__law_at := zfnH T.f__law_at sc__law_at fun f cdv A outer s H E Am =>
    (zss_cons (zs_if (zt_chain cmp_le cmp_lt (ze_k ze_int) (zk_var 1) (ze_k (ze_len (zk_var 0) T.b_len)) leD_nx ltD_nx) (zss_one (zs_ret (ze_ix (zk_var 0) (zk_var 1)))) zss_nil)
    (zss_one (zs_ret ze_int)))
theorem ok__law_ratio (T : Txt K w mg cm)  : ZFn P w K mg base cm (Str.ofString "_law_ratio") 1 G__law_ratio := zfnH T.f__law_ratio sc__law_ratio fun f cdv A outer s H E Am =>
    (zss_cons (zs_set 1 Am (ze_sub (ze_k (ze_mod (ze_k (ze_toint (zk_var 0) T.b_int)) (ze_k ze_int))) (ze_k ze_int)))
    (zss_cons (zs_set 2 Am (ze_add (ze_k ze_int) (ze_k (ze_mod (ze_k (ze_fdiv (ze_k (ze_toint (zk_var 0) T.b_int)) (ze_k ze_int))) (ze_k ze_int)))))
    (zss_cons (zs_for Am (zi_range3 ze_int ze_int (ze_neg (ze_k ze_int)) T.b_range) (zg_name 3 Am.nd) (zss_one (zs_if (zt_w (zw_and (zt_cmp (cmp_eq Am) (ze_k (ze_mod (zk_var 1) (zk_var 3))) (ze_k ze_int) eqD_nx) (zw_and1 (zt_cmp (cmp_eq Am) (ze_k (ze_mod (zk_var 2) (zk_var 3))) (ze_k ze_int) eqD_nx)))) (zss_cons (zs_set 1 Am (ze_fdiv (zk_var 1) (zk_var 3)))
    (zss_one (zs_set 2 Am (ze_fdiv (zk_var 2) (zk_var 3))))) zss_nil)))
    (zss_cons (zs_if (zt_cmp (cmp_eq Am) (zk_var 1) (ze_k ze_int) eqD_nx) (zss_one (zs_set 2 Am ze_int)) zss_nil)
    (zss_one (zs_ret (ze_tup (za_cons (ze_var 1) (za_cons (ze_var 2) za_nil)))))))))
theorem ok__law_text (T : Txt K w mg cm)  : ZFn P w K mg base cm (Str.ofString "_law_text") 1 G__law_text := zfnH T.f__law_text sc__law_text fun f cdv A outer s H E Am =>
    (zss_cons (zs_if (zt_cmp (cmp_eq Am) (ze_k (ze_ix (zk_var 0) (ze_k ze_int))) (ze_k ze_int) eqD_nx) (zss_one (zs_ret (ze_tostr (ze_k (ze_ix (zk_var 0) (ze_k ze_int))) T.b_str))) zss_nil)
    (zss_one (zs_ret (ze_add (ze_k (ze_add (ze_k (ze_tostr (ze_k (ze_ix (zk_var 0) (ze_k ze_int))) T.b_str)) (ze_k ze_str))) (ze_k (ze_tostr (ze_k (ze_ix (zk_var 0) (ze_k ze_int))) T.b_str))))))
theorem ok__law_lines (T : Txt K w mg cm) (h__law_at : ZFn P w K mg base cm (Str.ofString "_law_at") 1 G__law_at) (h__law_ratio : ZFn P w K mg base cm (Str.ofString "_law_ratio") 1 G__law_ratio) : ZFn P w K mg base cm (Str.ofString "_law_lines") 2 G__law_lines := zfnH T.f__law_lines sc__law_lines fun f cdv A outer s H E Am =>
    (zss_cons (zs_setLc 1 [((Str.ofString "k"), 4)] Am (zi_range1 ze_int T.b_range) (blkOk_by (N := N__law_lines) (sc := defScope s__law_lines) (by decide +kernel)) (fun _ _ _ _ _ => (zg_name 4 Am.nd)) (fun _ _ _ _ _ => zts_nil) (fun _ _ _ _ _ Am1 => (ze_mod (ze_k (ze_toint (ze_k (ze_call h__law_at Am1 (by decide) (za_cons (ze_var 0) (za_cons (ze_var 4) za_nil)))) T.b_int)) (ze_k ze_int))) (sw_true rfl rfl rfl (by decide +kernel)))
    (zss_cons (zs_set 2 Am (ze_ix (zf_k (zf_lst (za_cons ze_str (za_cons ze_str (za_cons ze_str (za_cons ze_str (za_cons ze_str (za_cons ze_str za_nil)))))))) (ze_k (ze_mod (ze_k (ze_toint (ze_k (ze_call h__law_at Am (by decide) (za_cons (ze_var 0) (za_cons ze_int za_nil)))) T.b_int)) (ze_k ze_int)))))
    (zss_cons (zs_own 3 Am (zf_lst za_nil))
    (zss_cons (zs_for Am (zi_range1 (ze_add (ze_k ze_int) (ze_k (ze_mod (ze_k (ze_toint (ze_k (ze_call h__law_at Am (by decide) (za_cons (ze_var 0) (za_cons ze_int za_nil)))) T.b_int)) (ze_k ze_int)))) T.b_range) (zg_name 4 Am.nd) (zss_cons (zs_set 7 Am (ze_mod (ze_k (ze_toint (ze_k (ze_call h__law_at Am (by decide) (za_cons (ze_var 0) (za_cons (ze_add (ze_k ze_int) (ze_k (ze_mul (ze_k ze_int) (zk_var 4)))) za_nil)))) T.b_int)) (ze_k ze_int)))
    (zss_cons (zs_if (zt_cmp (cmp_eq Am) (zk_var 7) (ze_k ze_int) eqD_nx) (zss_one (zs_set 7 Am ze_non)) zss_nil)
    (zss_one (zs_app 3 Am (ze_tup (za_cons (ze_mod (ze_k (ze_toint (ze_k (ze_call h__law_at Am (by decide) (za_cons (ze_var 0) (za_cons (ze_add (ze_k ze_int) (ze_k (ze_mul (ze_k ze_int) (zk_var 4)))) za_nil)))) T.b_int)) (ze_k ze_int)) (za_cons (ze_var 7) (za_cons (ze_call h__law_ratio Am (by decide) (za_cons (ze_call h__law_at Am (by decide) (za_cons (ze_var 0) (za_cons (ze_add (ze_k ze_int) (ze_k (ze_mul (ze_k ze_int) (zk_var 4)))) za_nil))) za_nil)) za_nil)))))))))
    (zss_rel 3 (zss_cons (zs_set 5 Am (ze_tup (za_cons ze_str (za_cons (ze_ix (zf_k (zf_lst (za_cons ze_str (za_cons ze_str (za_cons ze_str za_nil))))) (ze_k (ze_mod (ze_k (ze_toint (ze_k (ze_call h__law_at Am (by decide) (za_cons (ze_var 0) (za_cons ze_int za_nil)))) T.b_int)) (ze_k ze_int)))) (za_cons (ze_call h__law_ratio Am (by decide) (za_cons (ze_call h__law_at Am (by decide) (za_cons (ze_var 0) (za_cons ze_int za_nil))) za_nil)) (za_cons (ze_var 3) za_nil))))))
    (zss_cons (zs_set 6 Am (zf_e (zf_lst (za_cons (ze_tup (za_cons ze_str (za_cons (ze_var 2) za_nil))) (za_cons (ze_tup (za_cons ze_str (za_cons (ze_var 2) za_nil))) (za_cons (ze_tup (za_cons ze_str (za_cons (ze_ix (zk_var 1) (ze_k ze_int)) (za_cons (ze_var 2) za_nil)))) (za_cons (ze_tup (za_cons ze_str (za_cons (ze_ix (zk_var 1) (ze_k ze_int)) za_nil))) (za_cons (ze_tup (za_cons ze_str (za_cons (ze_ix (zk_var 1) (ze_k ze_int)) za_nil))) (za_cons (ze_tup (za_cons ze_str za_nil)) (za_cons (ze_var 5) za_nil))))))))))
    (zss_cons (zs_set 6 Am (ze_add (zk_var 6) (zf_k (zf_lst (za_cons (ze_tup (za_cons ze_str (za_cons (ze_ix (zk_var 1) (ze_k ze_int)) za_nil))) (za_cons (ze_tup (za_cons ze_str (za_cons (ze_ix (zk_var 1) (ze_k ze_int)) (za_cons (ze_ix (zk_var 1) (ze_k ze_int)) za_nil)))) (za_cons (ze_tup (za_cons ze_str za_nil)) (za_cons (ze_tup (za_cons ze_str (za_cons (ze_ix (zk_var 1) (ze_k ze_int)) (za_cons (ze_ix (zk_var 1) (ze_k ze_int)) (za_cons (ze_ix (zk_var 1) (ze_k ze_int)) (za_cons (ze_ix (zk_var 1) (ze_k ze_int)) za_nil)))))) za_nil))))))))
    (zss_one (zs_ret (ze_add (zk_var 6) (zf_k (zf_lst (za_cons (ze_tup (za_cons ze_str za_nil)) (za_cons (ze_tup (za_cons ze_str (za_cons (ze_ix (zk_var 1) (ze_k ze_int)) za_nil))) (za_cons (ze_tup (za_cons ze_str za_nil)) (za_cons (ze_tup (za_cons ze_str za_nil)) (za_cons (ze_tup (za_cons ze_str za_nil)) (za_cons (ze_tup (za_cons ze_str za_nil)) (za_cons (ze_tup (za_cons ze_str za_nil)) za_nil))))))))))))))))))))
theorem ok__law_written (T : Txt K w mg cm) (h__law_text : ZFn P w K mg base cm (Str.ofString "_law_text") 1 G__law_text) : ZFn P w K mg base cm (Str.ofString "_law_written") 2 G__law_written := zfnH T.f__law_written sc__law_written fun f cdv A outer s H E Am =>
    (zss_cons (zs_if (zt_cmp (cmp_ne Am) (ze_k (ze_ix (zk_var 0) (ze_k ze_int))) (ze_k ze_str) neD_nx) (zss_one (zs_ret (ze_join (ze_k ze_str) (zf_k (zf_lc [((Str.ofString "part"), 6)] Am (zi_seq (ze_var 0)) (blkOk_by (N := N__law_written) (sc := defScope s__law_written) (by decide +kernel)) (fun _ _ _ _ _ => (zg_name 6 Am.nd)) (fun _ _ _ _ _ => zts_nil) (fun _ _ _ _ _ Am1 => (ze_tostr (zk_var 6) T.b_str))))))) zss_nil)
    (zss_cons (zs_own 1 Am (zf_lst (za_cons ze_str (za_cons (ze_ix (zk_var 0) (ze_k ze_int)) (za_cons (ze_call h__law_text Am (by decide) (za_cons (ze_ix (zk_var 0) (ze_k ze_int)) za_nil)) za_nil)))))
    (zss_cons (zs_for Am (zi_seq (ze_ix (zk_var 0) (ze_k ze_int))) (zg_tup Am.calm (zgs_cons (zg_name 2 Am.nd) (zgs_cons (zg_name 3 Am.nd) (zgs_cons (zg_name 4 Am.nd) zgs_nil)))) (zss_cons (zs_set 5 Am (ze_add (ze_k (ze_add (ze_k (ze_call h__law_text Am (by decide) (za_cons (ze_var 4) za_nil))) (ze_k ze_str))) (ze_k (ze_tostr (zk_var 2) T.b_str))))
    (zss_cons (zs_if (zt_notN (zk_var 3)) (zss_one (zs_set 5 Am (ze_add (ze_k (ze_add (zk_var 5) (ze_k ze_str))) (ze_k (ze_tostr (zk_var 3) T.b_str))))) zss_nil)
    (zss_one (zs_app 1 Am (ze_var 5))))))
    (zss_one (zs_ret (ze_join (ze_k ze_str) (zk_var 1)))))))
theorem ok__law_spoilt (T : Txt K w mg cm)  : ZFn P w K mg base cm (Str.ofString "_law_spoilt") 1 G__law_spoilt := zfnH T.f__law_spoilt sc__law_spoilt fun f cdv A outer s H E Am =>
    (zss_cons (zs_set 2 Am (ze_ix (zk_var 0) (ze_k ze_int)))
    (zss_cons (zs_set 3 Am (zf_e (zf_lst (za_cons (ze_add (ze_k ze_str) (zk_var 1)) (za_cons (ze_add (ze_k (ze_upper (zk_var 2))) (ze_k (ze_sl (zk_var 1) (zo_some (ze_len (zk_var 2) T.b_len)) zo_none))) (za_cons (ze_add (ze_k (ze_add (zk_var 2) (ze_k ze_str))) (ze_k (ze_sl (zk_var 1) (zo_some (ze_len (zk_var 2) T.b_len)) zo_none))) za_nil))))))
    (zss_cons (zs_if (zt_cmp (cmp_in Am) (zk_var 2) (zf_k (zf_lst (za_cons ze_str (za_cons ze_str za_nil)))) inD_nx) (zss_one (zs_ret (ze_var 3))) zss_nil)
    (zss_cons (zs_if (zt_cmp (cmp_eq Am) (zk_var 2) (ze_k ze_str) eqD_nx) (zss_cons (zs_set 5 Am (ze_sl (zk_var 1) (zo_some (ze_add (ze_k ze_int) (ze_k (ze_len (ze_k (ze_tostr (ze_k (ze_ix (zk_var 0) (ze_k ze_int))) T.b_str)) T.b_len)))) zo_none))
    (zss_one (zs_ret (ze_add (ze_k (ze_add (zk_var 3) (zf_k (zf_lst (za_cons ze_str (za_cons ze_str za_nil)))))) (zf_k (zf_lc [((Str.ofString "bad"), 7)] Am (zi_seq (zf_e (zf_lst (za_cons ze_str (za_cons ze_str (za_cons ze_str (za_cons ze_str (za_cons ze_str za_nil)))))))) (blkOk_by (N := N__law_spoilt) (sc := defScope s__law_spoilt) (by decide +kernel)) (fun _ _ _ _ _ => (zg_name 7 Am.nd)) (fun _ _ _ _ _ => zts_nil) (fun _ _ _ _ _ Am1 => (ze_add (ze_k (ze_add (ze_k ze_str) (zk_var 7))) (zk_var 5))))))))) zss_nil)
    (zss_cons (zs_set 3 Am (ze_add (zk_var 3) (zf_k (zf_lst (za_cons (ze_add (zk_var 1) (ze_k ze_str)) (za_cons (ze_add (zk_var 1) (ze_k ze_str)) (za_cons (ze_add (zk_var 1) (ze_k ze_str)) za_nil)))))))
    (zss_cons (zs_if (zt_cmp (cmp_eq Am) (zk_var 2) (ze_k ze_str) eqD_nx) (zss_cons (zs_set 6 Am (ze_sl (zk_var 1) (zo_some (ze_add (ze_k ze_int) (ze_k (ze_len (ze_k (ze_ix (zk_var 0) (ze_k ze_int))) T.b_len)))) zo_none))
    (zss_cons (zs_set 3 Am (ze_add (ze_k (ze_add (zk_var 3) (zf_k (zf_lc [((Str.ofString "bad"), 7)] Am (zi_seq (zf_e (zf_lst (za_cons ze_str (za_cons ze_str (za_cons ze_str (za_cons ze_str za_nil))))))) (blkOk_by (N := N__law_spoilt) (sc := defScope s__law_spoilt) (by decide +kernel)) (fun _ _ _ _ _ => (zg_name 7 Am.nd)) (fun _ _ _ _ _ => zts_nil) (fun _ _ _ _ _ Am1 => (ze_add (ze_k (ze_add (ze_k ze_str) (zk_var 7))) (zk_var 6))))))) (zf_k (zf_lst (za_cons ze_str (za_cons ze_str (za_cons ze_str za_nil)))))))
    (zss_one (zs_ret (ze_add (zk_var 3) (zf_k (zf_lc [((Str.ofString "bad"), 7)] Am (zi_seq (zf_e (zf_lst (za_cons ze_str (za_cons ze_str (za_cons ze_str (za_cons ze_str (za_cons ze_str (za_cons ze_str (za_cons ze_str (za_cons ze_str (za_cons ze_str (za_cons ze_str (za_cons ze_str (za_cons ze_str za_nil))))))))))))))) (blkOk_by (N := N__law_spoilt) (sc := defScope s__law_spoilt) (by decide +kernel)) (fun _ _ _ _ _ => (zg_name 7 Am.nd)) (fun _ _ _ _ _ => zts_nil) (fun _ _ _ _ _ Am1 => (ze_add (ze_k ze_str) (zk_var 7)))))))))) zss_nil)
    (zss_cons (zs_if (zt_cmp (cmp_eq Am) (ze_k (ze_len (zk_var 0) T.b_len)) (ze_k ze_int) eqD_nx) (zss_one (zs_ret (ze_add (zk_var 3) (zf_k (zf_lst (za_cons (ze_add (zk_var 1) (ze_k ze_str)) za_nil)))))) zss_nil)
    (zss_cons (zs_set 4 Am (ze_sl (zk_var 1) zo_none (zo_some (ze_sub (ze_k (ze_len (zk_var 1) T.b_len)) (ze_k (ze_len (ze_k (ze_tostr (ze_k (ze_ix (zk_var 0) (ze_k (ze_neg (ze_k ze_int))))) T.b_str)) T.b_len))))))
    (zss_one (zs_ret (ze_add (ze_k (ze_add (zk_var 3) (zf_k (zf_lc [((Str.ofString "bad"), 7)] Am (zi_seq (zf_e (zf_lst (za_cons ze_str (za_cons ze_str (za_cons ze_str (za_cons ze_str (za_cons ze_str (za_cons ze_str (za_cons ze_str za_nil)))))))))) (blkOk_by (N := N__law_spoilt) (sc := defScope s__law_spoilt) (by decide +kernel)) (fun _ _ _ _ _ => (zg_name 7 Am.nd)) (fun _ _ _ _ _ => zts_nil) (fun _ _ _ _ _ Am1 => (ze_add (zk_var 4) (zk_var 7))))))) (zf_k (zf_lst (za_cons (ze_add (zk_var 1) (ze_k ze_str)) (za_cons (ze_var 2) za_nil)))))))))))))))
theorem ok_law (T : Txt K w mg cm) (h__law_row : ZFn P w K mg base cm (Str.ofString "_law_row") 1 G__law_row) (h_read_command : ZFn P w K mg base cm (Str.ofString "read_command") 7 G_read_command) (h__law_lines : ZFn P w K mg base cm (Str.ofString "_law_lines") 2 G__law_lines) (h__law_written : ZFn P w K mg base cm (Str.ofString "_law_written") 2 G__law_written) (h__law_spoilt : ZFn P w K mg base cm (Str.ofString "_law_spoilt") 1 G__law_spoilt) {fl : Addr} {fdl : FuncData} (Fn : Fun K (Str.ofString "law") (Str.ofString "law") s_law fl fdl) : FnOk P w K mg base (L2.CX P w) 8 fl fdl [(Str.ofString "script")] (spZ K cm G_law) := zfn_ok (N := N_law) Fn sc_law fun cdv A outer s H E Am =>
    (zss_cons (zs_set 1 Am (ze_call h__law_row Am (by decide) (za_cons (ze_var 0) za_nil)))
    (zss_cons (zs_if (zt_cmp (cmp_ne Am) (ze_k (ze_call h_read_command Am (by decide) (za_cons ze_str za_nil))) (ze_k (ze_tup za_nil)) neD_nx) (zss_one (zs_ret ze_bl)) zss_nil)
    (zss_cons (zs_for Am (zi_seq (ze_call h__law_lines Am (by decide) (za_cons (ze_var 1) za_nil))) (zg_name 2 Am.nd) (zss_cons (zs_set 3 Am (ze_call h__law_written Am (by decide) (za_cons (ze_var 2) za_nil)))
    (zss_cons (zs_set 4 Am (ze_call h_read_command Am (by decide) (za_cons (ze_var 3) za_nil)))
    (zss_cons (zs_if (zt_w (zw_or (zt_not (zt_of (ze_k (ze_isi (T := "tuple") (is := fun s => s == "tuple") kit_tuple (zk_var 4) T.b_tuple (by decide +kernel) T.b_isinstance)))) (zw_or1 (zt_cmp (cmp_ne Am) (zk_var 4) (zk_var 2) neD_nx)))) (zss_one (zs_ret ze_bl)) zss_nil)
    (zss_one (zs_for Am (zi_seq (ze_call h__law_spoilt Am (by decide) (za_cons (ze_var 2) (za_cons (ze_var 3) za_nil)))) (zg_name 5 Am.nd) (zss_one (zs_if (zt_notN (ze_k (ze_call h_read_command Am (by decide) (za_cons (ze_var 5) za_nil)))) (zss_one (zs_ret ze_bl)) zss_nil))))))))
    (zss_cons (zs_if (zt_cmp (cmp_ne Am) (zf_k (zf_lc [((Str.ofString "one"), 6)] Am (zi_seq (zf_e (zf_lst (za_cons ze_str (za_cons ze_str (za_cons ze_str za_nil)))))) (blkOk_by (N := N_law) (sc := defScope s_law) (by decide +kernel)) (fun _ _ _ _ _ => (zg_name 6 Am.nd)) (fun _ _ _ _ _ => zts_nil) (fun _ _ _ _ _ Am1 => (ze_call h_read_command Am1 (by decide) (za_cons (ze_var 6) za_nil))))) (zf_k (zf_lst (za_cons (ze_tup (za_cons ze_str (za_cons ze_str za_nil))) (za_cons (ze_tup (za_cons ze_str (za_cons ze_str za_nil))) (za_cons (ze_tup (za_cons ze_str (za_cons ze_int (za_cons ze_str za_nil)))) za_nil))))) neD_nx) (zss_one (zs_ret ze_bl)) zss_nil)
    (zss_one (zs_ret (ze_and (ze_isN (ze_k (ze_call h_read_command Am (by decide) (za_cons ze_str za_nil)))) (ze_one (ze_isN (ze_k (ze_call h_read_command Am (by decide) (za_cons ze_str za_nil))))))))))))
theorem all_ok (T : Txt K w mg cm) {fl : Addr} {fdl : FuncData} (Fn : Fun K (Str.ofString "law") (Str.ofString "law") s_law fl fdl) : FnOk P w K mg base (L2.CX P w) 8 fl fdl [(Str.ofString "script")] (spZ K cm G_law) := by
  have h_common : ZFn P w K mg base cm (Str.ofString "common") 1 G_common := ok_common T 
  have h_is_ratio : ZFn P w K mg base cm (Str.ofString "is_ratio") 2 G_is_ratio := ok_is_ratio T h_common
  have h_negated : ZFn P w K mg base cm (Str.ofString "negated") 1 G_negated := ok_negated T 
  have h_ratio_text : ZFn P w K mg base cm (Str.ofString "ratio_text") 1 G_ratio_text := ok_ratio_text T 
  have h_is_digits : ZFn P w K mg base cm (Str.ofString "is_digits") 1 G_is_digits := ok_is_digits T 
  have h_read_ratio : ZFn P w K mg base cm (Str.ofString "read_ratio") 3 G_read_ratio := ok_read_ratio T h_is_digits h_negated h_is_ratio h_ratio_text
  have h_read_number : ZFn P w K mg base cm (Str.ofString "read_number") 1 G_read_number := ok_read_number T 
  have h_ratio_of : ZFn P w K mg base cm (Str.ofString "ratio_of") 4 G_ratio_of := ok_ratio_of T h_read_ratio
  have h_read_term : ZFn P w K mg base cm (Str.ofString "read_term") 5 G_read_term := ok_read_term T h_ratio_of h_read_number
  have h_read_ask : ZFn P w K mg base cm (Str.ofString "read_ask") 6 G_read_ask := ok_read_ask T h_ratio_of h_read_term
  have h_read_fix : ZFn P w K mg base cm (Str.ofString "read_fix") 2 G_read_fix := ok_read_fix T h_read_number
  have h_read_command : ZFn P w K mg base cm (Str.ofString "read_command") 7 G_read_command := ok_read_command T h_read_fix h_read_ask h_read_number
  have h__law_row : ZFn P w K mg base cm (Str.ofString "_law_row") 1 G__law_row := ok__law_row T 
  have h__law_at : ZFn P w K mg base cm (Str.ofString "_law_at") 1 G__law_at := ok__law_at T 
  have h__law_ratio : ZFn P w K mg base cm (Str.ofString "_law_ratio") 1 G__law_ratio := ok__law_ratio T 
  have h__law_text : ZFn P w K mg base cm (Str.ofString "_law_text") 1 G__law_text := ok__law_text T 
  have h__law_lines : ZFn P w K mg base cm (Str.ofString "_law_lines") 2 G__law_lines := ok__law_lines T h__law_at h__law_ratio
  have h__law_written : ZFn P w K mg base cm (Str.ofString "_law_written") 2 G__law_written := ok__law_written T h__law_text
  have h__law_spoilt : ZFn P w K mg base cm (Str.ofString "_law_spoilt") 1 G__law_spoilt := ok__law_spoilt T 
  exact ok_law T h__law_row h_read_command h__law_lines h__law_written h__law_spoilt Fn
end
end K80


set_option Elab.async false
set_option linter.all false
set_option maxRecDepth 100000
set_option maxHeartbeats 4000000
namespace Z
open PySem PySem.Spec PyProof.Rows L2

/-! ### lines of words -/
abbrev sepS : Str := Str.ofString " "
theorem tl_sp : TL.tl sepS = [32] := by decide +kernel
def line (ws : List Str) : Str := Txt.join sepS ws
def Wd (w : Str) : Prop := 32 ∉ TL.tl w ∧ w.length ≤ 100 ∧ (TL.tl w).all (· < 1114112) = true
instance (w : Str) : Decidable (Wd w) := inferInstanceAs (Decidable (_ ∧ _ ∧ _))
theorem tl_line (ws : List Str) : TL.tl (line ws) = TL.joinL [32] (ws.map TL.tl) := by
  unfold line
  rw [TL.join_eq, TL.tl_join, tl_sp]
theorem joinL_append {S : List Nat} : ∀ {ws us : List (List Nat)}, ws ≠ [] → us ≠ [] → TL.joinL S (ws ++ us) = TL.joinL S ws ++ (S ++ TL.joinL S us)
  | [], _, h, _ => absurd rfl h
  | [p], [], _, h => absurd rfl h
  | [p], q :: r, _, _ => rfl
  | p :: q :: r, us, _, h => by
    show p ++ (S ++ TL.joinL S (q :: r ++ us)) = p ++ (S ++ TL.joinL S (q :: r)) ++ (S ++ TL.joinL S us)
    rw [joinL_append (ws := q :: r) (by simp) h]
    simp only [List.append_assoc]
theorem line_append {ws us : List Str} (h1 : ws ≠ []) (h2 : us ≠ []) : line (ws ++ us) = line ws ++ (sepS ++ line us) := by
  apply TL.ext_tl
  rw [tl_line, TL.tl_append, TL.tl_append, tl_line, tl_line, tl_sp, List.map_append, joinL_append (by simpa using h1) (by simpa using h2)]
theorem line_one (w : Str) : line [w] = w := by
  apply TL.ext_tl
  rw [tl_line]
  rfl
theorem line_cons {w : Str} {us : List Str} (h : us ≠ []) : line (w :: us) = w ++ (sepS ++ line us) := by
  have := line_append (ws := [w]) (us := us) (by simp) h
  rw [line_one] at this
  exact this
theorem split_line {ws : List Str} (h : ws ≠ []) (hw : ∀ w ∈ ws, Wd w) : Txt.split (line ws) sepS = ws :=
  TL.split_join tl_sp (by decide +kernel) h fun w m => (hw w m).1
theorem line_len : ∀ {ws : List Str}, (∀ w ∈ ws, Wd w) → (line ws).length ≤ 101 * ws.length := by
  intro ws hw
  have h1 : (line ws).length ≤ (ws.map (·.length)).sum + ws.length * sepS.length := by
    unfold line
    rw [TL.join_eq]
    exact StrLaws.join_length_le sepS ws
  have h2 : sepS.length = 1 := by decide +kernel
  rw [h2] at h1
  have h3 : ∀ {us : List Str}, (∀ w ∈ us, Wd w) → (us.map (·.length)).sum ≤ 100 * us.length := by
    intro us
    induction us with
    | nil => intro _; simp
    | cons u us ih =>
      intro hu
      have a := (hu u (List.mem_cons_self ..)).2.1
      have b := ih fun w m => hu w (List.mem_cons_of_mem _ m)
      simp only [List.map_cons, List.sum_cons, List.length_cons]
      omega
  have := h3 hw
  omega
theorem join_ok {ws : List Str} (hw : ∀ w ∈ ws, Wd w) (hn : ws.length ≤ 1000) : joinW sepS ws = .ok (.str (line ws)) := by
  unfold joinW
  have h2 : sepS.length = 1 := by decide +kernel
  have h3 : ∀ {us : List Str}, (∀ w ∈ us, Wd w) → (us.map (·.length)).sum ≤ 100 * us.length := by
    intro us
    induction us with
    | nil => intro _; simp
    | cons u us ih =>
      intro hu
      have a := (hu u (List.mem_cons_self ..)).2.1
      have b := ih fun w m => hu w (List.mem_cons_of_mem _ m)
      simp only [List.map_cons, List.sum_cons, List.length_cons]
      omega
  have := h3 hw
  rw [h2, if_pos (by omega)]
  rfl
theorem split_ok {ws : List Str} (h : ws ≠ []) (hw : ∀ w ∈ ws, Wd w) (hn : ws.length ≤ 1000) : splitD (line ws) (.str sepS) = .ok (ws.map .str) := by
  have := line_len hw
  have h2 : (sepS.length == 0) = false := by decide +kernel
  show (if (sepS.length == 0) = false ∧ (line ws).length + 2 ≤ sizeLine then R.ok ((Txt.split (line ws) sepS).map PyData.str) else .no) = _
  rw [if_pos ⟨h2, by have : sizeLine = 16777216 := rfl; omega⟩, split_line h hw]
/-! ### cuts -/
theorem tl_cut (z : Str) (lo hi : Option Int) : TL.tl (cutS z lo hi) = ((TL.tl z).drop (HT.sIx z.length 0 lo)).take (HT.sIx z.length z.length hi - HT.sIx z.length 0 lo) := rfl
theorem cut_from (a b : Str) : cutS (a ++ b) (some (a.length : Int)) none = b := by
  apply TL.ext_tl
  rw [tl_cut, HT.sIx_nat, HT.sIx_none, TL.tl_append, Str.length_append]
  have e : min a.length (a.length + b.length) = a.length := by omega
  rw [e]
  have e2 : (TL.tl a ++ TL.tl b).drop a.length = TL.tl b := by
    rw [TL.len_tl a]; exact List.drop_left
  rw [e2]
  exact List.take_of_length_le (by rw [← TL.len_tl]; omega)
theorem cut_from' {a b : Str} {n : Int} (h : n = (a.length : Int)) : cutS (a ++ b) (some n) none = b := by rw [h]; exact cut_from a b
theorem cut_to' {a b : Str} {n : Int} (h : n = (a.length : Int)) : cutS (a ++ b) none (some n) = a := by
  subst h
  apply TL.ext_tl
  rw [tl_cut, HT.sIx_nat, HT.sIx_none, TL.tl_append, Str.length_append]
  have e : min a.length (a.length + b.length) - 0 = a.length := by omega
  rw [e, List.drop_zero, TL.len_tl a]
  exact List.take_left
/-! ### split with a limit -/
theorem partsFrom_take (x y : Str) : ∀ (k : Nat) (cuts : List Nat) (a f : Nat), StrLaws.ChainTo x y x.length a cuts f → k ≤ cuts.length →
    StrLaws.partsFrom x y.length a (cuts.take k) = (StrLaws.partsFrom x y.length a cuts).take k ++ [Str.join y ((StrLaws.partsFrom x y.length a cuts).drop k)]
  | 0, cuts, a, f, h, _ => by
    rw [List.take_zero, List.take_zero, List.drop_zero, StrLaws.join_partsFrom x y cuts a f h]
    rfl
  | k + 1, [], a, f, h, hk => by simp at hk
  | k + 1, c :: r, a, f, h, hk => by
    have ih := partsFrom_take x y k r (c + y.length) f h.2.2 (by simpa using hk)
    show _ :: StrLaws.partsFrom x y.length (c + y.length) (r.take k) = _
    rw [ih]
    rfl
theorem occ_stop (x y : Str) (hi limit : Nat) : ∀ (l : List Nat) (A : Array Nat) (f : Nat), limit ≤ A.size → (forIn l (A, f) (StrLaws.occBody x y hi limit)).run.fst = A
  | [], _, _, _ => rfl
  | a :: l, A, f, h => by
    rw [List.forIn_cons]
    unfold StrLaws.occBody
    rw [if_neg (by intro q; have := q.1.1.1; simp at this; omega)]
    exact occ_stop x y hi limit l A f h
theorem occ_pre (x y : Str) (hi limit : Nat) : ∀ (l : List Nat) (A : Array Nat) (f : Nat), ∃ B : List Nat, (forIn l (A, f) (StrLaws.occBody x y hi limit)).run.fst.toList = A.toList ++ B
  | [], A, _ => ⟨[], by simp⟩
  | a :: l, A, f => by
    rw [List.forIn_cons]
    unfold StrLaws.occBody
    by_cases c : ((A.size < limit ∧ f ≤ a) ∧ a + y.length ≤ hi) ∧ Builtin.Str.subAt x y a = true
    · rw [if_pos c]
      obtain ⟨B, hB⟩ := occ_pre x y hi limit l (A.push a) (a + y.length)
      refine ⟨a :: B, hB.trans ?_⟩
      simp
    · rw [if_neg c]
      exact occ_pre x y hi limit l A f
theorem occ_take (x y : Str) (hi k n : Nat) (hkn : k ≤ n) : ∀ (l : List Nat) (A : Array Nat) (f : Nat), A.size ≤ k →
    (forIn l (A, f) (StrLaws.occBody x y hi k)).run.fst.toList = (forIn l (A, f) (StrLaws.occBody x y hi n)).run.fst.toList.take k
  | [], A, f, h => by
    show A.toList = A.toList.take k
    rw [List.take_of_length_le (by simpa using h)]
  | a :: l, A, f, h => by
    by_cases hs : k ≤ A.size
    · rw [occ_stop x y hi k _ A f hs]
      obtain ⟨B, hB⟩ := occ_pre x y hi n (a :: l) A f
      rw [hB]
      have : A.toList.length = k := by simp; omega
      rw [← this, List.take_left]
    · rw [List.forIn_cons, List.forIn_cons]
      unfold StrLaws.occBody
      by_cases c : (f ≤ a ∧ a + y.length ≤ hi) ∧ Builtin.Str.subAt x y a = true
      · have c1 : ((A.size < k ∧ f ≤ a) ∧ a + y.length ≤ hi) ∧ Builtin.Str.subAt x y a = true := ⟨⟨⟨by omega, c.1.1⟩, c.1.2⟩, c.2⟩
        have c2 : ((A.size < n ∧ f ≤ a) ∧ a + y.length ≤ hi) ∧ Builtin.Str.subAt x y a = true := ⟨⟨⟨by omega, c.1.1⟩, c.1.2⟩, c.2⟩
        rw [if_pos c1, if_pos c2]
        exact occ_take x y hi k n hkn l (A.push a) (a + y.length) (by simp; omega)
      · have c1 : ¬ (((A.size < k ∧ f ≤ a) ∧ a + y.length ≤ hi) ∧ Builtin.Str.subAt x y a = true) := fun q => c ⟨⟨q.1.1.2, q.1.2⟩, q.2⟩
        have c2 : ¬ (((A.size < n ∧ f ≤ a) ∧ a + y.length ≤ hi) ∧ Builtin.Str.subAt x y a = true) := fun q => c ⟨⟨q.1.1.2, q.1.2⟩, q.2⟩
        rw [if_neg c1, if_neg c2]
        exact occ_take x y hi k n hkn l A f h
theorem occ_limit (x y : Str) (k n : Nat) (h : k ≤ n) : Builtin.Str.occurrences x y 0 x.length k = (Builtin.Str.occurrences x y 0 x.length n).take k := by
  rw [StrLaws.occ_eq, StrLaws.occ_eq]
  exact occ_take x y x.length k n h _ #[] 0 (Nat.zero_le _)
theorem partsFrom_length (x : Str) (w : Nat) : ∀ (cuts : List Nat) (a : Nat), (StrLaws.partsFrom x w a cuts).length = cuts.length + 1
  | [], _ => rfl
  | c :: r, a => by
    show (StrLaws.partsFrom x w (c + w) r).length + 1 = _
    rw [partsFrom_length x w r]
    rfl
/-- x.split(y, k) where there are more than k cuts -/
theorem splitMax_of (x y : Str) (k : Nat) (hk : 1 ≤ k) (h : k < (Txt.split x y).length) : Txt.splitMax x y (k : Int) = (Txt.split x y).take k ++ [Str.join y ((Txt.split x y).drop k)] := by
  unfold Txt.split at h ⊢
  unfold Txt.splitMax
  by_cases c : (decide (x.length < y.length) || decide (Builtin.Str.strKind x < Builtin.Str.strKind y)) = true
  · rw [if_pos c] at h
    simp at h
    omega
  · rw [if_neg c] at h ⊢
    rw [if_neg c]
    by_cases e : (Builtin.Str.occurrences x y 0 x.length (x.length + 1)).isEmpty = true
    · rw [if_pos e] at h
      simp at h
      omega
    · rw [if_neg e] at h ⊢
      rw [StrLaws.partsBetween_eq] at h ⊢
      rw [partsFrom_length] at h
      have hlim : limitOf x (k : Int) = k := by
        unfold limitOf
        rw [if_neg (by omega)]
        simp
      have hle : k ≤ x.length + 1 := by
        have := StrLaws.occ_length_le x y 0 x.length (x.length + 1)
        omega
      rw [hlim, occ_limit x y k (x.length + 1) hle]
      have hne : ((Builtin.Str.occurrences x y 0 x.length (x.length + 1)).take k).isEmpty = false := by
        cases ho : Builtin.Str.occurrences x y 0 x.length (x.length + 1) with
        | nil => rw [ho] at e; exact absurd rfl e
        | cons a r =>
          obtain ⟨j, rfl⟩ : ∃ j, k = j + 1 := ⟨k - 1, by omega⟩
          rfl
      rw [if_neg (by rw [hne]; exact Bool.false_ne_true), StrLaws.partsBetween_eq]
      obtain ⟨f, hc⟩ := StrLaws.occ_chain x y (x.length + 1)
      exact partsFrom_take x y k _ 0 f hc (by omega)
theorem splitMax_ok {a b : Str} {us : List Str} (hu : us ≠ []) (hw : ∀ w ∈ a :: b :: us, Wd w) (hn : us.length ≤ 900) : splitMaxD (line (a :: b :: us)) (.str sepS) (.int 2) = .ok [.str a, .str b, .str (line us)] := by
  have l := line_len hw
  have h2 : (sepS.length == 0) = false := by decide +kernel
  have hs : Txt.split (line (a :: b :: us)) sepS = a :: b :: us := split_line (by simp) hw
  have hlen : 2 < (Txt.split (line (a :: b :: us)) sepS).length := by
    rw [hs]
    cases us with
    | nil => exact absurd rfl hu
    | cons c r => simp only [List.length_cons]; omega
  have key := splitMax_of (line (a :: b :: us)) sepS 2 (by decide) hlen
  rw [hs] at key
  show (if (sepS.length == 0) = false ∧ -(2 ^ 63) ≤ (2 : Int) ∧ (2 : Int) < 2 ^ 63 ∧ (line (a :: b :: us)).length + 2 ≤ sizeLine then R.ok ((Txt.splitMax (line (a :: b :: us)) sepS 2).map PyData.str) else .no) = _
  rw [if_pos ⟨h2, by decide, by decide, by have : sizeLine = 16777216 := rfl; simp only [List.length_cons] at l; omega⟩]
  have k2 : Txt.splitMax (line (a :: b :: us)) sepS 2 = [a, b, line us] := by
    refine key.trans ?_
    show [a, b] ++ [Str.join sepS us] = _
    unfold line
    rw [TL.join_eq]
    rfl
  rw [k2]
  rfl
/-! ### numbers -/
abbrev numS (n : Nat) : Str := Str.ofString (toString ((n : Nat) : Int))
theorem log2_small {n : Nat} (h : n < 2 ^ 64) : n.log2 < 1920 := by
  by_cases e : n = 0
  · subst e; decide
  · exact Nat.lt_trans ((Nat.log2_lt e).mpr h) (by decide : 64 < 1920)
theorem strD_num {n : Nat} (h : n < 2 ^ 64) : strD (.int (n : Int)) = .ok (.str (numS n)) := by
  show (if ((n : Nat) : Int).natAbs.log2 < 1920 then R.ok (PyData.str (numS n)) else .no) = _
  rw [if_pos (by rw [Int.natAbs_natCast]; exact log2_small h)]
theorem wd_num {n : Nat} (h : n < 1000) : Wd (numS n) := by
  refine ⟨?_, ?_, ?_⟩
  · rw [TL.tl_num]; exact TL.numL_free (.inl (by decide))
  · rw [TL.len_tl, TL.tl_num]
    exact Nat.le_trans (TL.numL_len (k := 3) (by decide) (by omega)) (by decide)
  · rw [TL.tl_num, List.all_eq_true]
    intro c hc
    have := TL.numL_digits n c hc
    simp
    omega
/-! ### equality of data -/
theorem line_cps : ∀ {ws : List Str}, (∀ w ∈ ws, Wd w) → (TL.tl (line ws)).all (· < 1114112) = true := by
  intro ws hw
  rw [tl_line]
  induction ws with
  | nil => rfl
  | cons w us ih =>
    have a := (hw w (List.mem_cons_self ..)).2.2
    have b := ih fun w m => hw w (List.mem_cons_of_mem _ m)
    cases us with
    | nil => exact a
    | cons u r =>
      show (TL.tl w ++ ([32] ++ TL.joinL [32] ((u :: r).map TL.tl))).all (· < 1114112) = true
      rw [List.all_append, a, List.all_append, b]
      rfl
theorem line_strOk {ws : List Str} (hw : ∀ w ∈ ws, Wd w) : PyData.strOk (line ws) = true := by
  have := line_cps hw
  unfold PyData.strOk
  rw [← Array.all_toList]
  exact this
theorem lay_str {x : Str} (h : PyData.strOk x = true) : SeqAt.shaped (.str x) = true := by
  unfold SeqAt.shaped
  simp [PyData.canLay0, PyData.depth, h]
theorem eqD_str {x y : Str} (hx : PyData.strOk x = true) (hy : PyData.strOk y = true) : eqD (.str x) (.str y) = .ok (x == y) := by
  unfold eqD
  rw [lay_str hx, lay_str hy]
  simp [PyData.eqv]
theorem neD_str {x y : Str} (hx : PyData.strOk x = true) (hy : PyData.strOk y = true) : neD (.str x) (.str y) = .ok (x != y) := by
  unfold neD
  rw [lay_str hx, lay_str hy]
  simp [PyData.eqv, bne]
mutual
theorem eqv_self : ∀ d : D, d.canLay0 = true → PyData.eqv d d = true
  | .none, _ => by simp [PyData.eqv]
  | .bool _, _ => by simp [PyData.eqv]
  | .int _, _ => by simp [PyData.eqv]
  | .str _, _ => by simp [PyData.eqv]
  | .list xs, h => by
    simp only [PyData.eqv]
    exact eqvAll_self xs (by simpa [PyData.canLay0] using h)
  | .tuple xs, h => by
    simp only [PyData.eqv]
    exact eqvAll_self xs (by simpa [PyData.canLay0] using h)
  | .dict _, h => by simp [PyData.canLay0] at h
theorem eqvAll_self : ∀ ds : List D, PyData.canLayAll0 ds = true → PyData.eqvAll ds ds = true
  | [], _ => by simp [PyData.eqvAll]
  | d :: ds, h => by
    simp only [PyData.canLayAll0, Bool.and_eq_true] at h
    simp only [PyData.eqvAll, eqv_self d h.1, eqvAll_self ds h.2, Bool.and_self]
end
theorem neD_self {d : D} (h : SeqAt.shaped d = true) : neD d d = .ok false := by
  unfold neD
  rw [h, eqv_self d (SeqAt.canLay_of_shaped h)]
  rfl
theorem eqD_self {d : D} (h : SeqAt.shaped d = true) : eqD d d = .ok true := by
  unfold eqD
  rw [h, eqv_self d (SeqAt.canLay_of_shaped h)]
  rfl
end Z


set_option Elab.async false
set_option linter.all false
set_option maxRecDepth 100000
set_option maxHeartbeats 4000000
namespace Z
open PySem PySem.Spec PyProof.Rows L2

/-! ### evaluation, rule by rule -/
section
variable {r r' : Rho} {F G : SF} {o : Out} {d x y z : D} {f g h : Rho → R D} {ds es : List D} {fa ga : Rho → R (List D)} {i m n : Nat} {b c : Bool} {t u : Rho → R Bool}
theorem ev_run (hl : ds.length = m) (h : F (startR n ds) = .rt d) : runF n m F ds = .ok d := by
  unfold runF runS
  rw [if_pos hl, h]
theorem ev_seq (h1 : F r = .nx r') (h2 : G r' = o) : sSeq F G r = o := by unfold sSeq; rw [h1]; exact h2
theorem ev_seqr (h1 : F r = .rt d) : sSeq F G r = .rt d := by unfold sSeq; rw [h1]
theorem ev_set (h : f r = .ok d) : sSet i f r = .nx (r.set i (.sh d)) := by unfold sSet onE; rw [h]
theorem ev_own (h : fa r = .ok ds) (hl : i < r.length) : sOwn i fa r = .nx (r.set i (.ow ds)) := by unfold sOwn onE; rw [h]; exact if_pos hl
theorem ev_ret (h : f r = .ok d) : sRet f r = .rt d := by unfold sRet onE; rw [h]
theorem ev_ift (h : t r = .ok true) (h1 : F r = o) : sIf t F G r = o := by unfold sIf onE; rw [h]; exact h1
theorem ev_iff (h : t r = .ok false) (h1 : G r = o) : sIf t F G r = o := by unfold sIf onE; rw [h]; exact h1
theorem ev_asg {A : D → Rho → Option Rho} (h : f r = .ok d) (h1 : A d r = some r') : sAsg A f r = .nx r' := by unfold sAsg onE; rw [h]; simp only []; rw [h1]
theorem ev_app (h : r[i]? = some (.ow ds)) (h1 : f r = .ok d) (hl : ds.length < sizeLine) : sApp i f r = .nx (r.set i (.ow (ds ++ [d]))) := by unfold sApp onE; rw [h]; simp only []; rw [h1]; exact if_pos hl
theorem ev_b1 {O : D → R D} (h1 : f r = .ok x) (h2 : O x = .ok y) : cB1 O f r = .ok y := by unfold cB1; rw [h1]; exact h2
theorem ev_b2 {O : D → D → R D} (h1 : f r = .ok x) (h2 : g r = .ok y) (h3 : O x y = .ok z) : cB2 O f g r = .ok z := by unfold cB2; rw [h1]; show (g r).bind _ = _; rw [h2]; exact h3
theorem ev_t1 {O : D → R Bool} (h1 : f r = .ok x) (h2 : O x = .ok b) : cT1 O f r = .ok b := by unfold cT1; rw [h1]; exact h2
theorem ev_t2 {O : D → D → R Bool} (h1 : f r = .ok x) (h2 : g r = .ok y) (h3 : O x y = .ok b) : cT2 O f g r = .ok b := by unfold cT2; rw [h1]; show (g r).bind _ = _; rw [h2]; exact h3
theorem ev_not (h : t r = .ok b) : cNot t r = .ok (!b) := by unfold cNot; rw [h]; rfl
theorem ev_ort (h : t r = .ok true) : cOr t u r = .ok true := by unfold cOr; rw [h]; rfl
theorem ev_orf (h : t r = .ok false) (h2 : u r = .ok b) : cOr t u r = .ok b := by unfold cOr; rw [h]; exact h2
theorem ev_bl (h : t r = .ok b) : cBl t r = .ok (.bool b) := by unfold cBl; rw [h]; rfl
theorem ev_andV (h : f r = .ok (.bool true)) (h2 : g r = .ok d) : cAndV f g r = .ok d := by unfold cAndV; rw [h]; exact h2
theorem ev_l (h : fa r = .ok ds) : cL fa r = .ok (.list ds) := by unfold cL; rw [h]; rfl
theorem ev_cons (h1 : f r = .ok x) (h2 : fa r = .ok ds) : cCons f fa r = .ok (x :: ds) := by unfold cCons; rw [h1]; show (fa r).bind _ = _; rw [h2]; rfl
theorem ev_star (h1 : f r = .ok x) (hs : starD x = .ok es) (h2 : fa r = .ok ds) : cStar f fa r = .ok (es ++ ds) := by unfold cStar; rw [h1]; show (starD x).bind _ = _; rw [hs]; show (fa r).bind _ = _; rw [h2]; rfl
theorem ev_tup (h : fa r = .ok ds) (hl : ds.length ≤ sizeLine) : cTup fa r = .ok (.tuple ds) := by unfold cTup; rw [h]; show (sizeD ds).bind _ = _; unfold sizeD; rw [if_pos hl]; rfl
theorem ev_lst (h : fa r = .ok ds) (hl : ds.length ≤ sizeLine) : cLst fa r = .ok ds := by unfold cLst; rw [h]; show sizeD ds = _; unfold sizeD; rw [if_pos hl]
theorem ev_call {Gd : List D → R D} (h : fa r = .ok ds) (h2 : Gd ds = .ok d) : cCall Gd fa r = .ok d := by unfold cCall; rw [h]; exact h2
theorem ev_m1 {O : Str → D → R D} {a : Str} (h1 : f r = .ok (.str a)) (h2 : g r = .ok y) (h3 : O a y = .ok z) : cM1 O f g r = .ok z := by unfold cM1; rw [h1]; show (g r).bind _ = _; rw [h2]; exact h3
theorem ev_m0 {O : Str → R D} {a : Str} (h1 : f r = .ok (.str a)) (h3 : O a = .ok z) : cM0 O f r = .ok z := by unfold cM0; rw [h1]; exact h3
theorem ev_m1F {O : Str → D → R (List D)} {a : Str} (h1 : f r = .ok (.str a)) (h2 : g r = .ok y) (h3 : O a y = .ok ds) : cM1F O f g r = .ok ds := by unfold cM1F; rw [h1]; show (g r).bind _ = _; rw [h2]; exact h3
theorem ev_m2F {O : Str → D → D → R (List D)} {a : Str} (h1 : f r = .ok (.str a)) (h2 : g r = .ok y) (h4 : h r = .ok z) (h3 : O a y z = .ok ds) : cM2F O f g h r = .ok ds := by unfold cM2F; rw [h1]; show (g r).bind _ = _; rw [h2]; show (h r).bind _ = _; rw [h4]; exact h3
theorem ev_sl {l hh : OF} {lo hi : Option Int} (h1 : f r = .ok x) (h2 : l r = .ok lo) (h3 : hh r = .ok hi) (h4 : slD lo hi x = .ok y) : cSl f l hh r = .ok y := by
  unfold cSl; rw [h1]; show (l r).bind _ = _; rw [h2]; show (hh r).bind _ = _; rw [h3]; exact h4
theorem ev_o {k : Int} (h : f r = .ok (.int k)) : cO f r = .ok (some k) := by unfold cO; rw [h]; rfl
theorem ev_it (h : f r = .ok x) (h2 : walkD x = .ok ds) : cIt f r = .ok ds := by unfold cIt; rw [h]; exact h2
/-- a comprehension over items that are all taken -/
theorem comp_map {A : D → Rho → Option Rho} {T : Rho → R Bool} {r0 : Rho} {k : D → D} : ∀ (ds acc : List D), (∀ d ∈ ds, ∃ r1, A d r0 = some r1 ∧ T r1 = .ok true ∧ f r1 = .ok (k d)) → acc.length + ds.length ≤ sizeLine → compL A T f r0 acc ds = .ok (acc ++ ds.map k)
  | [], acc, _, _ => by simp [compL]
  | d :: ds, acc, hd, hl => by
    obtain ⟨r1, h1, h2, h3⟩ := hd d (List.mem_cons_self ..)
    unfold compL
    rw [h1]
    simp only []
    rw [h2]
    simp only []
    rw [h3]
    simp only []
    rw [if_pos (by simp only [List.length_cons] at hl; omega), comp_map ds (acc ++ [k d]) (fun e m => hd e (List.mem_cons_of_mem _ m)) (by simp only [List.length_append, List.length_cons, List.length_nil] at hl ⊢; omega)]
    simp
theorem ev_lc {vs : List Nat} {fi : Rho → R (List D)} {A : D → Rho → Option Rho} {T : Rho → R Bool} {k : D → D} (hn : noOw r vs = true) (h : fi r = .ok ds) (hl : ds.length ≤ sizeLine)
    (hd : ∀ d ∈ ds, ∃ r1, A d (wipeR r vs) = some r1 ∧ T r1 = .ok true ∧ f r1 = .ok (k d)) : cLc vs fi A T f r = .ok (ds.map k) := by
  unfold cLc
  rw [if_pos hn, h]
  show compL A T f (wipeR r vs) [] ds = _
  rw [comp_map ds [] hd (by simpa using hl)]
  rfl
/-- a loop whose turns all go on, with an invariant -/
theorem for_inv {A : D → Rho → Option Rho} (I : Nat → Rho → Prop) : ∀ (ds : List D) (k : Nat) (r : Rho), I k r → (∀ (j : Nat) (d : D) (r : Rho), ds[j]? = some d → I (k + j) r → ∃ r1 r2, A d r = some r1 ∧ F r1 = .nx r2 ∧ I (k + j + 1) r2) → ∃ r', forL A F ds r = .nx r' ∧ I (k + ds.length) r'
  | [], k, r, h, _ => ⟨r, rfl, h⟩
  | d :: ds, k, r, h, hd => by
    obtain ⟨r1, r2, h1, h2, h3⟩ := hd 0 d r rfl h
    obtain ⟨r', h4, h5⟩ := for_inv I ds (k + 1) r2 h3 fun j e r hj hI => by
      have := hd (j + 1) e r hj (by have : k + (j + 1) = k + 1 + j := by omega
                                    rw [this]; exact hI)
      have e2 : k + (j + 1) + 1 = k + 1 + j + 1 := by omega
      rw [e2] at this
      exact this
    refine ⟨r', ?_, by have e : k + (ds.length + 1) = k + 1 + ds.length := by omega
                       show I (k + (ds.length + 1)) r'
                       rw [e]; exact h5⟩
    unfold forL
    rw [h1]
    simp only []
    rw [h2]
    exact h4
theorem ev_for {A : D → Rho → Option Rho} {fi : Rho → R (List D)} (I : Nat → Rho → Prop) (h : fi r = .ok ds) (h0 : I 0 r) (hd : ∀ (j : Nat) (d : D) (r : Rho), ds[j]? = some d → I j r → ∃ r1 r2, A d r = some r1 ∧ F r1 = .nx r2 ∧ I (j + 1) r2) :
    ∃ r', sFor fi A F r = .nx r' ∧ I ds.length r' := by
  unfold sFor onE
  rw [h]
  have := for_inv (F := F) (A := A) I ds 0 r h0 fun j d r hj hI => by
    have e : 0 + j = j := Nat.zero_add j
    rw [e] at hI ⊢
    exact hd j d r hj hI
  rw [Nat.zero_add] at this
  exact this
end
theorem slD_str {z : Str} {lo hi : Option Int} (h : z.length ≤ sizeLine) : slD lo hi (.str z) = .ok (.str (cutS z lo hi)) := if_pos h
theorem lenD_str {z : Str} (h : z.length ≤ sizeLine) : lenD (.str z) = .ok (.int z.length) := if_pos h
theorem addD_str {x y : Str} (h : x.length + y.length ≤ sizeLine) : addD (.str x) (.str y) = .ok (.str (x ++ y)) := if_pos h
theorem addD_list {x y : List D} (h : x.length + y.length ≤ sizeLine) : addD (.list x) (.list y) = .ok (.list (x ++ y)) := if_pos h
theorem cut_tail {d : D} {ds : List D} : slD (some 1) none (.list (d :: ds)) = .ok (.list ds) := by
  show R.ok (PyData.list (cutD (d :: ds) (some 1) none)) = _
  unfold cutD
  have e : HT.sIx (d :: ds).length 0 (some 1) = 1 := by
    have := HT.sIx_nat (d :: ds).length 0 1
    rw [show ((1 : Nat) : Int) = 1 from rfl] at this
    rw [this]; simp only [List.length_cons]; omega
  rw [e, HT.sIx_none]
  have : (d :: ds).length - 1 = ds.length := rfl
  rw [this]
  simp
end Z


set_option Elab.async false
set_option linter.all false
set_option maxRecDepth 100000
set_option maxHeartbeats 8000000
namespace K80
open PySem PySem.Spec PyProof.Rows L2 Z
def badN : List Str := [Str.ofString "1000", Str.ofString "01", Str.ofString "-1", Str.ofString "x", Str.ofString "", Str.ofString "+1", Str.ofString "1/2"]
def relS : List Str := [Str.ofString "<=", Str.ofString ">=", Str.ofString "="]
def badR : List Str := [Str.ofString "<", Str.ofString "==", Str.ofString "=>", Str.ofString ""]
end K80


set_option Elab.async false
set_option linter.all false
set_option maxRecDepth 100000
set_option maxHeartbeats 8000000
namespace K80
open PySem PySem.Spec PyProof.Rows L2 Z
def isOkI (n : Int) : R D → Bool
  | .ok (.int k) => k == n
  | _ => false
theorem isOkI_eq {n : Int} : ∀ {x : R D}, isOkI n x = true → x = .ok (.int n)
  | .ok (.int k), h => by
    have : k = n := by simpa [isOkI] using h
    rw [this]
  | .ok .none, h => nomatch h
  | .ok (.bool _), h => nomatch h
  | .ok (.str _), h => nomatch h
  | .ok (.list _), h => nomatch h
  | .ok (.tuple _), h => nomatch h
  | .ok (.dict _), h => nomatch h
  | .ex _, h => nomatch h
  | .no, h => nomatch h
def isOkN : R D → Bool
  | .ok .none => true
  | _ => false
theorem isOkN_eq : ∀ {x : R D}, isOkN x = true → x = .ok .none
  | .ok .none, h => rfl
  | .ok (.int k), h => nomatch h
  | .ok (.bool _), h => nomatch h
  | .ok (.str _), h => nomatch h
  | .ok (.list _), h => nomatch h
  | .ok (.tuple _), h => nomatch h
  | .ok (.dict _), h => nomatch h
  | .ex _, h => nomatch h
  | .no, h => nomatch h
theorem rn_all : ((List.range 1000).all fun n => isOkI n (G_read_number [.str (numS n)])) = true := by decide +kernel
theorem rn_num {n : Nat} (h : n < 1000) : G_read_number [.str (numS n)] = .ok (.int n) :=
  isOkI_eq (List.all_eq_true.mp rn_all n (List.mem_range.mpr h))
theorem rn_badc : (badN.all fun b => isOkN (G_read_number [.str b]) && decide (Wd b)) = true := by decide +kernel
theorem rn_bad {b : Str} (h : b ∈ badN) : G_read_number [.str b] = .ok .none ∧ Wd b := by
  have := List.all_eq_true.mp rn_badc b h
  simp only [Bool.and_eq_true, decide_eq_true_eq] at this
  exact ⟨isOkN_eq this.1, this.2⟩
def ckRatio (k : Nat) : Bool := match G__law_ratio [.int k] with
  | .ok (.tuple [.int a, .int b]) => (match G__law_text [.tuple [.int a, .int b]] with
    | .ok (.str rt) => (match G_ratio_of [.str rt] with
      | .ok (.tuple [.int c, .int d]) => a == c && b == d
      | _ => false) && decide (Wd rt) && decide (rt.length ≤ 20) && !(TL.tl rt).contains 42 && badR.all fun z => !relS.contains (z ++ rt)
    | _ => false)
  | _ => false
theorem ck1 : ((List.range 253).all ckRatio) = true := by decide +kernel
theorem ck2 : ((List.range 253).all fun k => ckRatio (k + 253)) = true := by decide +kernel
theorem ck3 : ((List.range 253).all fun k => ckRatio (k + 506)) = true := by decide +kernel
theorem ck4 : ((List.range 253).all fun k => ckRatio (k + 759)) = true := by decide +kernel
theorem ck_all {k : Nat} (h : k < 1009) : ckRatio k = true := by
  by_cases h1 : k < 253
  · exact List.all_eq_true.mp ck1 k (List.mem_range.mpr h1)
  by_cases h2 : k < 506
  · have := List.all_eq_true.mp ck2 (k - 253) (List.mem_range.mpr (by omega))
    have e : k - 253 + 253 = k := by omega
    rwa [e] at this
  by_cases h3 : k < 759
  · have := List.all_eq_true.mp ck3 (k - 506) (List.mem_range.mpr (by omega))
    have e : k - 506 + 506 = k := by omega
    rwa [e] at this
  · have := List.all_eq_true.mp ck4 (k - 759) (List.mem_range.mpr (by omega))
    have e : k - 759 + 759 = k := by omega
    rwa [e] at this
/-- a ratio as the law makes it, and its text -/
structure RatOk (q : D) (rt : Str) : Prop where
  t : G__law_text [q] = .ok (.str rt)
  o : G_ratio_of [.str rt] = .ok q
  w : Wd rt
  s : 42 ∉ TL.tl rt
  l : rt.length ≤ 20
  b : ∀ z ∈ badR, relS.contains (z ++ rt) = false
  p : ∃ a b : Int, q = .tuple [.int a, .int b]
theorem rat_ok {k : Nat} (h : k < 1009) : ∃ q rt, G__law_ratio [.int k] = .ok q ∧ RatOk q rt := by
  have c := ck_all h
  unfold ckRatio at c
  split at c
  · rename_i a b e1
    split at c
    · rename_i rt e2
      simp only [Bool.and_eq_true, decide_eq_true_eq, Bool.not_eq_true'] at c
      obtain ⟨⟨⟨⟨c1, c2⟩, c3⟩, c4⟩, c5⟩ := c
      refine ⟨_, rt, e1, e2, ?_, c2, by simpa using c4, c3, fun z m => by simpa using List.all_eq_true.mp c5 z m, a, b, rfl⟩
      split at c1
      · rename_i x y e3
        simp only [Bool.and_eq_true, beq_iff_eq] at c1
        rw [e3, c1.1, c1.2]
      · cases c1
    · cases c
  · cases c
end K80


set_option Elab.async false
set_option linter.all false
set_option maxRecDepth 100000
set_option maxHeartbeats 8000000
namespace K80
open PySem PySem.Spec PyProof.Rows L2 Z
theorem ix_l {ds : List D} {d : D} {k : Int} (j : Nat) (e : k = (j : Int)) (h : ds[j]? = some d) : ixD (.list ds) (.int k) = .ok d := by
  subst e
  show atD ds (j : Int) = _
  unfold atD
  rw [atI_nat h]
theorem ix_t {ds : List D} {d : D} {k : Int} (j : Nat) (e : k = (j : Int)) (h : ds[j]? = some d) : ixD (.tuple ds) (.int k) = .ok d := by
  subst e
  show atD ds (j : Int) = _
  unfold atD
  rw [atI_nat h]
theorem small {n : Nat} (h : n ≤ 1000000) : n ≤ sizeLine := Nat.le_trans h (by decide)
/-- the head of a line that is none of the four odd ones -/
structure Plain (w : Str) : Prop where
  r : inD (.str w) (.tuple [.str (Str.ofString "yard"), .str (Str.ofString "note")]) = .ok false
  f : eqD (.str w) (.str (Str.ofString "fix")) = .ok false
  a : eqD (.str w) (.str (Str.ofString "ask")) = .ok false
abbrev L0 (L : Str) : Rho := [.sh (.str L), .un, .un, .un]
abbrev L1 (L : Str) (ws : List Str) : Rho := [.sh (.str L), .sh (.list (ws.map .str)), .un, .un]
theorem rc_words {L : Str} {ws : List Str} {F : SF} {o : Out} (e : L = line ws) (h : ws ≠ []) (hw : ∀ w ∈ ws, Wd w) (hn : ws.length ≤ 1000) (ho : F (L1 L ws) = o) :
    sSeq (sSet 1 (cL (cM1F splitD (cVarC 0) (cK (.str (Str.ofString " ")))))) F (L0 L) = o := by
  subst e
  exact ev_seq (ev_set (ev_l (ev_m1F (a := line ws) (y := .str sepS) (ds := ws.map .str) rfl rfl (split_ok h hw hn)))) ho
theorem rc_empty {L : Str} {F : SF} {o : Out} (he : eqD (.str L) (.str (Str.ofString "")) = .ok false) (ho : F (L0 L) = o) :
    sSeq (sIf (cT2 eqD (cVarC 0) (cK (.str (Str.ofString "")))) (sRet (cTup cNil)) sNil) F (L0 L) = o :=
  ev_seq (ev_iff (ev_t2 (x := .str L) (y := .str (Str.ofString "")) rfl rfl he) rfl) ho
theorem rc_head {L w : Str} {us : List Str} : cB2 ixD (cVarC 1) (cK (.int 0)) (L1 L (w :: us)) = .ok (.str w) :=
  ev_b2 (x := .list ((w :: us).map .str)) (y := .int 0) rfl rfl (ix_l 0 rfl rfl)
theorem rc_rest {L w : Str} {us : List Str} {S F : SF} {o : Out} (p : Plain w) (ho : F (L1 L (w :: us)) = o) :
    sSeq (sIf (cT2 inD (cB2 ixD (cVarC 1) (cK (.int 0))) (cK (.tuple [(.str (Str.ofString "yard")), (.str (Str.ofString "note"))]))) S sNil) F (L1 L (w :: us)) = o :=
  ev_seq (ev_iff (ev_t2 rc_head rfl p.r) rfl) ho
theorem rc_fix {L w : Str} {us : List Str} {S F : SF} {o : Out} (p : Plain w) (ho : F (L1 L (w :: us)) = o) :
    sSeq (sIf (cT2 eqD (cB2 ixD (cVarC 1) (cK (.int 0))) (cK (.str (Str.ofString "fix")))) S sNil) F (L1 L (w :: us)) = o :=
  ev_seq (ev_iff (ev_t2 rc_head rfl p.f) rfl) ho
theorem rc_ask {L w : Str} {us : List Str} {S F : SF} {o : Out} (p : Plain w) (ho : F (L1 L (w :: us)) = o) :
    sSeq (sIf (cT2 eqD (cB2 ixD (cVarC 1) (cK (.int 0))) (cK (.str (Str.ofString "ask")))) S sNil) F (L1 L (w :: us)) = o :=
  ev_seq (ev_iff (ev_t2 rc_head rfl p.a) rfl) ho
theorem not_empty {w : Str} {us : List Str} (hw : ∀ v ∈ w :: us, Wd v) (h : us ≠ [] ∨ w.length ≠ 0) : eqD (.str (line (w :: us))) (.str (Str.ofString "")) = .ok false := by
  rw [eqD_str (line_strOk hw) (by decide +kernel)]
  have : line (w :: us) ≠ Str.ofString "" := by
    intro e
    have e2 : (line (w :: us)).length = 0 := by rw [e]; decide +kernel
    by_cases hu : us = []
    · subst hu
      rw [line_one] at e2
      rcases h with h | h
      · exact h rfl
      · exact h e2
    · rw [line_cons hu, Str.length_append, Str.length_append] at e2
      have : sepS.length = 1 := by decide +kernel
      omega
  rw [beq_eq_false_iff_ne.mpr this]
/-- a head that is no word of a form -/
theorem rc_none_head {w : Str} {us : List Str} (hw : ∀ v ∈ w :: us, Wd v) (hn : us.length ≤ 900) (h : us ≠ [] ∨ w.length ≠ 0) (p : Plain w) (hk : kdNotIn tab_FORMS (.str w) = .ok true) : G_read_command [.str (line (w :: us))] = .ok .none :=
  ev_run rfl (rc_empty (not_empty hw h) (rc_words rfl (by simp) hw (by simp only [List.length_cons]; omega) (rc_rest p (rc_fix p (rc_ask p
    (ev_seqr (ev_ift (ev_ort (ev_t1 rc_head hk)) (ev_ret rfl))))))))
theorem rc_len {L w pat : Str} {us : List Str} {b : Bool} (hk : kdNotIn tab_FORMS (.str w) = .ok false) (hx : kdIx tab_FORMS (.str w) = .ok (.str pat)) (hp : pat.length ≤ 10) (hb : b = (us.length != pat.length)) (hn : us.length ≤ 900) :
    cOr (cT1 (kdNotIn tab_FORMS) (cB2 ixD (cVarC 1) (cK (.int 0)))) (cT2 neD (cB1 lenD (cVarC 1)) (cB2 addD (cB1 lenD (cB1 (kdIx tab_FORMS) (cB2 ixD (cVarC 1) (cK (.int 0))))) (cK (.int 1)))) (L1 L (w :: us)) = .ok b := by
  refine ev_orf (ev_t1 rc_head hk) (ev_t2 (x := .int ((us.length + 1 : Nat) : Int)) (y := .int ((pat.length : Int) + 1)) (ev_b1 (x := .list ((w :: us).map .str)) rfl ?_) (ev_b2 (ev_b1 (ev_b1 rc_head hx) (lenD_str (small (by omega)))) rfl rfl) ?_)
  · show R.ok (PyData.int (((w :: us).map PyData.str).length : Nat)) = _
    rw [List.length_map]
    rfl
  · show R.ok (!PyData.eqv (.int ((us.length + 1 : Nat) : Int)) (.int ((pat.length : Int) + 1))) = _
    subst hb
    simp only [PyData.eqv]
    congr 1
    by_cases e : us.length = pat.length
    · simp [e]
    · have h1 : (((us.length + 1 : Nat) : Int) == (pat.length : Int) + 1) = false := by
        rw [beq_eq_false_iff_ne]
        omega
      rw [h1]
      simp [e]
theorem rc_none_len {w pat : Str} {us : List Str} (hw : ∀ v ∈ w :: us, Wd v) (hn : us.length ≤ 900) (h : us ≠ [] ∨ w.length ≠ 0) (p : Plain w) (hk : kdNotIn tab_FORMS (.str w) = .ok false) (hx : kdIx tab_FORMS (.str w) = .ok (.str pat)) (hp : pat.length ≤ 10)
    (hb : us.length ≠ pat.length) : G_read_command [.str (line (w :: us))] = .ok .none :=
  ev_run rfl (rc_empty (not_empty hw h) (rc_words rfl (by simp) hw (by simp only [List.length_cons]; omega) (rc_rest p (rc_fix p (rc_ask p
    (ev_seqr (ev_ift (rc_len hk hx hp (by simp [hb]) hn) (ev_ret rfl))))))))
/-- what read_number says to a word -/
def rnOf (w : D) : D := match G_read_number [w] with
  | .ok d => d
  | _ => .none
theorem rc_nums {L w : Str} {us : List Str} (hn : us.length ≤ 900) (hr : ∀ u ∈ us, ∃ d, G_read_number [.str u] = .ok d) :
    cL (cLc [3] (cIt (cSl (cVarC 1) (cO (cK (.int 1))) cO0)) (gNm 3) cYes (cCall G_read_number (cCons (cVar 3) cNil))) (L1 L (w :: us)) = .ok (.list ((us.map PyData.str).map rnOf)) := by
  refine ev_l (ev_lc rfl (ev_it (x := .list (us.map .str)) (ev_sl (x := .list ((w :: us).map .str)) rfl (ev_o rfl) rfl cut_tail) rfl) (small (by rw [List.length_map]; omega)) fun d hd => ?_)
  obtain ⟨u, hu, rfl⟩ := List.mem_map.mp hd
  obtain ⟨e, he⟩ := hr u hu
  refine ⟨_, rfl, rfl, ev_call (ev_cons (x := .str u) rfl rfl) ?_⟩
  unfold rnOf
  rw [he]
theorem rc_form {w pat : Str} {us : List Str} {b : Bool} {ns : List D} (hw : ∀ v ∈ w :: us, Wd v) (hn : us.length ≤ 900) (h : us ≠ [] ∨ w.length ≠ 0) (p : Plain w) (hk : kdNotIn tab_FORMS (.str w) = .ok false) (hx : kdIx tab_FORMS (.str w) = .ok (.str pat)) (hp : pat.length ≤ 10)
    (hb : us.length = pat.length) (hr : ∀ u ∈ us, ∃ d, G_read_number [.str u] = .ok d) (hns : (us.map PyData.str).map rnOf = ns) (hin : inD .none (.list ns) = .ok b) :
    G_read_command [.str (line (w :: us))] = .ok (if b then .none else .tuple (.str w :: ns)) := by
  refine ev_run rfl (rc_empty (not_empty hw h) (rc_words rfl (by simp) hw (by simp only [List.length_cons]; omega) (rc_rest p (rc_fix p (rc_ask p
    (ev_seq (ev_iff (rc_len hk hx hp (by simp [hb]) hn) rfl) (ev_seq (ev_set (rc_nums hn hr)) ?_)))))))
  rw [hns]
  cases b with
  | true => exact ev_seqr (ev_ift (ev_t2 (x := .none) (y := .list ns) rfl rfl hin) (ev_ret rfl))
  | false =>
    refine ev_seq (ev_iff (ev_t2 (x := .none) (y := .list ns) rfl rfl hin) rfl) (ev_ret ?_)
    have hl : ns.length ≤ 900 := by rw [← hns]; simpa using hn
    refine (ev_tup (ds := .str w :: (ns ++ [])) (ev_cons (ev_b2 (x := .list ((w :: us).map .str)) (y := .int 0) rfl rfl (ix_l 0 rfl rfl)) (ev_star (x := .list ns) rfl rfl rfl)) (small (by simp; omega))).trans ?_
    rw [List.append_nil]
    rfl
end K80


set_option Elab.async false
set_option linter.all false
set_option maxRecDepth 100000
set_option maxHeartbeats 8000000
namespace K80
open PySem PySem.Spec PyProof.Rows L2 Z
/-! ### small data -/
def Sm (d : D) : Prop := d.canLay0 = true ∧ d.depth ≤ 10
def isN : D → Bool
  | .none => true
  | _ => false
theorem eqv_none : ∀ d : D, PyData.eqv d .none = isN d
  | .none => by simp [PyData.eqv, isN]
  | .bool _ => by simp [PyData.eqv, isN]
  | .int _ => by simp [PyData.eqv, isN]
  | .str _ => by simp [PyData.eqv, isN]
  | .list _ => by simp [PyData.eqv, isN]
  | .tuple _ => by simp [PyData.eqv, isN]
  | .dict _ => by simp [PyData.eqv, isN]
theorem sm_all {ds : List D} (h : ∀ d ∈ ds, Sm d) : PyData.canLayAll0 ds = true ∧ PyData.depthAll ds ≤ 10 := by
  induction ds with
  | nil => exact ⟨by simp [PyData.canLayAll0], by simp [PyData.depthAll]⟩
  | cons d ds ih =>
    have a := h d (List.mem_cons_self ..)
    have b := ih fun e m => h e (List.mem_cons_of_mem _ m)
    refine ⟨by simp [PyData.canLayAll0, a.1, b.1], ?_⟩
    simp only [PyData.depthAll]
    exact Nat.max_le.mpr ⟨a.2, b.2⟩
theorem sm_shaped_list {ds : List D} (h : ∀ d ∈ ds, Sm d) : SeqAt.shaped (.list ds) = true := by
  have := sm_all h
  unfold SeqAt.shaped
  rw [Bool.and_eq_true]
  refine ⟨by simpa [PyData.canLay0] using this.1, decide_eq_true ?_⟩
  simp only [PyData.depth]
  have := this.2
  omega
theorem sm_shaped_tup {ds : List D} (h : ∀ d ∈ ds, Sm d) : SeqAt.shaped (.tuple ds) = true := by
  have := sm_all h
  unfold SeqAt.shaped
  rw [Bool.and_eq_true]
  refine ⟨by simpa [PyData.canLay0] using this.1, decide_eq_true ?_⟩
  simp only [PyData.depth]
  have := this.2
  omega
theorem sm_int (n : Int) : Sm (.int n) := ⟨by simp [PyData.canLay0], by simp [PyData.depth]⟩
theorem sm_none : Sm .none := ⟨by simp [PyData.canLay0], by simp [PyData.depth]⟩
theorem sm_str {x : Str} (h : PyData.strOk x = true) : Sm (.str x) := ⟨by simp [PyData.canLay0, h], by simp [PyData.depth]⟩
theorem in_none {ds : List D} (h : ∀ d ∈ ds, Sm d) : inD .none (.list ds) = .ok (ds.any isN) := by
  show memD .none (.list ds) ds = _
  unfold memD
  rw [sm_shaped_list h]
  have : SeqAt.shaped .none = true := by decide +kernel
  rw [this]
  simp only [eqv_none]
  rfl
/-! ### one line of the law -/
structure LineOk (d : D) : Prop where
  ex : ∃ (L : Str) (bads : List Str) (ds : List D), d = .tuple ds ∧ SeqAt.shaped d = true ∧ G__law_written [d] = .ok (.str L) ∧ G_read_command [.str L] = .ok d ∧
    G__law_spoilt [d, .str L] = .ok (.list (bads.map .str)) ∧ ∀ b ∈ bads, G_read_command [.str b] = .ok .none
/-! ### forms -/
structure FormW (w pat : Str) : Prop where
  d : Wd w
  n : w.length ≠ 0
  p : Plain w
  k : kdNotIn tab_FORMS (.str w) = .ok false
  x : kdIx tab_FORMS (.str w) = .ok (.str pat)
  l : pat.length ≤ 4
  na : neD (.str w) (.str (Str.ofString "ask")) = .ok true
  ud : Wd (Txt.upper w)
  un : (Txt.upper w).length ≠ 0
  up : Plain (Txt.upper w)
  uk : kdNotIn tab_FORMS (.str (Txt.upper w)) = .ok true
  xd : Wd (w ++ Str.ofString "x")
  xn : (w ++ Str.ofString "x").length ≠ 0
  xp : Plain (w ++ Str.ofString "x")
  xk : kdNotIn tab_FORMS (.str (w ++ Str.ofString "x")) = .ok true
def strOf (d : D) : D := match strD d with
  | .ok x => x
  | _ => .none
theorem strsOf_map : ∀ ws : List Str, strsOf (ws.map .str) = .ok ws
  | [] => rfl
  | w :: ws => by
    show (strsOf (ws.map .str)).bind _ = _
    rw [strsOf_map ws]
    rfl
theorem joinD_words {ws : List Str} (hw : ∀ w ∈ ws, Wd w) (hn : ws.length ≤ 1000) : joinD sepS (.list (ws.map .str)) = .ok (.str (line ws)) := by
  show (strsOf (ws.map PyData.str)).bind (fun ys => joinW sepS ys) = _
  rw [strsOf_map]
  exact join_ok hw hn
theorem written_form {w : Str} {ns : List Nat} (hd : Wd w) (hna : neD (.str w) (.str (Str.ofString "ask")) = .ok true) (hl : ns.length ≤ 900) (hn : ∀ n ∈ ns, n < 1000) :
    G__law_written [.tuple (.str w :: ns.map fun n => .int (n : Nat))] = .ok (.str (line (w :: ns.map numS))) := by
  refine ev_run rfl (ev_seqr (ev_ift (ev_t2 (x := .str w) (y := .str (Str.ofString "ask")) (ev_b2 (x := .tuple (.str w :: ns.map fun n => .int (n : Nat))) (y := .int 0) rfl rfl (ix_t 0 rfl rfl)) rfl hna) (ev_ret ?_)))
  refine ev_m1 (a := sepS) (y := .list ((w :: ns.map numS).map .str)) rfl ?_ (joinD_words ?_ ?_)
  · have e : (.str w :: ns.map fun n => (.int (n : Nat) : D)).map strOf = (w :: ns.map numS).map PyData.str := by
      show _ :: _ = _ :: _
      congr 1
      rw [List.map_map, List.map_map]
      refine List.map_congr_left fun n m => ?_
      show strOf (.int (n : Nat)) = .str (numS n)
      unfold strOf
      rw [strD_num (Nat.lt_trans (hn n m) (by decide))]
    rw [← e]
    refine ev_l (ev_lc rfl (ev_it (x := .tuple (.str w :: ns.map fun n => .int (n : Nat))) rfl rfl) (small (by simp; omega)) fun d m => ?_)
    rcases List.mem_cons.mp m with rfl | m
    · exact ⟨_, rfl, rfl, ev_b1 (x := .str w) rfl rfl⟩
    · obtain ⟨n, hm, rfl⟩ := List.mem_map.mp m
      refine ⟨_, rfl, rfl, ev_b1 (x := .int (n : Nat)) rfl ?_⟩
      unfold strOf
      rw [strD_num (Nat.lt_trans (hn n hm) (by decide))]
  · intro v m
    rcases List.mem_cons.mp m with rfl | m
    · exact hd
    · obtain ⟨n, hm, rfl⟩ := List.mem_map.mp m
      exact wd_num (hn n hm)
  · simp; omega
theorem words_form {w : Str} {ns : List Nat} (hd : Wd w) (hn : ∀ n ∈ ns, n < 1000) : ∀ v ∈ w :: ns.map numS, Wd v := by
  intro v m
  rcases List.mem_cons.mp m with rfl | m
  · exact hd
  · obtain ⟨n, hm, rfl⟩ := List.mem_map.mp m
    exact wd_num (hn n hm)
theorem rn_of_num {n : Nat} (h : n < 1000) : rnOf (.str (numS n)) = .int n := by
  unfold rnOf
  rw [rn_num h]
theorem read_form {w pat : Str} {ns : List Nat} (W : FormW w pat) (hl : ns.length = pat.length) (hn : ∀ n ∈ ns, n < 1000) :
    G_read_command [.str (line (w :: ns.map numS))] = .ok (.tuple (.str w :: ns.map fun n => .int (n : Nat))) := by
  have hl4 := W.l
  refine (rc_form (w := w) (pat := pat) (us := ns.map numS) (b := false) (ns := ns.map fun n => .int (n : Nat)) (words_form W.d hn) (by rw [List.length_map]; omega) (.inr W.n) W.p W.k W.x (by omega) (by rw [List.length_map]; exact hl) ?_ ?_ ?_).trans rfl
  · intro u m
    obtain ⟨n, hm, rfl⟩ := List.mem_map.mp m
    exact ⟨_, rn_num (hn n hm)⟩
  · rw [List.map_map, List.map_map]
    exact List.map_congr_left fun n m => rn_of_num (hn n m)
  · rw [in_none (ds := ns.map fun n => .int (n : Nat)) fun d m => by obtain ⟨n, _, rfl⟩ := List.mem_map.mp m; exact sm_int _]
    congr 1
    rw [List.any_eq_false]
    intro d m
    obtain ⟨n, _, rfl⟩ := List.mem_map.mp m
    simp [isN]
/-! the spoilt lines of a form -/
def rst (us : List Str) : Str := if us = [] then Str.empty else sepS ++ line us
theorem app_empty (x : Str) : x ++ Str.empty = x := by
  apply TL.ext_tl
  rw [TL.tl_append]
  exact List.append_nil _
theorem empty_app (x : Str) : Str.ofString "" ++ x = x := by
  apply TL.ext_tl
  rw [TL.tl_append]
  rfl
theorem app_assoc (x y z : Str) : x ++ y ++ z = x ++ (y ++ z) := by
  apply TL.ext_tl
  simp only [TL.tl_append, List.append_assoc]
theorem line_rst (w : Str) (us : List Str) : line (w :: us) = w ++ rst us := by
  unfold rst
  by_cases h : us = []
  · subst h
    rw [if_pos rfl, line_one, app_empty]
  · rw [if_neg h, line_cons h]
theorem sp_line {ws : List Str} (h : ws ≠ []) : sepS ++ line ws = line (Str.ofString "" :: ws) := by
  rw [line_cons h, empty_app]
theorem line_sp {ws us : List Str} {x : Str} (h1 : ws ≠ []) (h2 : us ≠ []) (e : x = sepS ++ line us) : line ws ++ x = line (ws ++ us) := by rw [line_append h1 h2, e]
theorem plain_e : Plain (Str.ofString "") := ⟨by kernel_rfl, by kernel_rfl, by kernel_rfl⟩
theorem wd_e : Wd (Str.ofString "") := by decide +kernel
theorem e_sp : Str.ofString " " = sepS ++ line [Str.ofString ""] := by decide +kernel
theorem e_sp1 : Str.ofString " 1 " = sepS ++ line [Str.ofString "1", Str.ofString ""] := by decide +kernel
theorem e_spx : Str.ofString " x" = sepS ++ line [Str.ofString "x"] := by decide +kernel
theorem e_1 : Str.ofString " 1" = sepS ++ line [Str.ofString "1"] := by decide +kernel
theorem wd_1 : Wd (Str.ofString "1") := by decide +kernel
theorem wd_x : Wd (Str.ofString "x") := by decide +kernel
def badsF (w : Str) (us : List Str) : List Str :=
  let T := line (w :: us)
  [sepS ++ T, Txt.upper w ++ rst us, w ++ Str.ofString "x" ++ rst us] ++ [T ++ Str.ofString " ", T ++ Str.ofString " 1 ", T ++ Str.ofString " x"]
theorem wd_snoc {w : Str} {us vs : List Str} (h : ∀ v ∈ w :: us, Wd v) (h2 : ∀ v ∈ vs, Wd v) : ∀ v ∈ w :: (us ++ vs), Wd v := by
  intro v m
  rcases List.mem_cons.mp m with rfl | m
  · exact h _ (List.mem_cons_self ..)
  · rcases List.mem_append.mp m with m | m
    · exact h _ (List.mem_cons_of_mem _ m)
    · exact h2 _ m
theorem bad_more {w pat : Str} {us vs : List Str} {x : Str} (W : FormW w pat) (hu : ∀ v ∈ w :: us, Wd v) (hl : us.length = pat.length) (hv : ∀ v ∈ vs, Wd v) (hne : vs ≠ []) (h9 : vs.length ≤ 9) (e : x = sepS ++ line vs) : G_read_command [.str (line (w :: us) ++ x)] = .ok .none := by
  have hl4 := W.l
  have hp : 0 < vs.length := by
    cases vs with
    | nil => exact absurd rfl hne
    | cons a r => simp
  rw [line_sp (by simp) hne e]
  show G_read_command [.str (line (w :: (us ++ vs)))] = _
  exact rc_none_len (wd_snoc hu hv) (by rw [List.length_append]; omega) (.inr W.n) W.p W.k W.x (by omega) (by rw [List.length_append]; omega)
theorem bads_none {w pat : Str} {us : List Str} (W : FormW w pat) (hu : ∀ v ∈ w :: us, Wd v) (hl : us.length = pat.length) : ∀ b ∈ badsF w us, G_read_command [.str b] = .ok .none := by
  have hl4 := W.l
  intro b m
  have hus : ∀ v ∈ us, Wd v := fun v m => hu v (List.mem_cons_of_mem _ m)
  have hd : ∀ {z : Str}, Wd z → ∀ v ∈ z :: us, Wd v := fun hz v m => (List.mem_cons.mp m).elim (fun e => e ▸ hz) (hus v)
  simp only [badsF, List.cons_append, List.nil_append, List.mem_cons, List.not_mem_nil, or_false] at m
  rcases m with rfl | rfl | rfl | rfl | rfl | rfl
  · rw [sp_line (by simp)]
    exact rc_none_head (fun v m => (List.mem_cons.mp m).elim (fun e => e ▸ wd_e) (hu v)) (by simp; omega) (.inl (by simp)) plain_e (by kernel_rfl)
  · rw [← line_rst]
    exact rc_none_head (hd W.ud) (by omega) (.inr W.un) W.up W.uk
  · rw [← line_rst]
    exact rc_none_head (hd W.xd) (by omega) (.inr W.xn) W.xp W.xk
  · exact bad_more W hu hl (vs := [Str.ofString ""]) (by intro v m; rw [List.mem_singleton.mp m]; exact wd_e) (by simp) (by simp) e_sp
  · exact bad_more W hu hl (vs := [Str.ofString "1", Str.ofString ""]) (by intro v m; simp at m; rcases m with rfl | rfl; exact wd_1; exact wd_e) (by simp) (by simp) e_sp1
  · exact bad_more W hu hl (vs := [Str.ofString "x"]) (by intro v m; rw [List.mem_singleton.mp m]; exact wd_x) (by simp) (by simp) e_spx
end K80


set_option Elab.async false
set_option linter.all false
set_option maxRecDepth 100000
set_option maxHeartbeats 8000000
namespace K80
open PySem PySem.Spec PyProof.Rows L2 Z
abbrev yn : List D := [.str (Str.ofString "yard"), .str (Str.ofString "note")]
/-- the two slots that every spoilt line begins with -/
abbrev R3 (parts : D) (T w : Str) (found : List Str) : Rho := [.sh parts, .sh (.str T), .sh (.str w), .sh (.list (found.map .str)), .un, .un, .un, .un]
abbrev R0 (parts : D) (T : Str) : Rho := [.sh parts, .sh (.str T), .un, .un, .un, .un, .un, .un]
abbrev found3 (T w rs : Str) : List Str := [sepS ++ T, Txt.upper w ++ rs, w ++ Str.ofString "x" ++ rs]
theorem len_sep : sepS.length = 1 := by decide +kernel
theorem len_x : (Str.ofString "x").length = 1 := by decide +kernel
theorem sp_cut {a b : Str} {r : Rho} {f g : Rho → R D} (hf : f r = .ok (.str (a ++ b))) (hg : g r = .ok (.int a.length)) (hl : (a ++ b).length ≤ sizeLine) : cSl f (cO g) cO0 r = .ok (.str b) := by
  refine ev_sl hf (ev_o hg) rfl ?_
  rw [slD_str hl, cut_from]
theorem spoilt_pre {w rs : Str} {nd : List D} {F : SF} {o : Out} (hd : Wd w) (hu : Wd (Txt.upper w)) (hl : rs.length ≤ 100000)
    (ho : F (R3 (.tuple (.str w :: nd)) (w ++ rs) w (found3 (w ++ rs) w rs)) = o) :
    sSeq (sSet 2 (cB2 ixD (cVarC 0) (cK (.int 0))))
    (sSeq (sSet 3 (cL (cLst (cCons (cB2 addD (cK (.str (Str.ofString " "))) (cVarC 1)) (cCons (cB2 addD (cM0 upperD (cVarC 2)) (cSl (cVarC 1) (cO (cB1 lenD (cVarC 2))) cO0)) (cCons (cB2 addD (cB2 addD (cVarC 2) (cK (.str (Str.ofString "x")))) (cSl (cVarC 1) (cO (cB1 lenD (cVarC 2))) cO0)) cNil)))))) F) (R0 (.tuple (.str w :: nd)) (w ++ rs)) = o := by
  have h1 := hd.2.1
  have h2 := hu.2.1
  have h3 := len_sep
  have h4 := len_x
  have hT : (w ++ rs).length = w.length + rs.length := Str.length_append w rs
  have z : sizeLine = 16777216 := rfl
  refine ev_seq (ev_set (ev_b2 (x := .tuple (.str w :: nd)) (y := .int 0) rfl rfl (ix_t 0 rfl rfl))) (ev_seq (ev_set (ev_l (ev_lst (ds := (found3 (w ++ rs) w rs).map .str) ?_ (small (by simp))))) ho)
  have c : ∀ {r : Rho}, r = [.sh (.tuple (.str w :: nd)), .sh (.str (w ++ rs)), .sh (.str w), .un, .un, .un, .un, .un] → cSl (cVarC 1) (cO (cB1 lenD (cVarC 2))) cO0 r = .ok (.str rs) := fun e => by
    subst e
    exact sp_cut rfl (ev_b1 (x := .str w) rfl (lenD_str (by omega))) (by omega)
  refine ev_cons (ev_b2 (x := .str sepS) (y := .str (w ++ rs)) rfl rfl (addD_str (by omega))) (ev_cons (ev_b2 (x := .str (Txt.upper w)) (y := .str rs) (ev_m0 (a := w) rfl (if_pos (by omega))) (c rfl) (addD_str (by omega)))
    (ev_cons (ev_b2 (x := .str (w ++ Str.ofString "x")) (y := .str rs) (ev_b2 (x := .str w) (y := .str (Str.ofString "x")) rfl rfl (addD_str (by omega))) (c rfl) (addD_str (by rw [Str.length_append]; omega))) rfl))
theorem spoilt_if {parts : D} {T w : Str} {found : List Str} {t : Rho → R Bool} {S F : SF} {o : Out} (ht : t (R3 parts T w found) = .ok false) (ho : F (R3 parts T w found) = o) : sSeq (sIf t S sNil) F (R3 parts T w found) = o :=
  ev_seq (ev_iff ht rfl) ho
theorem add_strs {a b : List Str} (h : a.length + b.length ≤ 1000) : addD (.list (a.map .str)) (.list (b.map .str)) = .ok (.list ((a ++ b).map .str)) := by
  rw [addD_list (small (by rw [List.length_map, List.length_map]; omega)), List.map_append]
theorem spoilt_tail {parts : D} {T w : Str} {found : List Str} {F : SF} {o : Out} (hT : T.length ≤ 200000) (hf : found.length ≤ 900) (ho : F (R3 parts T w (found ++ [T ++ Str.ofString " ", T ++ Str.ofString " 1 ", T ++ Str.ofString " x"])) = o) :
    sSeq (sSet 3 (cB2 addD (cVarC 3) (cL (cLst (cCons (cB2 addD (cVarC 1) (cK (.str (Str.ofString " ")))) (cCons (cB2 addD (cVarC 1) (cK (.str (Str.ofString " 1 ")))) (cCons (cB2 addD (cVarC 1) (cK (.str (Str.ofString " x")))) cNil))))))) F (R3 parts T w found) = o := by
  have z : sizeLine = 16777216 := rfl
  have l1 : (Str.ofString " ").length = 1 := by decide +kernel
  have l2 : (Str.ofString " 1 ").length = 3 := by decide +kernel
  have l3 : (Str.ofString " x").length = 2 := by decide +kernel
  refine ev_seq (ev_set (ev_b2 (x := .list (found.map .str)) (y := .list ([T ++ Str.ofString " ", T ++ Str.ofString " 1 ", T ++ Str.ofString " x"].map .str)) rfl (ev_l (ev_lst (ev_cons (ev_b2 (x := .str T) rfl rfl (addD_str (by omega))) (ev_cons (ev_b2 (x := .str T) rfl rfl (addD_str (by omega))) (ev_cons (ev_b2 (x := .str T) rfl rfl (addD_str (by omega))) rfl))) (small (by simp)))) (add_strs (by simp; omega)))) ho
abbrev ift (o : Option Str) : List Str := o.toList
theorem eq_int {a b : Int} {c : Bool} (h : c = (a == b)) : eqD (.int a) (.int b) = .ok c := by
  show (if SeqAt.shaped (.int a) && SeqAt.shaped (.int b) then R.ok (PyData.eqv (.int a) (.int b)) else .no) = _
  have h1 : ∀ n : Int, SeqAt.shaped (.int n) = true := fun n => rfl
  rw [h1, h1, h]
  simp [PyData.eqv]
/-- what stands behind the word of a form -/
def endF (w : Str) (us : List Str) : List Str := if us = [] then [line (w :: us) ++ Str.ofString " 1"] else badN.map (fun b => line (w :: us.dropLast ++ [b])) ++ [line (w :: us) ++ Str.ofString " 1", w]
theorem line_snoc {ws : List Str} {b : Str} (h : ws ≠ []) : line (ws ++ [b]) = line ws ++ sepS ++ b := by
  rw [line_append h (by simp), line_one, app_assoc]
theorem rn_badw : ∀ z ∈ badN, Wd z := by decide +kernel
theorem lc_app {C : Str} {r : Rho} {zs : List Str} {f : Rho → R D} {fi : Rho → R (List D)} (h : fi r = .ok (zs.map .str)) (hC : C.length ≤ 200000) (hno : noOw r [7] = true) (hf : ∀ (b : Str), b.length ≤ 100 → f ((wipeR r [7]).set 7 (.sh (.str b))) = .ok (.str (C ++ b))) (hz : ∀ z ∈ zs, z.length ≤ 100) (hl : zs.length ≤ 900) :
    cL (cLc [7] fi (gNm 7) cYes f) r = .ok (.list ((zs.map (fun b => C ++ b)).map .str)) := by
  have e : (zs.map (fun b => C ++ b)).map PyData.str = (zs.map PyData.str).map fun d => match d with
      | .str b => .str (C ++ b)
      | _ => .none := by
    rw [List.map_map, List.map_map]
    rfl
  rw [e]
  refine ev_l (ev_lc hno h (small (by rw [List.length_map]; omega)) fun d m => ?_)
  obtain ⟨b, hb, rfl⟩ := List.mem_map.mp m
  exact ⟨_, rfl, rfl, hf b (hz b hb)⟩
theorem spoilt_form {w pat : Str} {ns : List Nat} (W : FormW w pat) (rl : inD (.str w) (.list yn) = .ok false) (hl : ns.length = pat.length) (hn : ∀ n ∈ ns, n < 1000) :
    G__law_spoilt [.tuple (.str w :: ns.map fun n => .int (n : Nat)), .str (line (w :: ns.map numS))] = .ok (.list ((badsF w (ns.map numS) ++ endF w (ns.map numS)).map .str)) := by
  have z : sizeLine = 16777216 := rfl
  have hl4 := W.l
  have hw := words_form W.d hn
  have hlen := line_len hw
  simp only [List.length_cons, List.length_map] at hlen
  have hrs := line_rst w (ns.map numS)
  have hT : (line (w :: ns.map numS)).length = w.length + (rst (ns.map numS)).length := by rw [hrs, Str.length_append]
  have lens : ([PyData.str w] ++ ns.map fun n => PyData.int (n : Nat)).length = ns.length + 1 := by simp
  refine ev_run rfl ?_
  have start : startR 8 [.tuple (.str w :: ns.map fun n => .int (n : Nat)), .str (line (w :: ns.map numS))] = R0 (.tuple (.str w :: ns.map fun n => .int (n : Nat))) (w ++ rst (ns.map numS)) := by
    rw [← hrs]
    rfl
  show (sSeq _ _) _ = _
  rw [start]
  refine spoilt_pre W.d W.ud (by omega) ?_
  rw [← hrs]
  refine spoilt_if (ev_t2 (x := .str w) (y := .list yn) rfl rfl rl) (spoilt_if (ev_t2 (x := .str w) (y := .str (Str.ofString "fix")) rfl rfl W.p.f) (spoilt_tail (by omega) (by simp) (spoilt_if (ev_t2 (x := .str w) (y := .str (Str.ofString "ask")) rfl rfl W.p.a) ?_)))
  have lenp : lenD (.tuple (.str w :: ns.map fun n => .int (n : Nat))) = .ok (.int ((ns.length + 1 : Nat) : Int)) := by
    show R.ok (PyData.int _) = _
    simp
  have l1 : (Str.ofString " 1").length = 2 := by decide +kernel
  by_cases he : ns = []
  · subst he
    refine ev_seqr (ev_ift (ev_t2 (ev_b1 (x := .tuple [.str w]) rfl rfl) rfl (eq_int rfl)) (ev_ret ?_))
    refine ev_b2 (x := .list ((badsF w []).map .str)) (y := .list ([line [w] ++ Str.ofString " 1"].map .str)) rfl (ev_l (ev_lst (ev_cons (ev_b2 (x := .str (line [w])) rfl rfl (addD_str (by simp only [List.length_nil, Nat.zero_add, List.map_nil] at hlen; omega))) rfl) (small (by simp)))) ?_
    exact add_strs (by simp [badsF])
  · obtain ⟨ms, m, rfl⟩ : ∃ ms m, ns = ms ++ [m] := ⟨ns.dropLast, ns.getLast he, (List.dropLast_concat_getLast he).symm⟩
    have hm : m < 1000 := hn m (by simp)
    have hL : line (w :: (ms ++ [m]).map numS) = line (w :: ms.map numS) ++ sepS ++ numS m := by
      rw [List.map_append]
      exact line_snoc (ws := w :: ms.map numS) (by simp)
    have hLl : (line (w :: (ms ++ [m]).map numS)).length = (line (w :: ms.map numS) ++ sepS).length + (numS m).length := by rw [hL, Str.length_append]
    refine spoilt_if (ev_t2 (ev_b1 rfl lenp) rfl (eq_int ?_)) ?_
    · rw [List.length_append]
      symm
      rw [beq_eq_false_iff_ne]
      simp
      omega
    · have hlast : ixD (.tuple (.str w :: (ms ++ [m]).map fun n => .int (n : Nat))) (.int (-1)) = .ok (.int (m : Nat)) := by
        show atD (.str w :: (ms ++ [m]).map fun n => (.int (n : Nat) : D)) (-1) = _
        have : (.str w :: (ms ++ [m]).map fun n => (.int (n : Nat) : D)) = (.str w :: ms.map fun n => (.int (n : Nat) : D)) ++ [.int (m : Nat)] := by rw [List.map_append]; rfl
        rw [this]
        unfold atD
        rw [atI_last]
      have hwm := wd_num hm
      have hwl := hwm.2.1
      refine ev_seq (ev_set (d := .str (line (w :: ms.map numS) ++ sepS)) ?_) ?_
      · refine ev_sl (x := .str (line (w :: (ms ++ [m]).map numS))) rfl rfl (ev_o (ev_b2 (x := .int (line (w :: (ms ++ [m]).map numS)).length) (y := .int (numS m).length) (ev_b1 rfl (lenD_str (by omega))) (ev_b1 (ev_b1 (ev_b2 rfl (ev_b1 rfl rfl) hlast) (strD_num (Nat.lt_trans hm (by decide)))) (lenD_str (by omega))) rfl)) ?_
        rw [slD_str (by omega)]
        congr 2
        rw [hL]
        exact cut_to' (by rw [← hL, hLl]; omega)
      · refine ev_ret (ev_b2 (x := .list ((badsF w ((ms ++ [m]).map numS) ++ badN.map (fun b => line (w :: ms.map numS) ++ sepS ++ b)).map .str)) (y := .list ([line (w :: (ms ++ [m]).map numS) ++ Str.ofString " 1", w].map .str)) (ev_b2 (x := .list ((badsF w ((ms ++ [m]).map numS)).map .str)) (y := .list ((badN.map (fun b => line (w :: ms.map numS) ++ sepS ++ b)).map .str)) rfl ?_ (add_strs (by simp [badsF, badN]))) (ev_l (ev_lst (ev_cons (ev_b2 (x := .str (line (w :: (ms ++ [m]).map numS))) rfl rfl (addD_str (by omega))) (ev_cons (x := .str w) (ds := []) rfl rfl)) (small (by simp)))) ?_)
        · exact lc_app (C := line (w :: ms.map numS) ++ sepS) rfl (by omega) rfl (fun b hb => ev_b2 rfl rfl (addD_str (by omega))) (fun z m => (rn_badw z m).2.1) (by decide)
        · have e1 : (ms ++ [m]).map numS ≠ [] := by simp
          have e2 : endF w ((ms ++ [m]).map numS) = badN.map (fun b => line (w :: ms.map numS) ++ sepS ++ b) ++ [line (w :: (ms ++ [m]).map numS) ++ Str.ofString " 1", w] := by
            unfold endF
            rw [if_neg e1]
            congr 1
            refine List.map_congr_left fun b _ => ?_
            have e3 : ((ms ++ [m]).map numS).dropLast = ms.map numS := by rw [List.map_append]; exact List.dropLast_concat
            rw [e3]
            exact line_snoc (ws := w :: ms.map numS) (by simp)
          rw [e2, ← List.append_assoc]
          exact add_strs (by simp [badsF, badN])
end K80


set_option Elab.async false
set_option linter.all false
set_option maxRecDepth 100000
set_option maxHeartbeats 8000000
namespace K80
open PySem PySem.Spec PyProof.Rows L2 Z
theorem rn_of_bad {z : Str} (h : z ∈ badN) : rnOf (.str z) = .none := by
  unfold rnOf
  rw [(rn_bad h).1]
theorem endF_none {w pat : Str} {ns : List Nat} (W : FormW w pat) (hl : ns.length = pat.length) (hn : ∀ n ∈ ns, n < 1000) : ∀ b ∈ endF w (ns.map numS), G_read_command [.str b] = .ok .none := by
  have hl4 := W.l
  have hw := words_form W.d hn
  have one : G_read_command [.str (line (w :: ns.map numS) ++ Str.ofString " 1")] = .ok .none :=
    bad_more W hw (by rw [List.length_map]; exact hl) (vs := [Str.ofString "1"]) (by intro v m; rw [List.mem_singleton.mp m]; exact wd_1) (by simp) (by simp) e_1
  intro b m
  unfold endF at m
  by_cases he : ns.map numS = []
  · rw [if_pos he, List.mem_singleton] at m
    rw [m]
    exact one
  · rw [if_neg he] at m
    have hne : ns ≠ [] := fun e => he (by rw [e]; rfl)
    rcases List.mem_append.mp m with m | m
    · obtain ⟨z, hz, rfl⟩ := List.mem_map.mp m
      obtain ⟨ms, k, rfl⟩ : ∃ ms k, ns = ms ++ [k] := ⟨ns.dropLast, ns.getLast hne, (List.dropLast_concat_getLast hne).symm⟩
      have e3 : ((ms ++ [k]).map numS).dropLast = ms.map numS := by rw [List.map_append]; exact List.dropLast_concat
      rw [e3]
      have hms : ∀ n ∈ ms, n < 1000 := fun n q => hn n (by simp [q])
      have hlen : (ms.map numS ++ [z]).length = pat.length := by rw [← hl]; simp
      refine (rc_form (w := w) (pat := pat) (us := ms.map numS ++ [z]) (b := true) (ns := (ms.map fun n => .int (n : Nat)) ++ [.none]) (wd_snoc (words_form W.d hms) (by intro v q; rw [List.mem_singleton.mp q]; exact (rn_bad hz).2)) (by omega) (.inr W.n) W.p W.k W.x (by omega) hlen ?_ ?_ ?_).trans rfl
      · intro u q
        rcases List.mem_append.mp q with q | q
        · obtain ⟨n, hm, rfl⟩ := List.mem_map.mp q
          exact ⟨_, rn_num (hms n hm)⟩
        · rw [List.mem_singleton.mp q]
          exact ⟨_, (rn_bad hz).1⟩
      · rw [List.map_append, List.map_append, List.map_map, List.map_map]
        congr 1
        · exact List.map_congr_left fun n q => rn_of_num (hms n q)
        · show [rnOf (.str z)] = _
          rw [rn_of_bad hz]
      · rw [in_none]
        · simp [isN]
        · intro d q
          rcases List.mem_append.mp q with q | q
          · obtain ⟨n, _, rfl⟩ := List.mem_map.mp q; exact sm_int _
          · rw [List.mem_singleton.mp q]; exact sm_none
    · simp only [List.mem_cons, List.not_mem_nil, or_false] at m
      rcases m with rfl | rfl
      · exact one
      · have := rc_none_len (w := b) (pat := pat) (us := []) (by intro v q; rw [List.mem_singleton.mp q]; exact W.d) (by simp) (.inr W.n) W.p W.k W.x (by omega) (by
          have : ns.length ≠ 0 := fun e => hne (List.length_eq_zero_iff.mp e)
          simp; omega)
        rw [line_one] at this
        exact this
theorem line_form {w pat : Str} {ns : List Nat} (W : FormW w pat) (rl : inD (.str w) (.list yn) = .ok false) (hl : ns.length = pat.length) (hn : ∀ n ∈ ns, n < 1000) : LineOk (.tuple (.str w :: ns.map fun n => .int (n : Nat))) := by
  have hl4 := W.l
  refine ⟨line (w :: ns.map numS), badsF w (ns.map numS) ++ endF w (ns.map numS), _, rfl, sm_shaped_tup ?_, written_form W.d W.na (by omega) hn, read_form W hl hn, spoilt_form W rl hl hn, ?_⟩
  · intro d m
    rcases List.mem_cons.mp m with rfl | m
    · have := line_strOk (ws := [w]) (by intro v q; rw [List.mem_singleton.mp q]; exact W.d)
      rw [line_one] at this
      exact sm_str this
    · obtain ⟨n, _, rfl⟩ := List.mem_map.mp m; exact sm_int _
  · intro b m
    rcases List.mem_append.mp m with m | m
    · exact bads_none W (words_form W.d hn) (by rw [List.length_map]; exact hl) b m
    · exact endF_none W hl hn b m
theorem fw_strike : FormW (Str.ofString "strike") (Str.ofString "k") := ⟨by decide +kernel, by decide +kernel, ⟨by kernel_rfl, by kernel_rfl, by kernel_rfl⟩, by kernel_rfl, by kernel_rfl, by decide +kernel, by kernel_rfl, by decide +kernel, by decide +kernel, ⟨by kernel_rfl, by kernel_rfl, by kernel_rfl⟩, by kernel_rfl, by decide +kernel, by decide +kernel, ⟨by kernel_rfl, by kernel_rfl, by kernel_rfl⟩, by kernel_rfl⟩
theorem lf_strike {ns : List Nat} (hl : ns.length = 1) (hn : ∀ n ∈ ns, n < 1000) : LineOk (.tuple (.str (Str.ofString "strike") :: ns.map fun n => .int (n : Nat))) := line_form fw_strike (by kernel_rfl) (hl.trans (by decide +kernel)) hn
theorem fw_again : FormW (Str.ofString "again") (Str.ofString "k") := ⟨by decide +kernel, by decide +kernel, ⟨by kernel_rfl, by kernel_rfl, by kernel_rfl⟩, by kernel_rfl, by kernel_rfl, by decide +kernel, by kernel_rfl, by decide +kernel, by decide +kernel, ⟨by kernel_rfl, by kernel_rfl, by kernel_rfl⟩, by kernel_rfl, by decide +kernel, by decide +kernel, ⟨by kernel_rfl, by kernel_rfl, by kernel_rfl⟩, by kernel_rfl⟩
theorem lf_again {ns : List Nat} (hl : ns.length = 1) (hn : ∀ n ∈ ns, n < 1000) : LineOk (.tuple (.str (Str.ofString "again") :: ns.map fun n => .int (n : Nat))) := line_form fw_again (by kernel_rfl) (hl.trans (by decide +kernel)) hn
theorem fw_book : FormW (Str.ofString "book") (Str.ofString "") := ⟨by decide +kernel, by decide +kernel, ⟨by kernel_rfl, by kernel_rfl, by kernel_rfl⟩, by kernel_rfl, by kernel_rfl, by decide +kernel, by kernel_rfl, by decide +kernel, by decide +kernel, ⟨by kernel_rfl, by kernel_rfl, by kernel_rfl⟩, by kernel_rfl, by decide +kernel, by decide +kernel, ⟨by kernel_rfl, by kernel_rfl, by kernel_rfl⟩, by kernel_rfl⟩
theorem lf_book {ns : List Nat} (hl : ns.length = 0) (hn : ∀ n ∈ ns, n < 1000) : LineOk (.tuple (.str (Str.ofString "book") :: ns.map fun n => .int (n : Nat))) := line_form fw_book (by kernel_rfl) (hl.trans (by decide +kernel)) hn
theorem fw_weight : FormW (Str.ofString "weight") (Str.ofString "k") := ⟨by decide +kernel, by decide +kernel, ⟨by kernel_rfl, by kernel_rfl, by kernel_rfl⟩, by kernel_rfl, by kernel_rfl, by decide +kernel, by kernel_rfl, by decide +kernel, by decide +kernel, ⟨by kernel_rfl, by kernel_rfl, by kernel_rfl⟩, by kernel_rfl, by decide +kernel, by decide +kernel, ⟨by kernel_rfl, by kernel_rfl, by kernel_rfl⟩, by kernel_rfl⟩
theorem lf_weight {ns : List Nat} (hl : ns.length = 1) (hn : ∀ n ∈ ns, n < 1000) : LineOk (.tuple (.str (Str.ofString "weight") :: ns.map fun n => .int (n : Nat))) := line_form fw_weight (by kernel_rfl) (hl.trans (by decide +kernel)) hn
theorem fw_from : FormW (Str.ofString "from") (Str.ofString "kk") := ⟨by decide +kernel, by decide +kernel, ⟨by kernel_rfl, by kernel_rfl, by kernel_rfl⟩, by kernel_rfl, by kernel_rfl, by decide +kernel, by kernel_rfl, by decide +kernel, by decide +kernel, ⟨by kernel_rfl, by kernel_rfl, by kernel_rfl⟩, by kernel_rfl, by decide +kernel, by decide +kernel, ⟨by kernel_rfl, by kernel_rfl, by kernel_rfl⟩, by kernel_rfl⟩
theorem lf_from {ns : List Nat} (hl : ns.length = 2) (hn : ∀ n ∈ ns, n < 1000) : LineOk (.tuple (.str (Str.ofString "from") :: ns.map fun n => .int (n : Nat))) := line_form fw_from (by kernel_rfl) (hl.trans (by decide +kernel)) hn
theorem fw_sure : FormW (Str.ofString "sure") (Str.ofString "") := ⟨by decide +kernel, by decide +kernel, ⟨by kernel_rfl, by kernel_rfl, by kernel_rfl⟩, by kernel_rfl, by kernel_rfl, by decide +kernel, by kernel_rfl, by decide +kernel, by decide +kernel, ⟨by kernel_rfl, by kernel_rfl, by kernel_rfl⟩, by kernel_rfl, by decide +kernel, by decide +kernel, ⟨by kernel_rfl, by kernel_rfl, by kernel_rfl⟩, by kernel_rfl⟩
theorem lf_sure {ns : List Nat} (hl : ns.length = 0) (hn : ∀ n ∈ ns, n < 1000) : LineOk (.tuple (.str (Str.ofString "sure") :: ns.map fun n => .int (n : Nat))) := line_form fw_sure (by kernel_rfl) (hl.trans (by decide +kernel)) hn
theorem fw_price : FormW (Str.ofString "price") (Str.ofString "kkkk") := ⟨by decide +kernel, by decide +kernel, ⟨by kernel_rfl, by kernel_rfl, by kernel_rfl⟩, by kernel_rfl, by kernel_rfl, by decide +kernel, by kernel_rfl, by decide +kernel, by decide +kernel, ⟨by kernel_rfl, by kernel_rfl, by kernel_rfl⟩, by kernel_rfl, by decide +kernel, by decide +kernel, ⟨by kernel_rfl, by kernel_rfl, by kernel_rfl⟩, by kernel_rfl⟩
theorem lf_price {ns : List Nat} (hl : ns.length = 4) (hn : ∀ n ∈ ns, n < 1000) : LineOk (.tuple (.str (Str.ofString "price") :: ns.map fun n => .int (n : Nat))) := line_form fw_price (by kernel_rfl) (hl.trans (by decide +kernel)) hn
theorem fw_bill : FormW (Str.ofString "bill") (Str.ofString "") := ⟨by decide +kernel, by decide +kernel, ⟨by kernel_rfl, by kernel_rfl, by kernel_rfl⟩, by kernel_rfl, by kernel_rfl, by decide +kernel, by kernel_rfl, by decide +kernel, by decide +kernel, ⟨by kernel_rfl, by kernel_rfl, by kernel_rfl⟩, by kernel_rfl, by decide +kernel, by decide +kernel, ⟨by kernel_rfl, by kernel_rfl, by kernel_rfl⟩, by kernel_rfl⟩
theorem lf_bill {ns : List Nat} (hl : ns.length = 0) (hn : ∀ n ∈ ns, n < 1000) : LineOk (.tuple (.str (Str.ofString "bill") :: ns.map fun n => .int (n : Nat))) := line_form fw_bill (by kernel_rfl) (hl.trans (by decide +kernel)) hn
theorem fw_balance : FormW (Str.ofString "balance") (Str.ofString "k") := ⟨by decide +kernel, by decide +kernel, ⟨by kernel_rfl, by kernel_rfl, by kernel_rfl⟩, by kernel_rfl, by kernel_rfl, by decide +kernel, by kernel_rfl, by decide +kernel, by decide +kernel, ⟨by kernel_rfl, by kernel_rfl, by kernel_rfl⟩, by kernel_rfl, by decide +kernel, by decide +kernel, ⟨by kernel_rfl, by kernel_rfl, by kernel_rfl⟩, by kernel_rfl⟩
theorem lf_balance {ns : List Nat} (hl : ns.length = 1) (hn : ∀ n ∈ ns, n < 1000) : LineOk (.tuple (.str (Str.ofString "balance") :: ns.map fun n => .int (n : Nat))) := line_form fw_balance (by kernel_rfl) (hl.trans (by decide +kernel)) hn
theorem fw_can : FormW (Str.ofString "can") (Str.ofString "") := ⟨by decide +kernel, by decide +kernel, ⟨by kernel_rfl, by kernel_rfl, by kernel_rfl⟩, by kernel_rfl, by kernel_rfl, by decide +kernel, by kernel_rfl, by decide +kernel, by decide +kernel, ⟨by kernel_rfl, by kernel_rfl, by kernel_rfl⟩, by kernel_rfl, by decide +kernel, by decide +kernel, ⟨by kernel_rfl, by kernel_rfl, by kernel_rfl⟩, by kernel_rfl⟩
theorem lf_can {ns : List Nat} (hl : ns.length = 0) (hn : ∀ n ∈ ns, n < 1000) : LineOk (.tuple (.str (Str.ofString "can") :: ns.map fun n => .int (n : Nat))) := line_form fw_can (by kernel_rfl) (hl.trans (by decide +kernel)) hn
theorem fw_must : FormW (Str.ofString "must") (Str.ofString "") := ⟨by decide +kernel, by decide +kernel, ⟨by kernel_rfl, by kernel_rfl, by kernel_rfl⟩, by kernel_rfl, by kernel_rfl, by decide +kernel, by kernel_rfl, by decide +kernel, by decide +kernel, ⟨by kernel_rfl, by kernel_rfl, by kernel_rfl⟩, by kernel_rfl, by decide +kernel, by decide +kernel, ⟨by kernel_rfl, by kernel_rfl, by kernel_rfl⟩, by kernel_rfl⟩
theorem lf_must {ns : List Nat} (hl : ns.length = 0) (hn : ∀ n ∈ ns, n < 1000) : LineOk (.tuple (.str (Str.ofString "must") :: ns.map fun n => .int (n : Nat))) := line_form fw_must (by kernel_rfl) (hl.trans (by decide +kernel)) hn
theorem fw_cannot : FormW (Str.ofString "cannot") (Str.ofString "") := ⟨by decide +kernel, by decide +kernel, ⟨by kernel_rfl, by kernel_rfl, by kernel_rfl⟩, by kernel_rfl, by kernel_rfl, by decide +kernel, by kernel_rfl, by decide +kernel, by decide +kernel, ⟨by kernel_rfl, by kernel_rfl, by kernel_rfl⟩, by kernel_rfl, by decide +kernel, by decide +kernel, ⟨by kernel_rfl, by kernel_rfl, by kernel_rfl⟩, by kernel_rfl⟩
theorem lf_cannot {ns : List Nat} (hl : ns.length = 0) (hn : ∀ n ∈ ns, n < 1000) : LineOk (.tuple (.str (Str.ofString "cannot") :: ns.map fun n => .int (n : Nat))) := line_form fw_cannot (by kernel_rfl) (hl.trans (by decide +kernel)) hn
theorem fw_few : FormW (Str.ofString "few") (Str.ofString "") := ⟨by decide +kernel, by decide +kernel, ⟨by kernel_rfl, by kernel_rfl, by kernel_rfl⟩, by kernel_rfl, by kernel_rfl, by decide +kernel, by kernel_rfl, by decide +kernel, by decide +kernel, ⟨by kernel_rfl, by kernel_rfl, by kernel_rfl⟩, by kernel_rfl, by decide +kernel, by decide +kernel, ⟨by kernel_rfl, by kernel_rfl, by kernel_rfl⟩, by kernel_rfl⟩
theorem lf_few {ns : List Nat} (hl : ns.length = 0) (hn : ∀ n ∈ ns, n < 1000) : LineOk (.tuple (.str (Str.ofString "few") :: ns.map fun n => .int (n : Nat))) := line_form fw_few (by kernel_rfl) (hl.trans (by decide +kernel)) hn
theorem fw_search : FormW (Str.ofString "search") (Str.ofString "") := ⟨by decide +kernel, by decide +kernel, ⟨by kernel_rfl, by kernel_rfl, by kernel_rfl⟩, by kernel_rfl, by kernel_rfl, by decide +kernel, by kernel_rfl, by decide +kernel, by decide +kernel, ⟨by kernel_rfl, by kernel_rfl, by kernel_rfl⟩, by kernel_rfl, by decide +kernel, by decide +kernel, ⟨by kernel_rfl, by kernel_rfl, by kernel_rfl⟩, by kernel_rfl⟩
theorem lf_search {ns : List Nat} (hl : ns.length = 0) (hn : ∀ n ∈ ns, n < 1000) : LineOk (.tuple (.str (Str.ofString "search") :: ns.map fun n => .int (n : Nat))) := line_form fw_search (by kernel_rfl) (hl.trans (by decide +kernel)) hn
end K80


set_option Elab.async false
set_option linter.all false
set_option maxRecDepth 100000
set_option maxHeartbeats 8000000
namespace K80
open PySem PySem.Spec PyProof.Rows L2 Z
theorem ly_yard_0 : LineOk (.tuple [.str (Str.ofString "yard"), .str (Str.ofString "")]) := ⟨(Str.ofString "yard "), [(Str.ofString " yard "), (Str.ofString "YARD "), (Str.ofString "yardx ")], _, rfl, by kernel_rfl, by kernel_rfl, by kernel_rfl, by kernel_rfl, by
  simp only [List.forall_mem_cons]
  exact ⟨by kernel_rfl, by kernel_rfl, by kernel_rfl, fun _ h => nomatch h⟩⟩
theorem ly_yard_1 : LineOk (.tuple [.str (Str.ofString "yard"), .str (Str.ofString " ")]) := ⟨(Str.ofString "yard  "), [(Str.ofString " yard  "), (Str.ofString "YARD  "), (Str.ofString "yardx  ")], _, rfl, by kernel_rfl, by kernel_rfl, by kernel_rfl, by kernel_rfl, by
  simp only [List.forall_mem_cons]
  exact ⟨by kernel_rfl, by kernel_rfl, by kernel_rfl, fun _ h => nomatch h⟩⟩
theorem ly_yard_2 : LineOk (.tuple [.str (Str.ofString "yard"), .str (Str.ofString "2: +0 +1")]) := ⟨(Str.ofString "yard 2: +0 +1"), [(Str.ofString " yard 2: +0 +1"), (Str.ofString "YARD 2: +0 +1"), (Str.ofString "yardx 2: +0 +1")], _, rfl, by kernel_rfl, by kernel_rfl, by kernel_rfl, by kernel_rfl, by
  simp only [List.forall_mem_cons]
  exact ⟨by kernel_rfl, by kernel_rfl, by kernel_rfl, fun _ h => nomatch h⟩⟩
theorem ly_yard_3 : LineOk (.tuple [.str (Str.ofString "yard"), .str (Str.ofString "find 4 yes")]) := ⟨(Str.ofString "yard find 4 yes"), [(Str.ofString " yard find 4 yes"), (Str.ofString "YARD find 4 yes"), (Str.ofString "yardx find 4 yes")], _, rfl, by kernel_rfl, by kernel_rfl, by kernel_rfl, by kernel_rfl, by
  simp only [List.forall_mem_cons]
  exact ⟨by kernel_rfl, by kernel_rfl, by kernel_rfl, fun _ h => nomatch h⟩⟩
theorem ly_yard_4 : LineOk (.tuple [.str (Str.ofString "yard"), .str (Str.ofString "x  y")]) := ⟨(Str.ofString "yard x  y"), [(Str.ofString " yard x  y"), (Str.ofString "YARD x  y"), (Str.ofString "yardx x  y")], _, rfl, by kernel_rfl, by kernel_rfl, by kernel_rfl, by kernel_rfl, by
  simp only [List.forall_mem_cons]
  exact ⟨by kernel_rfl, by kernel_rfl, by kernel_rfl, fun _ h => nomatch h⟩⟩
theorem ly_yard_5 : LineOk (.tuple [.str (Str.ofString "yard"), .str (Str.ofString "weighing ab 12 0,3 7/2")]) := ⟨(Str.ofString "yard weighing ab 12 0,3 7/2"), [(Str.ofString " yard weighing ab 12 0,3 7/2"), (Str.ofString "YARD weighing ab 12 0,3 7/2"), (Str.ofString "yardx weighing ab 12 0,3 7/2")], _, rfl, by kernel_rfl, by kernel_rfl, by kernel_rfl, by kernel_rfl, by
  simp only [List.forall_mem_cons]
  exact ⟨by kernel_rfl, by kernel_rfl, by kernel_rfl, fun _ h => nomatch h⟩⟩
theorem ly_note_0 : LineOk (.tuple [.str (Str.ofString "note"), .str (Str.ofString "")]) := ⟨(Str.ofString "note "), [(Str.ofString " note "), (Str.ofString "NOTE "), (Str.ofString "notex ")], _, rfl, by kernel_rfl, by kernel_rfl, by kernel_rfl, by kernel_rfl, by
  simp only [List.forall_mem_cons]
  exact ⟨by kernel_rfl, by kernel_rfl, by kernel_rfl, fun _ h => nomatch h⟩⟩
theorem ly_note_1 : LineOk (.tuple [.str (Str.ofString "note"), .str (Str.ofString " ")]) := ⟨(Str.ofString "note  "), [(Str.ofString " note  "), (Str.ofString "NOTE  "), (Str.ofString "notex  ")], _, rfl, by kernel_rfl, by kernel_rfl, by kernel_rfl, by kernel_rfl, by
  simp only [List.forall_mem_cons]
  exact ⟨by kernel_rfl, by kernel_rfl, by kernel_rfl, fun _ h => nomatch h⟩⟩
theorem ly_note_2 : LineOk (.tuple [.str (Str.ofString "note"), .str (Str.ofString "2: +0 +1")]) := ⟨(Str.ofString "note 2: +0 +1"), [(Str.ofString " note 2: +0 +1"), (Str.ofString "NOTE 2: +0 +1"), (Str.ofString "notex 2: +0 +1")], _, rfl, by kernel_rfl, by kernel_rfl, by kernel_rfl, by kernel_rfl, by
  simp only [List.forall_mem_cons]
  exact ⟨by kernel_rfl, by kernel_rfl, by kernel_rfl, fun _ h => nomatch h⟩⟩
theorem ly_note_3 : LineOk (.tuple [.str (Str.ofString "note"), .str (Str.ofString "find 4 yes")]) := ⟨(Str.ofString "note find 4 yes"), [(Str.ofString " note find 4 yes"), (Str.ofString "NOTE find 4 yes"), (Str.ofString "notex find 4 yes")], _, rfl, by kernel_rfl, by kernel_rfl, by kernel_rfl, by kernel_rfl, by
  simp only [List.forall_mem_cons]
  exact ⟨by kernel_rfl, by kernel_rfl, by kernel_rfl, fun _ h => nomatch h⟩⟩
theorem ly_note_4 : LineOk (.tuple [.str (Str.ofString "note"), .str (Str.ofString "x  y")]) := ⟨(Str.ofString "note x  y"), [(Str.ofString " note x  y"), (Str.ofString "NOTE x  y"), (Str.ofString "notex x  y")], _, rfl, by kernel_rfl, by kernel_rfl, by kernel_rfl, by kernel_rfl, by
  simp only [List.forall_mem_cons]
  exact ⟨by kernel_rfl, by kernel_rfl, by kernel_rfl, fun _ h => nomatch h⟩⟩
theorem ly_note_5 : LineOk (.tuple [.str (Str.ofString "note"), .str (Str.ofString "weighing ab 12 0,3 7/2")]) := ⟨(Str.ofString "note weighing ab 12 0,3 7/2"), [(Str.ofString " note weighing ab 12 0,3 7/2"), (Str.ofString "NOTE weighing ab 12 0,3 7/2"), (Str.ofString "notex weighing ab 12 0,3 7/2")], _, rfl, by kernel_rfl, by kernel_rfl, by kernel_rfl, by kernel_rfl, by
  simp only [List.forall_mem_cons]
  exact ⟨by kernel_rfl, by kernel_rfl, by kernel_rfl, fun _ h => nomatch h⟩⟩
def texts6 : List Str := [(Str.ofString ""), (Str.ofString " "), (Str.ofString "2: +0 +1"), (Str.ofString "find 4 yes"), (Str.ofString "x  y"), (Str.ofString "weighing ab 12 0,3 7/2")]
theorem ly_yard : ∀ t ∈ texts6, LineOk (.tuple [.str (Str.ofString "yard"), .str t]) := by
  unfold texts6
  simp only [List.forall_mem_cons]
  exact ⟨ly_yard_0, ly_yard_1, ly_yard_2, ly_yard_3, ly_yard_4, ly_yard_5, fun _ h => nomatch h⟩
theorem ly_note : ∀ t ∈ texts6, LineOk (.tuple [.str (Str.ofString "note"), .str t]) := by
  unfold texts6
  simp only [List.forall_mem_cons]
  exact ⟨ly_note_0, ly_note_1, ly_note_2, ly_note_3, ly_note_4, ly_note_5, fun _ h => nomatch h⟩
def ws6 : List (List Str) := [[(Str.ofString "")], [(Str.ofString ""), (Str.ofString "")], [(Str.ofString "2:"), (Str.ofString "+0"), (Str.ofString "+1")], [(Str.ofString "find"), (Str.ofString "4"), (Str.ofString "yes")], [(Str.ofString "x"), (Str.ofString ""), (Str.ofString "y")], [(Str.ofString "weighing"), (Str.ofString "ab"), (Str.ofString "12"), (Str.ofString "0,3"), (Str.ofString "7/2")]]
theorem texts_ws : ∀ t ∈ texts6, ∃ us : List Str, us ∈ ws6 ∧ t = line us := by
  unfold texts6
  simp only [List.forall_mem_cons]
  exact ⟨⟨[(Str.ofString "")], by decide +kernel, by decide +kernel⟩, ⟨[(Str.ofString ""), (Str.ofString "")], by decide +kernel, by decide +kernel⟩, ⟨[(Str.ofString "2:"), (Str.ofString "+0"), (Str.ofString "+1")], by decide +kernel, by decide +kernel⟩, ⟨[(Str.ofString "find"), (Str.ofString "4"), (Str.ofString "yes")], by decide +kernel, by decide +kernel⟩, ⟨[(Str.ofString "x"), (Str.ofString ""), (Str.ofString "y")], by decide +kernel, by decide +kernel⟩, ⟨[(Str.ofString "weighing"), (Str.ofString "ab"), (Str.ofString "12"), (Str.ofString "0,3"), (Str.ofString "7/2")], by decide +kernel, by decide +kernel⟩, fun _ h => nomatch h⟩
theorem ws6_ok : ∀ us ∈ ws6, us ≠ [] ∧ us.length ≤ 50 ∧ ∀ w ∈ us, Wd w := by decide +kernel
/-! ### fix -/
abbrev fixS : Str := Str.ofString "fix"
theorem wd_fix : Wd fixS := by decide +kernel
theorem rf_run {w1 : Str} {us : List Str} {d e : D} (hu : us ≠ []) (hw : ∀ w ∈ fixS :: w1 :: us, Wd w) (hn : us.length ≤ 900) (hr : G_read_number [.str w1] = .ok d)
    (he : (d = .none ∧ e = .none) ∨ ((∃ n : Int, d = .int n) ∧ e = .tuple [.str fixS, d, .str (line us)])) : G_read_fix [.str (line (fixS :: w1 :: us))] = .ok e := by
  have hlen := line_len hw
  have hlu : (line us).length ≤ 101 * us.length := line_len fun w m => hw w (List.mem_cons_of_mem _ (List.mem_cons_of_mem _ m))
  have z : sizeLine = 16777216 := rfl
  have ca : ∀ {r : Rho}, r[1]? = some (.sh (.list [.str fixS, .str w1, .str (line us)])) → cCall G_read_number (cCons (cB2 ixD (cVarC 1) (cK (.int 1))) cNil) r = .ok d := fun h =>
    ev_call (ev_cons (ev_b2 (x := .list [.str fixS, .str w1, .str (line us)]) (by unfold cVarC; rw [h]) rfl (ix_l 1 rfl rfl)) rfl) hr
  refine ev_run rfl (ev_seq (ev_set (ev_l (ev_m2F (a := line (fixS :: w1 :: us)) (y := .str sepS) (z := .int 2) rfl rfl rfl (splitMax_ok hu hw (by omega))))) ?_)
  rcases he with ⟨rfl, rfl⟩ | ⟨⟨n, rfl⟩, rfl⟩
  · exact ev_seqr (ev_ift (ev_orf rfl (ev_t1 (ca rfl) rfl)) (ev_ret rfl))
  · refine ev_seq (ev_iff (ev_orf rfl (ev_t1 (ca rfl) rfl)) rfl) (ev_ret (ev_tup (ev_cons rfl (ev_cons (ca rfl) (ev_cons (ev_m1 (a := sepS) (y := .list [.str (line us)]) rfl rfl ?_) rfl))) (small (by simp))))
    show (strsOf [.str (line us)]).bind (fun ys => joinW sepS ys) = _
    show joinW sepS [line us] = _
    unfold joinW
    rw [if_pos (by simp [len_sep]; omega)]
    show R.ok (PyData.str (line [line us])) = _
    rw [line_one]
theorem fix_rc {w1 : Str} {us : List Str} {e : D} (hw : ∀ w ∈ fixS :: w1 :: us, Wd w) (hn : us.length ≤ 900) (hf : G_read_fix [.str (line (fixS :: w1 :: us))] = .ok e) : G_read_command [.str (line (fixS :: w1 :: us))] = .ok e :=
  ev_run rfl (rc_empty (not_empty hw (.inl (by simp))) (rc_words rfl (by simp) hw (by simp only [List.length_cons]; omega)
    (ev_seq (ev_iff (ev_t2 rc_head rfl (by kernel_rfl)) rfl) (ev_seqr (ev_ift (ev_t2 rc_head rfl (by kernel_rfl)) (ev_ret (ev_call (ev_cons (x := .str (line (fixS :: w1 :: us))) rfl rfl) hf)))))))
theorem line3 {a b : Str} {us : List Str} (hu : us ≠ []) : line [a, b, line us] = line (a :: b :: us) := by
  rw [line_cons (w := a) (us := [b, line us]) (by simp), line_cons (w := b) (us := [line us]) (by simp), line_one, line_cons (w := a) (us := b :: us) (by simp), line_cons (w := b) hu]
def bad5 : List Str := [Str.ofString "1000", Str.ofString "01", Str.ofString "-1", Str.ofString "x", Str.ofString ""]
theorem bad5_in : ∀ z ∈ bad5, z ∈ badN := by decide +kernel
theorem written_fix {n : Nat} {us : List Str} (h : n < 1000) (hu : us ≠ []) (hw : ∀ w ∈ us, Wd w) (hn : us.length ≤ 50) :
    G__law_written [.tuple [.str fixS, .int (n : Nat), .str (line us)]] = .ok (.str (line (fixS :: numS n :: us))) := by
  have hlu := line_len hw
  have z : sizeLine = 16777216 := rfl
  refine ev_run rfl (ev_seqr (ev_ift (ev_t2 (x := .str fixS) (y := .str (Str.ofString "ask")) (ev_b2 (x := .tuple [.str fixS, .int (n : Nat), .str (line us)]) (y := .int 0) rfl rfl (ix_t 0 rfl rfl)) rfl (by kernel_rfl)) (ev_ret ?_)))
  refine ev_m1 (a := sepS) (y := .list [.str fixS, .str (numS n), .str (line us)]) rfl ?_ ?_
  · refine (ev_l (ev_lc (k := strOf) rfl (ev_it (x := .tuple [.str fixS, .int (n : Nat), .str (line us)]) rfl rfl) (small (by simp)) fun d m => ?_)).trans ?_
    · simp only [List.mem_cons, List.not_mem_nil, or_false] at m
      rcases m with rfl | rfl | rfl
      · exact ⟨_, rfl, rfl, ev_b1 (x := .str fixS) rfl rfl⟩
      · refine ⟨_, rfl, rfl, ev_b1 (x := .int (n : Nat)) rfl ?_⟩
        unfold strOf
        rw [strD_num (Nat.lt_trans h (by decide))]
      · exact ⟨_, rfl, rfl, ev_b1 (x := .str (line us)) rfl rfl⟩
    · show R.ok (PyData.list [strOf (.str fixS), strOf (.int (n : Nat)), strOf (.str (line us))]) = _
      have : strOf (.int (n : Nat)) = .str (numS n) := by
        unfold strOf
        rw [strD_num (Nat.lt_trans h (by decide))]
      rw [this]
      rfl
  · show joinW sepS [fixS, numS n, line us] = _
    have l1 := wd_fix.2.1
    have l2 := (wd_num h).2.1
    unfold joinW
    rw [if_pos (by simp [len_sep]; omega)]
    congr 2
    exact line3 hu
def badsX (n : Nat) (us : List Str) : List Str := found3 (line (fixS :: numS n :: us)) fixS (rst (numS n :: us)) ++ [fixS, Str.ofString "fix "] ++ bad5.map fun b => Str.ofString "fix " ++ b ++ (sepS ++ line us)
theorem fix_sp : Str.ofString "fix " = fixS ++ sepS := by decide +kernel
theorem spoilt_fix {n : Nat} {us : List Str} (h : n < 1000) (hu : us ≠ []) (hw : ∀ w ∈ us, Wd w) (hn : us.length ≤ 50) :
    G__law_spoilt [.tuple [.str fixS, .int (n : Nat), .str (line us)], .str (line (fixS :: numS n :: us))] = .ok (.list ((badsX n us).map .str)) := by
  have hlu := line_len hw
  have z : sizeLine = 16777216 := rfl
  have l1 := wd_fix.2.1
  have l2 := (wd_num h).2.1
  have hrs := line_rst fixS (numS n :: us)
  have hr : rst (numS n :: us) = sepS ++ line (numS n :: us) := if_neg (by simp)
  have hL : line (fixS :: numS n :: us) = (Str.ofString "fix " ++ numS n) ++ (sepS ++ line us) := by
    rw [line_cons (by simp), line_cons hu, fix_sp]
    simp only [app_assoc]
  have lf : (Str.ofString "fix ").length = 4 := by decide +kernel
  have hT : (line (fixS :: numS n :: us)).length = 4 + (numS n).length + (1 + (line us).length) := by
    rw [hL]
    simp only [Str.length_append, lf, len_sep]
  have hrl : (rst (numS n :: us)).length ≤ 100000 := by
    have e := Str.length_append fixS (rst (numS n :: us))
    rw [← hrs] at e
    omega
  refine ev_run rfl ?_
  have start : startR 8 [.tuple [.str fixS, .int (n : Nat), .str (line us)], .str (line (fixS :: numS n :: us))] = R0 (.tuple (.str fixS :: [.int (n : Nat), .str (line us)])) (fixS ++ rst (numS n :: us)) := by
    rw [← hrs]
    rfl
  show (sSeq _ _) _ = _
  rw [start]
  refine spoilt_pre wd_fix (by decide +kernel) hrl ?_
  rw [← hrs]
  refine spoilt_if (ev_t2 (x := .str fixS) (y := .list yn) rfl rfl (by kernel_rfl)) (ev_seqr (ev_ift (ev_t2 (x := .str fixS) (y := .str (Str.ofString "fix")) rfl rfl (by kernel_rfl)) (ev_seq (ev_set (d := .str (sepS ++ line us)) ?_) (ev_ret ?_))))
  · refine ev_sl (x := .str (line (fixS :: numS n :: us))) rfl (ev_o (ev_b2 (x := .int 4) (y := .int (numS n).length) rfl (ev_b1 (ev_b1 (ev_b2 rfl rfl (ix_t 1 rfl rfl)) (strD_num (Nat.lt_trans h (by decide)))) (lenD_str (by omega))) rfl)) rfl ?_
    rw [slD_str (by omega), hL]
    congr 2
    exact cut_from' (by rw [Str.length_append, lf]; simp)
  · refine ev_b2 (x := .list ((found3 (line (fixS :: numS n :: us)) fixS (rst (numS n :: us)) ++ [fixS, Str.ofString "fix "]).map .str)) (y := .list ((bad5.map fun b => Str.ofString "fix " ++ b ++ (sepS ++ line us)).map .str)) (ev_b2 (x := .list ((found3 (line (fixS :: numS n :: us)) fixS (rst (numS n :: us))).map .str)) (y := .list ([fixS, Str.ofString "fix "].map .str)) rfl rfl (add_strs (by simp))) ?_ (add_strs (by simp [bad5]))
    have e : ((bad5.map fun b => Str.ofString "fix " ++ b ++ (sepS ++ line us)).map PyData.str) = (bad5.map PyData.str).map fun d => match d with
        | .str b => .str (Str.ofString "fix " ++ b ++ (sepS ++ line us))
        | _ => .none := rfl
    rw [e]
    refine ev_l (ev_lc rfl rfl (small (by simp [bad5])) fun d m => ?_)
    obtain ⟨b, hb, rfl⟩ := List.mem_map.mp m
    have lb := (rn_badw b (bad5_in b hb)).2.1
    refine ⟨_, rfl, rfl, ev_b2 (x := .str (Str.ofString "fix " ++ b)) (y := .str (sepS ++ line us)) (ev_b2 (x := .str (Str.ofString "fix ")) (y := .str b) rfl rfl (addD_str (by omega))) rfl (addD_str ?_)⟩
    rw [Str.length_append, Str.length_append, lf, len_sep]
    omega
theorem plain_FIX : Plain (Txt.upper fixS) := ⟨by kernel_rfl, by kernel_rfl, by kernel_rfl⟩
theorem plain_fixx : Plain (fixS ++ Str.ofString "x") := ⟨by kernel_rfl, by kernel_rfl, by kernel_rfl⟩
theorem line_fix {n : Nat} {us : List Str} (h : n < 1000) (hu : us ≠ []) (hw : ∀ w ∈ us, Wd w) (hn : us.length ≤ 50) : LineOk (.tuple [.str fixS, .int (n : Nat), .str (line us)]) := by
  have hnu : ∀ v ∈ numS n :: us, Wd v := fun v m => (List.mem_cons.mp m).elim (fun e => e ▸ wd_num h) (hw v)
  have hd : ∀ {z : Str}, Wd z → ∀ v ∈ z :: numS n :: us, Wd v := fun hz v m => (List.mem_cons.mp m).elim (fun e => e ▸ hz) (hnu v)
  refine ⟨line (fixS :: numS n :: us), badsX n us, _, rfl, sm_shaped_tup ?_, written_fix h hu hw hn, fix_rc (hd wd_fix) (by omega) (rf_run hu (hd wd_fix) (by omega) (rn_num h) (.inr ⟨⟨_, rfl⟩, rfl⟩)), spoilt_fix h hu hw hn, ?_⟩
  · intro d m
    simp only [List.mem_cons, List.not_mem_nil, or_false] at m
    rcases m with rfl | rfl | rfl
    · exact sm_str (by decide +kernel)
    · exact sm_int _
    · exact sm_str (line_strOk hw)
  · intro b m
    unfold badsX found3 at m
    rcases List.mem_append.mp m with m | m
    · simp only [List.cons_append, List.nil_append, List.mem_cons, List.not_mem_nil, or_false] at m
      rcases m with rfl | rfl | rfl | rfl | rfl
      · rw [sp_line (by simp)]
        exact rc_none_head (fun v m => (List.mem_cons.mp m).elim (fun e => e ▸ wd_e) (hd wd_fix v)) (by simp; omega) (.inl (by simp)) plain_e (by kernel_rfl)
      · rw [← line_rst]
        exact rc_none_head (hd (by decide +kernel)) (by simp; omega) (.inl (by simp)) plain_FIX (by kernel_rfl)
      · rw [← line_rst]
        exact rc_none_head (hd (by decide +kernel)) (by simp; omega) (.inl (by simp)) plain_fixx (by kernel_rfl)
      · exact isOkN_eq (by decide +kernel)
      · exact isOkN_eq (by decide +kernel)
    · obtain ⟨z, hz, rfl⟩ := List.mem_map.mp m
      have hzb := rn_bad (bad5_in z hz)
      have e : Str.ofString "fix " ++ z ++ (sepS ++ line us) = line (fixS :: z :: us) := by
        rw [line_cons (by simp), line_cons hu, fix_sp]
        simp only [app_assoc]
      rw [e]
      have hz2 : ∀ w ∈ fixS :: z :: us, Wd w := fun v m => (List.mem_cons.mp m).elim (fun e => e ▸ wd_fix) fun m => (List.mem_cons.mp m).elim (fun e => e ▸ hzb.2) (hw v)
      exact fix_rc hz2 (by omega) (rf_run hu hz2 (by omega) hzb.1 (.inl ⟨rfl, rfl⟩))
end K80


set_option Elab.async false
set_option linter.all false
set_option maxRecDepth 100000
set_option maxHeartbeats 8000000
namespace K80
open PySem PySem.Spec PyProof.Rows L2 Z
/-! ### ask -/
def Smk (k : Nat) (d : D) : Prop := d.canLay0 = true ∧ d.depth ≤ k
theorem smk_all {k : Nat} {ds : List D} (h : ∀ d ∈ ds, Smk k d) : PyData.canLayAll0 ds = true ∧ PyData.depthAll ds ≤ k := by
  induction ds with
  | nil => exact ⟨by simp [PyData.canLayAll0], by simp [PyData.depthAll]⟩
  | cons d ds ih =>
    have a := h d (List.mem_cons_self ..)
    have b := ih fun e m => h e (List.mem_cons_of_mem _ m)
    refine ⟨by simp [PyData.canLayAll0, a.1, b.1], ?_⟩
    simp only [PyData.depthAll]
    exact Nat.max_le.mpr ⟨a.2, b.2⟩
theorem smk_tup {k : Nat} {ds : List D} (h : ∀ d ∈ ds, Smk k d) : Smk (k + 1) (.tuple ds) := by
  have := smk_all h
  refine ⟨by simpa [PyData.canLay0] using this.1, ?_⟩
  simp only [PyData.depth]
  have := this.2
  omega
theorem smk_list {k : Nat} {ds : List D} (h : ∀ d ∈ ds, Smk k d) : Smk (k + 1) (.list ds) := by
  have := smk_all h
  refine ⟨by simpa [PyData.canLay0] using this.1, ?_⟩
  simp only [PyData.depth]
  have := this.2
  omega
theorem smk_int {k : Nat} (n : Int) : Smk k (.int n) := ⟨by simp [PyData.canLay0], by simp [PyData.depth]⟩
theorem smk_none {k : Nat} : Smk k .none := ⟨by simp [PyData.canLay0], by simp [PyData.depth]⟩
theorem smk_str {k : Nat} {x : Str} (h : PyData.strOk x = true) : Smk k (.str x) := ⟨by simp [PyData.canLay0, h], by simp [PyData.depth]⟩
theorem Smk.sm {k : Nat} {d : D} (h : Smk k d) (hk : k ≤ 10) : Sm d := ⟨h.1, by have := h.2; omega⟩
abbrev starS : Str := Str.ofString "*"
abbrev slS : Str := Str.ofString "/"
abbrev askS : Str := Str.ofString "ask"
structure Tm where
  lot : Nat
  hh : Option Nat
  q : D
  rt : Str
def hhD : Option Nat → D
  | none => .none
  | some n => .int (n : Nat)
def Tm.d (t : Tm) : D := .tuple [.int (t.lot : Nat), hhD t.hh, t.q]
def tailS (l : Nat) : Option Nat → Str
  | none => numS l
  | some k => numS l ++ slS ++ numS k
def Tm.s (t : Tm) : Str := t.rt ++ starS ++ tailS t.lot t.hh
structure TmOk (t : Tm) : Prop where
  l : t.lot < 1000
  h : ∀ k, t.hh = some k → k < 1000
  r : RatOk t.q t.rt
theorem tl_star : TL.tl starS = [42] := by decide +kernel
theorem tl_sl : TL.tl slS = [47] := by decide +kernel
theorem len_star : starS.length = 1 := by decide +kernel
theorem len_sl : slS.length = 1 := by decide +kernel
theorem tail_len {l : Nat} {o : Option Nat} (hl : l < 1000) (h : ∀ k, o = some k → k < 1000) : (tailS l o).length ≤ 7 := by
  have num3 : ∀ {n : Nat}, n < 1000 → (numS n).length ≤ 3 := fun h => by rw [TL.len_tl, TL.tl_num]; exact TL.numL_len (k := 3) (by decide) (by omega)
  cases o with
  | none =>
    have := num3 hl
    show (numS l).length ≤ 7
    omega
  | some k =>
    have h1 := num3 hl
    have h2 := num3 (h k rfl)
    show (numS l ++ slS ++ numS k).length ≤ 7
    rw [Str.length_append, Str.length_append, len_sl]
    omega
theorem wd_app {a b : Str} (ha : Wd a) (hb : Wd b) (h : (a ++ b).length ≤ 100) : Wd (a ++ b) := by
  refine ⟨?_, h, ?_⟩
  · rw [TL.tl_append]
    intro m
    rcases List.mem_append.mp m with m | m
    · exact ha.1 m
    · exact hb.1 m
  · rw [TL.tl_append, List.all_append, ha.2.2, hb.2.2]
    rfl
theorem wd_tail {l : Nat} {o : Option Nat} (hl : l < 1000) (h : ∀ k, o = some k → k < 1000) : Wd (tailS l o) := by
  have ln := tail_len hl h
  cases o with
  | none => exact wd_num hl
  | some k =>
    have e : (numS l ++ slS ++ numS k).length ≤ 7 := ln
    have e2 : (numS l ++ slS ++ numS k).length = (numS l ++ slS).length + (numS k).length := Str.length_append _ _
    exact wd_app (wd_app (wd_num hl) (by decide +kernel) (by omega)) (wd_num (h k rfl)) (by omega)
theorem wd_tm {t : Tm} (T : TmOk t) : Wd t.s := by
  have l1 := T.r.l
  have l2 := tail_len T.l T.h
  have e1 := Str.length_append (t.rt ++ starS) (tailS t.lot t.hh)
  have e2 := Str.length_append t.rt starS
  have e3 := len_star
  exact wd_app (wd_app T.r.w (by decide +kernel) (by omega)) (wd_tail T.l T.h) (by omega)
theorem part_star {t : Tm} (T : TmOk t) : partD t.s (.str starS) = .ok (.tuple [.str t.rt, .str starS, .str (tailS t.lot t.hh)]) := by
  have l := (wd_tm T).2.1
  have h2 : (starS.length == 0) = false := by decide +kernel
  show (if (starS.length == 0) = false ∧ t.s.length ≤ sizeLine then R.ok (PyData.tuple [.str (Txt.partition t.s starS).1, .str (Txt.partition t.s starS).2.1, .str (Txt.partition t.s starS).2.2]) else .no) = _
  rw [if_pos ⟨h2, small (by omega)⟩]
  have e : Txt.partition t.s starS = (t.rt, starS, tailS t.lot t.hh) := TL.partition_app tl_star T.r.s
  rw [e]
def secD (o : Option Nat) : Str × Str := match o with
  | none => (Str.empty, Str.empty)
  | some k => (slS, numS k)
theorem part_sl {l : Nat} {o : Option Nat} (hl : l < 1000) (h : ∀ k, o = some k → k < 1000) : partD (tailS l o) (.str slS) = .ok (.tuple [.str (numS l), .str (secD o).1, .str (secD o).2]) := by
  have ln := tail_len hl h
  have h2 : (slS.length == 0) = false := by decide +kernel
  have hf : 47 ∉ TL.tl (numS l) := by rw [TL.tl_num]; exact TL.numL_free (.inl (by decide))
  show (if (slS.length == 0) = false ∧ (tailS l o).length ≤ sizeLine then R.ok (PyData.tuple [.str (Txt.partition (tailS l o) slS).1, .str (Txt.partition (tailS l o) slS).2.1, .str (Txt.partition (tailS l o) slS).2.2]) else .no) = _
  rw [if_pos ⟨h2, small (by omega)⟩]
  cases o with
  | none =>
    have e : Txt.partition (tailS l none) slS = (numS l, Str.empty, Str.empty) := TL.partition_none tl_sl hf
    rw [e]
    rfl
  | some k =>
    have e : Txt.partition (tailS l (some k)) slS = (numS l, slS, numS k) := TL.partition_app tl_sl hf
    rw [e]
    rfl
theorem read_term_ok {t : Tm} (T : TmOk t) : G_read_term [.str t.s] = .ok t.d := by
  obtain ⟨a, b, hq⟩ := T.r.p
  have hro := T.r.o
  have hd : t.d = .tuple [.int (t.lot : Nat), hhD t.hh, .tuple [.int a, .int b]] := by unfold Tm.d; rw [hq]
  rw [hd]
  rw [hq] at hro
  refine ev_run rfl (ev_seq (ev_asg (ev_m1 (a := t.s) (y := .str starS) rfl rfl (part_star T)) rfl) (ev_seq (ev_set (ev_call (ev_cons (x := .str t.rt) rfl rfl) hro)) (ev_seq (ev_iff (ev_orf (ev_t2 (x := .str starS) (y := .str (Str.ofString "")) rfl rfl (by kernel_rfl)) (ev_t1 rfl rfl)) rfl)
    (ev_seq (ev_asg (ev_m1 (a := tailS t.lot t.hh) (y := .str slS) rfl rfl (part_sl T.l T.h)) rfl) (ev_seq (ev_set (ev_call (ev_cons (x := .str (numS t.lot)) rfl rfl) (rn_num T.l))) (ev_seq (ev_set (d := .none) rfl) ?_))))))
  cases hh : t.hh with
  | none =>
    refine ev_seq (ev_iff (ev_t2 (x := .str Str.empty) (y := .str (Str.ofString "")) rfl rfl (by kernel_rfl)) rfl) (ev_seq (ev_iff (ev_t1 (x := .int (t.lot : Nat)) rfl rfl) rfl) (ev_ret (ev_tup (ev_cons (x := .int (t.lot : Nat)) rfl (ev_cons (x := .none) rfl (ev_cons (x := .tuple [.int a, .int b]) rfl rfl))) (small (by simp)))))
  | some k =>
    refine ev_seq (ev_ift (ev_t2 (x := .str slS) (y := .str (Str.ofString "")) rfl rfl (by kernel_rfl)) (ev_seq (ev_set (ev_call (ev_cons (x := .str (numS k)) rfl rfl) (rn_num (T.h k hh)))) (ev_iff (ev_t1 (x := .int (k : Nat)) rfl rfl) rfl))) (ev_seq (ev_iff (ev_t1 (x := .int (t.lot : Nat)) rfl rfl) rfl) (ev_ret (ev_tup (ev_cons (x := .int (t.lot : Nat)) rfl (ev_cons (x := .int (k : Nat)) rfl (ev_cons (x := .tuple [.int a, .int b]) rfl rfl))) (small (by simp)))))
/-! the lines of an ask -/
theorem ask_rc {us : List Str} {e : D} (hu : us ≠ []) (hw : ∀ w ∈ askS :: us, Wd w) (hn : us.length ≤ 900) (hf : G_read_ask [.list ((askS :: us).map .str)] = .ok e) : G_read_command [.str (line (askS :: us))] = .ok e :=
  ev_run rfl (rc_empty (not_empty hw (.inl hu)) (rc_words rfl (by simp) hw (by simp only [List.length_cons]; omega)
    (ev_seq (ev_iff (ev_t2 rc_head rfl (by kernel_rfl)) rfl) (ev_seq (ev_iff (ev_t2 rc_head rfl (by kernel_rfl)) rfl) (ev_seqr (ev_ift (ev_t2 rc_head rfl (by kernel_rfl)) (ev_ret (ev_call (ev_cons (x := .list ((askS :: us).map .str)) rfl rfl) hf))))))))
abbrev relD : D := .tuple [(.str (Str.ofString "<=")), (.str (Str.ofString ">=")), (.str (Str.ofString "="))]
theorem lt_int {a b : Int} {c : Bool} (h : c = decide (a < b)) : ltD (.int a) (.int b) = .ok c := by rw [h]; rfl
theorem ask_len {us : List Str} {r : Rho} (h : r[0]? = some (.sh (.list (us.map .str)))) : cT2 ltD (cB1 lenD (cVarC 0)) (cK (.int 4)) r = .ok (decide (us.length < 4)) := by
  refine ev_t2 (x := .int (us.length : Nat)) (y := .int 4) (ev_b1 (x := .list (us.map .str)) (by unfold cVarC; rw [h]) ?_) rfl (lt_int ?_)
  · show R.ok (PyData.int ((us.map PyData.str).length : Nat)) = _
    rw [List.length_map]
  · by_cases q : us.length < 4
    · rw [decide_eq_true q, decide_eq_true (by omega)]
    · rw [decide_eq_false q, decide_eq_false (by omega)]
theorem ask_badrel {x : Str} {us : List Str} (h : notInD (.str x) relD = .ok true) : G_read_ask [.list ((askS :: x :: us).map .str)] = .ok .none := by
  refine ev_run rfl (ev_seqr (ev_ift (t := cOr _ _) ?_ (ev_ret rfl)))
  cases q : decide ((askS :: x :: us).length < 4) with
  | true => exact ev_ort ((ask_len rfl).trans (by rw [q]))
  | false => exact ev_orf ((ask_len rfl).trans (by rw [q])) (ev_t2 (x := .str x) (y := relD) (ev_b2 (x := .list ((askS :: x :: us).map .str)) (y := .int 1) rfl rfl (ix_l 1 rfl rfl)) rfl h)
def rtOf (w : D) : D := match G_read_term [w] with
  | .ok d => d
  | _ => .none
theorem cut_three {a b c : D} {ds : List D} : slD (some 3) none (.list (a :: b :: c :: ds)) = .ok (.list ds) := by
  show R.ok (PyData.list (Z.cutD (a :: b :: c :: ds) (some 3) none)) = _
  unfold Z.cutD
  have e : HT.sIx (a :: b :: c :: ds).length 0 (some 3) = 3 := by
    have := HT.sIx_nat (a :: b :: c :: ds).length 0 3
    rw [show ((3 : Nat) : Int) = 3 from rfl] at this
    rw [this]; simp only [List.length_cons]; omega
  rw [e, HT.sIx_none]
  have : (a :: b :: c :: ds).length - 3 = ds.length := rfl
  rw [this]
  simp
theorem ask_terms {x rt : Str} {us : List Str} {q : D} {b : Bool} {ds : List D} (hx : notInD (.str x) relD = .ok false) (hne : us ≠ []) (hr : G_ratio_of [.str rt] = .ok q) (hq : isND q = .ok false) (hn : us.length ≤ 900)
    (ht : ∀ u ∈ us, ∃ d, G_read_term [.str u] = .ok d) (hds : (us.map PyData.str).map rtOf = ds) (hin : inD .none (.list ds) = .ok b) :
    G_read_ask [.list ((askS :: x :: rt :: us).map .str)] = .ok (if b then .none else .tuple [.str askS, .str x, q, .list ds]) := by
  have l4 : decide ((askS :: x :: rt :: us).length < 4) = false := by
    cases us with
    | nil => exact absurd rfl hne
    | cons a r => simp
  have ix1 : ∀ {r : Rho}, r[0]? = some (.sh (.list ((askS :: x :: rt :: us).map .str))) → cB2 ixD (cVarC 0) (cK (.int 1)) r = .ok (.str x) := fun h =>
    ev_b2 (x := .list ((askS :: x :: rt :: us).map .str)) (y := .int 1) (by unfold cVarC; rw [h]) rfl (ix_l 1 rfl rfl)
  refine ev_run rfl (ev_seq (ev_iff (ev_orf ((ask_len rfl).trans (by rw [l4])) (ev_t2 (y := relD) (ix1 rfl) rfl hx)) rfl) (ev_seq (ev_set (ev_call (ev_cons (x := .str rt) (ev_b2 (x := .list ((askS :: x :: rt :: us).map .str)) (y := .int 2) rfl rfl (ix_l 2 rfl rfl)) rfl) hr)) (ev_seq (ev_set (d := .list ds) ?_) ?_)))
  · rw [← hds]
    refine ev_l (ev_lc rfl (ev_it (x := .list (us.map .str)) (ev_sl (x := .list ((askS :: x :: rt :: us).map .str)) rfl (ev_o rfl) rfl cut_three) rfl) (small (by rw [List.length_map]; omega)) fun d hd => ?_)
    obtain ⟨u, hu, rfl⟩ := List.mem_map.mp hd
    obtain ⟨e, he⟩ := ht u hu
    refine ⟨_, rfl, rfl, ev_call (ev_cons (x := .str u) rfl rfl) ?_⟩
    unfold rtOf
    rw [he]
  · cases b with
    | true => exact ev_seqr (ev_ift (ev_orf (ev_t1 (x := q) rfl hq) (ev_t2 (x := .none) (y := .list ds) rfl rfl hin)) (ev_ret rfl))
    | false => exact ev_seq (ev_iff (ev_orf (ev_t1 (x := q) rfl hq) (ev_t2 (x := .none) (y := .list ds) rfl rfl hin)) rfl) (ev_ret (ev_tup (ev_cons (x := .str askS) rfl (ev_cons (ix1 rfl) (ev_cons (x := q) rfl (ev_cons (x := .list ds) rfl rfl)))) (small (by simp))))
end K80


set_option Elab.async false
set_option linter.all false
set_option maxRecDepth 100000
set_option maxHeartbeats 8000000
namespace K80
open PySem PySem.Spec PyProof.Rows L2 Z
abbrev askD (rel : Str) (q : D) (ts : List Tm) : D := .tuple [.str askS, .str rel, q, .list (ts.map Tm.d)]
theorem words_ask {rel rt : Str} {q : D} {ts : List Tm} (hrel : Wd rel) (hq : RatOk q rt) (ht : ∀ t ∈ ts, TmOk t) : ∀ v ∈ askS :: rel :: rt :: ts.map Tm.s, Wd v := by
  intro v m
  rcases List.mem_cons.mp m with rfl | m
  · decide +kernel
  rcases List.mem_cons.mp m with rfl | m
  · exact hrel
  rcases List.mem_cons.mp m with rfl | m
  · exact hq.w
  obtain ⟨t, q, rfl⟩ := List.mem_map.mp m
  exact wd_tm (ht t q)
theorem written_ask {rel rt : Str} {q : D} {ts : List Tm} (hrel : Wd rel) (hq : RatOk q rt) (hn : ts.length ≤ 50) (ht : ∀ t ∈ ts, TmOk t) : G__law_written [askD rel q ts] = .ok (.str (line (askS :: rel :: rt :: ts.map Tm.s))) := by
  have z : sizeLine = 16777216 := rfl
  have ix : ∀ {r : Rho} (j : Nat) {k : Int} {d : D}, r[0]? = some (.sh (askD rel q ts)) → k = (j : Int) → [PyData.str askS, .str rel, q, .list (ts.map Tm.d)][j]? = some d → cB2 ixD (cVarC 0) (cK (.int k)) r = .ok d := fun {r} j {k d} h e hd =>
    ev_b2 (x := askD rel q ts) (by unfold cVarC; rw [h]) rfl (ix_t j e hd)
  refine ev_run rfl (ev_seq (ev_iff (ev_t2 (x := .str askS) (y := .str (Str.ofString "ask")) (ix 0 rfl rfl rfl) rfl (by kernel_rfl)) rfl) (ev_seq (ev_own (ds := [askS, rel, rt].map .str) (ev_lst (ev_cons (x := .str askS) rfl (ev_cons (ix 1 rfl rfl rfl) (ev_cons (ev_call (ev_cons (ix 2 rfl rfl rfl) rfl) hq.t) rfl))) (small (by simp))) (show 1 < 7 from by decide)) ?_))
  obtain ⟨r', h1, a, b, c, d, hr⟩ := ev_for (r := [.sh (askD rel q ts), .ow ([askS, rel, rt].map .str), .un, .un, .un, .un, .un]) (ds := ts.map Tm.d)
    (F := (sSeq (sSet 5 (cB2 addD (cB2 addD (cCall G__law_text (cCons (cVar 4) cNil)) (cK (.str (Str.ofString "*")))) (cB1 strD (cVarC 2))))
    (sSeq (sIf (cT1 notND (cVarC 3)) (sSet 5 (cB2 addD (cB2 addD (cVarC 5) (cK (.str (Str.ofString "/")))) (cB1 strD (cVarC 3)))) sNil)
    (sApp 1 (cVar 5))))) (A := gTp (gsCons (gNm 2) (gsCons (gNm 3) (gsCons (gNm 4) gsNil))))
    (fun j r => ∃ a b c d : Sl, r = [.sh (askD rel q ts), .ow ((askS :: rel :: rt :: (ts.take j).map Tm.s).map .str), a, b, c, d, .un])
    (fi := cIt (cB2 ixD (cVarC 0) (cK (.int 3)))) (ev_it (x := .list (ts.map Tm.d)) (ix 3 rfl rfl rfl) rfl) ⟨.un, .un, .un, .un, rfl⟩ (fun j d r hd ⟨a, b, c, e, hr⟩ => by
      rw [List.getElem?_map] at hd
      obtain ⟨t, h1, rfl⟩ := Option.map_eq_some_iff.mp hd
      have T := ht t (List.mem_of_getElem? h1)
      have hj : j < ts.length := (List.getElem?_eq_some_iff.mp h1).1
      subst hr
      have lr := T.r.l
      have ll := (wd_num T.l).2.1
      have ltm := (wd_tm T).2.1
      have e1 : (t.rt ++ starS).length = t.rt.length + 1 := by rw [Str.length_append, len_star]
      have e2 : (t.rt ++ starS ++ numS t.lot).length = t.rt.length + 1 + (numS t.lot).length := by rw [Str.length_append, e1]
      have nx : ∀ {x y z w : Sl}, (∃ a b c d : Sl, ([.sh (askD rel q ts), .ow ((askS :: rel :: rt :: (ts.take j).map Tm.s).map .str ++ [.str t.s]), x, y, z, w, .un] : Rho) = [.sh (askD rel q ts), .ow ((askS :: rel :: rt :: (ts.take (j + 1)).map Tm.s).map .str), a, b, c, d, .un]) := fun {x y z w} => by
        refine ⟨x, y, z, w, ?_⟩
        have ht1 : ts.take (j + 1) = ts.take j ++ [t] := by rw [List.take_add_one, h1]; rfl
        rw [ht1]
        simp
      have lim : ((askS :: rel :: rt :: (ts.take j).map Tm.s).map PyData.str).length < sizeLine := by
        simp
        omega
      have ws : (t.rt ++ starS ++ numS t.lot).length ≤ sizeLine := by omega
      refine ⟨_, [.sh (askD rel q ts), .ow ((askS :: rel :: rt :: (ts.take j).map Tm.s).map .str ++ [.str t.s]), .sh (.int (t.lot : Nat)), .sh (hhD t.hh), .sh t.q, .sh (.str t.s), .un], rfl, ?_, nx⟩
      refine ev_seq (r' := [.sh (askD rel q ts), .ow ((askS :: rel :: rt :: (ts.take j).map Tm.s).map .str), .sh (.int (t.lot : Nat)), .sh (hhD t.hh), .sh t.q, .sh (.str (t.rt ++ starS ++ numS t.lot)), .un]) (ev_set (d := .str (t.rt ++ starS ++ numS t.lot)) (ev_b2 (x := .str (t.rt ++ starS)) (y := .str (numS t.lot)) (ev_b2 (x := .str t.rt) (y := .str starS) (ev_call (ev_cons (x := t.q) rfl rfl) T.r.t) rfl (addD_str (by rw [len_star]; omega))) (ev_b1 (x := .int (t.lot : Nat)) rfl (strD_num (Nat.lt_trans T.l (by decide)))) (addD_str (by omega)))) ?_
      cases hh : t.hh with
      | none =>
        have es : t.s = t.rt ++ starS ++ numS t.lot := by unfold Tm.s; rw [hh]; rfl
        rw [es]
        exact ev_seq (ev_iff (ev_t1 (x := .none) rfl rfl) rfl) (ev_app rfl rfl lim)
      | some k =>
        have es : t.s = t.rt ++ starS ++ numS t.lot ++ slS ++ numS k := by unfold Tm.s; rw [hh]; show t.rt ++ starS ++ (numS t.lot ++ slS ++ numS k) = _; simp only [app_assoc]
        rw [es]
        have lk := (wd_num (T.h k hh)).2.1
        have e3 : (t.rt ++ starS ++ numS t.lot ++ slS).length = t.rt.length + 1 + (numS t.lot).length + 1 := by rw [Str.length_append, e2, len_sl]
        exact ev_seq (ev_ift (ev_t1 (x := .int (k : Nat)) rfl rfl) (ev_set (ev_b2 (x := .str (t.rt ++ starS ++ numS t.lot ++ slS)) (y := .str (numS k)) (ev_b2 (x := .str (t.rt ++ starS ++ numS t.lot)) (y := .str slS) rfl rfl (addD_str (by rw [len_sl]; omega))) (ev_b1 (x := .int (k : Nat)) rfl (strD_num (Nat.lt_trans (T.h k hh) (by decide)))) (addD_str (by omega))))) (ev_app rfl rfl lim))
  refine ev_seq h1 (ev_ret ?_)
  subst hr
  rw [List.length_map, List.take_length]
  exact ev_m1 (a := sepS) (y := .list ((askS :: rel :: rt :: ts.map Tm.s).map .str)) rfl rfl (joinD_words (words_ask hrel hq ht) (by simp; omega))
theorem tm_sm {t : Tm} (T : TmOk t) : Smk 2 t.d := by
  obtain ⟨a, b, hq⟩ := T.r.p
  refine smk_tup fun d m => ?_
  simp only [List.mem_cons, List.not_mem_nil, or_false] at m
  rcases m with rfl | rfl | rfl
  · exact smk_int _
  · cases t.hh with
    | none => exact smk_none
    | some k => exact smk_int _
  · rw [hq]
    refine smk_tup (k := 0) fun d m => ?_
    simp only [List.mem_cons, List.not_mem_nil, or_false] at m
    rcases m with rfl | rfl <;> exact smk_int _
theorem rt_of_tm {t : Tm} (T : TmOk t) : rtOf (.str t.s) = t.d := by
  unfold rtOf
  rw [read_term_ok T]
theorem rel_ok : ∀ x ∈ relS, Wd x ∧ x.length ≤ 2 := by decide +kernel
theorem rel_in {x : Str} (h : x ∈ relS) : notInD (.str x) relD = .ok false := by
  unfold relS at h
  simp only [List.mem_cons, List.not_mem_nil, or_false] at h
  rcases h with rfl | rfl | rfl <;> kernel_rfl
theorem terms_map {ts : List Tm} (ht : ∀ t ∈ ts, TmOk t) : ((ts.map Tm.s).map PyData.str).map rtOf = ts.map Tm.d := by
  rw [List.map_map, List.map_map]
  exact List.map_congr_left fun t m => rt_of_tm (ht t m)
theorem read_ask_ok {rel rt : Str} {q : D} {ts : List Tm} (hrel : rel ∈ relS) (hq : RatOk q rt) (hn : ts.length ≤ 50) (hne : ts ≠ []) (ht : ∀ t ∈ ts, TmOk t) : G_read_command [.str (line (askS :: rel :: rt :: ts.map Tm.s))] = .ok (askD rel q ts) := by
  obtain ⟨a, b, hq2⟩ := hq.p
  refine ask_rc (by simp) (words_ask (rel_ok rel hrel).1 hq ht) (by simp; omega) ((ask_terms (b := false) (ds := ts.map Tm.d) (rel_in hrel) (by simpa using hne) hq.o (by rw [hq2]; rfl) (by simp; omega) ?_ (terms_map ht) ?_).trans rfl)
  · intro u m
    obtain ⟨t, h, rfl⟩ := List.mem_map.mp m
    exact ⟨_, read_term_ok (ht t h)⟩
  · rw [in_none fun d m => by obtain ⟨t, h, rfl⟩ := List.mem_map.mp m; exact (tm_sm (ht t h)).sm (by decide)]
    congr 1
    rw [List.any_eq_false]
    intro d m
    obtain ⟨t, h, rfl⟩ := List.mem_map.mp m
    simp [isN, Tm.d]
/-- a line of an ask with words behind it -/
theorem ask_more {rel rt x : Str} {q : D} {ts : List Tm} {vs : List Str} (hrel : rel ∈ relS) (hq : RatOk q rt) (hn : ts.length ≤ 50) (hne : ts ≠ []) (ht : ∀ t ∈ ts, TmOk t) (hv : ∀ v ∈ vs, Wd v ∧ G_read_term [.str v] = .ok .none) (hvs : vs ≠ []) (h9 : vs.length ≤ 9) (e : x = sepS ++ line vs) :
    G_read_command [.str (line (askS :: rel :: rt :: ts.map Tm.s) ++ x)] = .ok .none := by
  obtain ⟨a, b, hq2⟩ := hq.p
  rw [line_sp (by simp) hvs e]
  show G_read_command [.str (line (askS :: (rel :: rt :: (ts.map Tm.s ++ vs))))] = _
  have nn : ∀ v ∈ vs, rtOf (.str v) = .none := fun v m => by
    unfold rtOf
    rw [(hv v m).2]
  refine ask_rc (by simp) ?_ (by simp; omega) ((ask_terms (b := true) (ds := ts.map Tm.d ++ vs.map fun _ => .none) (rel_in hrel) (by simp [hne]) hq.o (by rw [hq2]; rfl) (by simp; omega) ?_ ?_ ?_).trans rfl)
  · intro v m
    have hw := words_ask (rel_ok rel hrel).1 hq ht
    simp only [List.mem_cons, List.mem_append] at m
    rcases m with rfl | rfl | rfl | m | m
    · exact hw _ (by simp)
    · exact hw _ (by simp)
    · exact hw _ (by simp)
    · exact hw _ (by simp [m])
    · exact (hv v m).1
  · intro u m
    rcases List.mem_append.mp m with m | m
    · obtain ⟨t, h, rfl⟩ := List.mem_map.mp m
      exact ⟨_, read_term_ok (ht t h)⟩
    · exact ⟨_, (hv u m).2⟩
  · rw [List.map_append, List.map_append, terms_map ht, List.map_map]
    congr 1
    exact List.map_congr_left fun v m => nn v m
  · rw [in_none]
    · congr 1
      cases vs with
      | nil => exact absurd rfl hvs
      | cons v r => simp [isN]
    · intro d m
      rcases List.mem_append.mp m with m | m
      · obtain ⟨t, h, rfl⟩ := List.mem_map.mp m; exact (tm_sm (ht t h)).sm (by decide)
      · obtain ⟨v, _, rfl⟩ := List.mem_map.mp m; exact sm_none
def closed3 : List Str := [Str.ofString "ask <= 1", Str.ofString "ask <= 2/4 1*0", Str.ofString "ask <= 1/1 1*0"]
def bad12 : List Str := [Str.ofString "1", Str.ofString "*0", Str.ofString "1*", Str.ofString "1*0/", Str.ofString "1*x", Str.ofString "2/2*0", Str.ofString "1*01", Str.ofString "1*0/x", Str.ofString "1**0", Str.ofString "01*0", Str.ofString "1*-1", Str.ofString "-0*1"]
theorem closed3_none : (closed3.all fun b => isOkN (G_read_command [.str b])) = true := by decide +kernel
theorem bad12_none : (bad12.all fun b => isOkN (G_read_command [.str (Str.ofString "ask <= 1 " ++ b)])) = true := by decide +kernel
theorem bt_none : ([Str.ofString "", Str.ofString "1", Str.ofString "x"].all fun b => isOkN (G_read_term [.str b])) = true := by decide +kernel
def badsA (rel rt : Str) (us : List Str) : List Str := badsF askS (rel :: rt :: us) ++ badR.map (fun b => Str.ofString "ask " ++ b ++ line (rt :: us)) ++ closed3 ++ bad12.map (fun b => Str.ofString "ask <= 1 " ++ b)
theorem ask_sp : Str.ofString "ask " = askS ++ sepS := by decide +kernel
theorem wd_ask : Wd askS := by decide +kernel
theorem badR_ok : ∀ b ∈ badR, Wd b ∧ b.length ≤ 2 := by decide +kernel
theorem bad12_ok : ∀ b ∈ bad12, b.length ≤ 10 := by decide +kernel
theorem spoilt_ask {rel rt : Str} {q : D} {ts : List Tm} (hrel : rel ∈ relS) (hq : RatOk q rt) (hn : ts.length ≤ 50) (ht : ∀ t ∈ ts, TmOk t) :
    G__law_spoilt [askD rel q ts, .str (line (askS :: rel :: rt :: ts.map Tm.s))] = .ok (.list ((badsA rel rt (ts.map Tm.s)).map .str)) := by
  have z : sizeLine = 16777216 := rfl
  have hro := rel_ok rel hrel
  have hw := words_ask hro.1 hq ht
  have hlen := line_len hw
  have htl : (line (rt :: ts.map Tm.s)).length ≤ 101 * (rt :: ts.map Tm.s).length := line_len fun v m => hw v (by simp only [List.mem_cons] at m ⊢; right; right; exact m)
  simp only [List.length_cons, List.length_map] at hlen htl
  have hrs := line_rst askS (rel :: rt :: ts.map Tm.s)
  have la : (Str.ofString "ask ").length = 4 := by decide +kernel
  have lc : (Str.ofString "ask <= 1 ").length = 9 := by decide +kernel
  have hL : line (askS :: rel :: rt :: ts.map Tm.s) = (Str.ofString "ask " ++ rel ++ sepS) ++ line (rt :: ts.map Tm.s) := by
    rw [line_cons (by simp), line_cons (w := rel) (by simp), ask_sp]
    simp only [app_assoc]
  have hP : (Str.ofString "ask " ++ rel ++ sepS).length = 5 + rel.length := by
    simp only [Str.length_append, la, len_sep]
    omega
  have hrl : (rst (rel :: rt :: ts.map Tm.s)).length ≤ 100000 := by
    have e := Str.length_append askS (rst (rel :: rt :: ts.map Tm.s))
    rw [← hrs] at e
    omega
  refine ev_run rfl ?_
  have start : startR 8 [askD rel q ts, .str (line (askS :: rel :: rt :: ts.map Tm.s))] = R0 (.tuple (.str askS :: [.str rel, q, .list (ts.map Tm.d)])) (askS ++ rst (rel :: rt :: ts.map Tm.s)) := by
    rw [← hrs]
    rfl
  show (sSeq _ _) _ = _
  rw [start]
  refine spoilt_pre wd_ask (by decide +kernel) hrl ?_
  rw [← hrs]
  refine spoilt_if (ev_t2 (x := .str askS) (y := .list yn) rfl rfl (by kernel_rfl)) (spoilt_if (ev_t2 (x := .str askS) (y := .str (Str.ofString "fix")) rfl rfl (by kernel_rfl)) (spoilt_tail (by omega) (by simp) (ev_seqr (ev_ift (ev_t2 (x := .str askS) (y := .str (Str.ofString "ask")) rfl rfl (by kernel_rfl)) (ev_seq (ev_set (d := .str (line (rt :: ts.map Tm.s))) ?_) (ev_seq (ev_set (d := .list ((badsF askS (rel :: rt :: ts.map Tm.s) ++ badR.map (fun b => Str.ofString "ask " ++ b ++ line (rt :: ts.map Tm.s)) ++ closed3).map .str)) ?_) (ev_ret ?_)))))))
  · refine ev_sl (x := .str (line (askS :: rel :: rt :: ts.map Tm.s))) rfl (ev_o (ev_b2 (x := .int 5) (y := .int rel.length) rfl (ev_b1 (ev_b2 rfl rfl (ix_t 1 rfl rfl)) (lenD_str (by omega))) rfl)) rfl ?_
    rw [slD_str (by omega), hL]
    congr 2
    exact cut_from' (by rw [hP]; simp)
  · refine ev_b2 (x := .list ((badsF askS (rel :: rt :: ts.map Tm.s) ++ badR.map (fun b => Str.ofString "ask " ++ b ++ line (rt :: ts.map Tm.s))).map .str)) (y := .list (closed3.map .str)) (ev_b2 (x := .list ((badsF askS (rel :: rt :: ts.map Tm.s)).map .str)) (y := .list ((badR.map (fun b => Str.ofString "ask " ++ b ++ line (rt :: ts.map Tm.s))).map .str)) rfl ?_ (add_strs (by simp [badsF, badR]))) rfl (add_strs (by simp [badsF, badR, closed3]))
    have e : ((badR.map fun b => Str.ofString "ask " ++ b ++ line (rt :: ts.map Tm.s)).map PyData.str) = (badR.map PyData.str).map fun d => match d with
        | .str b => .str (Str.ofString "ask " ++ b ++ line (rt :: ts.map Tm.s))
        | _ => .none := rfl
    rw [e]
    refine ev_l (ev_lc rfl rfl (small (by simp [badR])) fun d m => ?_)
    obtain ⟨b, hb, rfl⟩ := List.mem_map.mp m
    have lb := (badR_ok b hb).2
    refine ⟨_, rfl, rfl, ev_b2 (x := .str (Str.ofString "ask " ++ b)) (y := .str (line (rt :: ts.map Tm.s))) (ev_b2 (x := .str (Str.ofString "ask ")) (y := .str b) rfl rfl (addD_str (by omega))) rfl (addD_str ?_)⟩
    rw [Str.length_append, la]
    omega
  · refine ev_b2 (x := .list ((badsF askS (rel :: rt :: ts.map Tm.s) ++ badR.map (fun b => Str.ofString "ask " ++ b ++ line (rt :: ts.map Tm.s)) ++ closed3).map .str)) (y := .list ((bad12.map fun b => Str.ofString "ask <= 1 " ++ b).map .str)) rfl ?_ (add_strs (by simp [badsF, badR, closed3, bad12]))
    have e : ((bad12.map fun b => Str.ofString "ask <= 1 " ++ b).map PyData.str) = (bad12.map PyData.str).map fun d => match d with
        | .str b => .str (Str.ofString "ask <= 1 " ++ b)
        | _ => .none := rfl
    rw [e]
    refine ev_l (ev_lc rfl rfl (small (by simp [bad12])) fun d m => ?_)
    obtain ⟨b, hb, rfl⟩ := List.mem_map.mp m
    have lb := bad12_ok b hb
    exact ⟨_, rfl, rfl, ev_b2 (x := .str (Str.ofString "ask <= 1 ")) (y := .str b) rfl rfl (addD_str (by omega))⟩
theorem rel_out {x : Str} (hx : Wd x) (h : relS.contains x = false) : notInD (.str x) relD = .ok true := by
  have s1 : PyData.strOk x = true := by
    have := line_strOk (ws := [x]) (by intro v m; rw [List.mem_singleton.mp m]; exact hx)
    rwa [line_one] at this
  have ne : ∀ z ∈ relS, z ≠ x := fun z m e => by
    subst e
    have : relS.contains z = true := List.contains_iff_mem.mpr m
    rw [this] at h
    cases h
  have hin : inD (.str x) relD = .ok false := by
    show memD (.str x) relD (relS.map .str) = _
    unfold memD
    rw [lay_str s1]
    have : SeqAt.shaped relD = true := by decide +kernel
    rw [this]
    have a : ((relS.map PyData.str).any fun z => PyData.eqv z (.str x)) = false := by
      rw [List.any_eq_false]
      intro d m
      obtain ⟨z, hz, rfl⟩ := List.mem_map.mp m
      simp only [PyData.eqv]
      rw [beq_iff_eq]
      exact ne z hz
    rw [a]
    rfl
  unfold notInD
  rw [hin]
  rfl
theorem plain_ASK : Plain (Txt.upper askS) := ⟨by kernel_rfl, by kernel_rfl, by kernel_rfl⟩
theorem plain_askx : Plain (askS ++ Str.ofString "x") := ⟨by kernel_rfl, by kernel_rfl, by kernel_rfl⟩
theorem bt_one {b : Str} (h : b ∈ [Str.ofString "", Str.ofString "1", Str.ofString "x"]) : Wd b ∧ G_read_term [.str b] = .ok .none := by
  refine ⟨?_, isOkN_eq (List.all_eq_true.mp bt_none b h)⟩
  simp only [List.mem_cons, List.not_mem_nil, or_false] at h
  rcases h with rfl | rfl | rfl
  · exact wd_e
  · exact wd_1
  · exact wd_x
theorem bads_ask {rel rt : Str} {q : D} {ts : List Tm} (hrel : rel ∈ relS) (hq : RatOk q rt) (hn : ts.length ≤ 50) (hne : ts ≠ []) (ht : ∀ t ∈ ts, TmOk t) : ∀ b ∈ badsA rel rt (ts.map Tm.s), G_read_command [.str b] = .ok .none := by
  have hro := rel_ok rel hrel
  have hw := words_ask hro.1 hq ht
  have hd : ∀ {z : Str}, Wd z → ∀ v ∈ z :: rel :: rt :: ts.map Tm.s, Wd v := fun hz v m => (List.mem_cons.mp m).elim (fun e => e ▸ hz) (fun m => hw v (List.mem_cons_of_mem _ m))
  intro b m
  unfold badsA at m
  rcases List.mem_append.mp m with m | m
  rcases List.mem_append.mp m with m | m
  rcases List.mem_append.mp m with m | m
  · simp only [badsF, List.cons_append, List.nil_append, List.mem_cons, List.not_mem_nil, or_false] at m
    rcases m with rfl | rfl | rfl | rfl | rfl | rfl
    · rw [sp_line (by simp)]
      exact rc_none_head (fun v m => (List.mem_cons.mp m).elim (fun e => e ▸ wd_e) (hw v)) (by simp; omega) (.inl (by simp)) plain_e (by kernel_rfl)
    · rw [← line_rst]
      exact rc_none_head (hd (by decide +kernel)) (by simp; omega) (.inl (by simp)) plain_ASK (by kernel_rfl)
    · rw [← line_rst]
      exact rc_none_head (hd (by decide +kernel)) (by simp; omega) (.inl (by simp)) plain_askx (by kernel_rfl)
    · exact ask_more hrel hq hn hne ht (vs := [Str.ofString ""]) (by intro v m; rw [List.mem_singleton.mp m]; exact bt_one (by simp)) (by simp) (by simp) e_sp
    · exact ask_more hrel hq hn hne ht (vs := [Str.ofString "1", Str.ofString ""]) (by intro v m; simp only [List.mem_cons, List.not_mem_nil, or_false] at m; rcases m with rfl | rfl; exact bt_one (by simp); exact bt_one (by simp)) (by simp) (by simp) e_sp1
    · exact ask_more hrel hq hn hne ht (vs := [Str.ofString "x"]) (by intro v m; rw [List.mem_singleton.mp m]; exact bt_one (by simp)) (by simp) (by simp) e_spx
  · obtain ⟨z, hz, rfl⟩ := List.mem_map.mp m
    have hzb := badR_ok z hz
    have hzl : (z ++ rt).length ≤ 100 := by have := hq.l; rw [Str.length_append]; omega
    have hzw := wd_app hzb.1 hq.w hzl
    have e : Str.ofString "ask " ++ z ++ line (rt :: ts.map Tm.s) = line (askS :: (z ++ rt) :: ts.map Tm.s) := by
      rw [line_cons (w := askS) (by simp), line_rst rt, line_rst (z ++ rt), ask_sp]
      simp only [app_assoc]
    rw [e]
    refine ask_rc (by simp) (fun v m => ?_) (by simp; omega) (ask_badrel (rel_out hzw (hq.b z hz)))
    rcases List.mem_cons.mp m with rfl | m
    · exact wd_ask
    rcases List.mem_cons.mp m with rfl | m
    · exact hzw
    · exact hw v (by simp [m])
  · exact isOkN_eq (List.all_eq_true.mp closed3_none b m)
  · obtain ⟨z, hz, rfl⟩ := List.mem_map.mp m
    exact isOkN_eq (List.all_eq_true.mp bad12_none z hz)
theorem line_ask {rel rt : Str} {q : D} {ts : List Tm} (hrel : rel ∈ relS) (hq : RatOk q rt) (hn : ts.length ≤ 50) (hne : ts ≠ []) (ht : ∀ t ∈ ts, TmOk t) : LineOk (askD rel q ts) := by
  have hro := rel_ok rel hrel
  refine ⟨line (askS :: rel :: rt :: ts.map Tm.s), badsA rel rt (ts.map Tm.s), _, rfl, sm_shaped_tup ?_, written_ask hro.1 hq hn ht, read_ask_ok hrel hq hn hne ht, spoilt_ask hrel hq hn ht, bads_ask hrel hq hn hne ht⟩
  intro d m
  simp only [List.mem_cons, List.not_mem_nil, or_false] at m
  rcases m with rfl | rfl | rfl | rfl
  · exact sm_str (by decide +kernel)
  · have := line_strOk (ws := [rel]) (by intro v m; rw [List.mem_singleton.mp m]; exact hro.1)
    rw [line_one] at this
    exact sm_str this
  · obtain ⟨a, b, hq2⟩ := hq.p
    rw [hq2]
    refine Smk.sm (k := 1) (smk_tup fun d m => ?_) (by decide)
    simp only [List.mem_cons, List.not_mem_nil, or_false] at m
    rcases m with rfl | rfl <;> exact smk_int _
  · refine Smk.sm (k := 3) (smk_list fun d m => ?_) (by decide)
    obtain ⟨t, h, rfl⟩ := List.mem_map.mp m
    exact tm_sm (ht t h)
end K80


set_option Elab.async false
set_option linter.all false
set_option maxRecDepth 100000
set_option maxHeartbeats 8000000
namespace K80
open PySem PySem.Spec PyProof.Rows L2 Z
/-! ### whole numbers -/
theorem mod_nat (a b : Nat) (h : 0 < b) : modD (.int (a : Nat)) (.int (b : Nat)) = .ok (.int ((a % b : Nat) : Int)) := by
  show (if 0 < ((b : Nat) : Int) then R.ok (PyData.int ((a : Int) % (b : Int))) else _) = _
  rw [if_pos (by omega)]
  congr 2
theorem div_nat (a b : Nat) (h : 0 < b) (h2 : b < 2 ^ 64) : fdivD (.int (a : Nat)) (.int (b : Nat)) = .ok (.int ((a / b : Nat) : Int)) := by
  show (if 0 < ((b : Nat) : Int) ∧ ((b : Nat) : Int).natAbs.log2 < 9000 then R.ok (PyData.int ((a : Int) / (b : Int))) else _) = _
  rw [if_pos ⟨by omega, by rw [Int.natAbs_natCast]; exact Nat.lt_trans (log2_small h2) (by decide)⟩]
  congr 2
theorem add_nat (a b : Nat) : addD (.int (a : Nat)) (.int (b : Nat)) = .ok (.int ((a + b : Nat) : Int)) := by
  show R.ok (PyData.int ((a : Int) + (b : Int))) = _
  congr 2
theorem mul_nat (a b : Nat) (h1 : a < 2 ^ 64) (h2 : b < 2 ^ 64) : mulD (.int (a : Nat)) (.int (b : Nat)) = .ok (.int ((a * b : Nat) : Int)) := by
  have l1 := log2_small h1
  have l2 := log2_small h2
  show (if ((a : Nat) : Int).natAbs.log2 + ((b : Nat) : Int).natAbs.log2 < 1000000 then R.ok (PyData.int ((a : Int) * (b : Int))) else .no) = _
  rw [Int.natAbs_natCast, Int.natAbs_natCast, if_pos (by omega)]
  congr 2
theorem int_nat {f : Rho → R D} {r : Rho} {n : Nat} (h : f r = .ok (.int (n : Nat))) : cB1 intD f r = .ok (.int (n : Nat)) := ev_b1 h rfl
/-! ### the row -/
def RowOk (l : List D) (n : Nat) : Prop := l.length ≤ n ∧ ∀ d ∈ l, ∃ x : Nat, x < 1009 ∧ d = .int (x : Nat)
theorem RowOk.snoc {l : List D} {n x : Nat} (h : RowOk l n) (hx : x < 1009) : RowOk (l ++ [.int (x : Nat)]) (n + 1) := by
  refine ⟨by rw [List.length_append]; have := h.1; simp; omega, fun d m => ?_⟩
  rcases List.mem_append.mp m with m | m
  · exact h.2 d m
  · exact ⟨x, hx, List.mem_singleton.mp m⟩
theorem RowOk.mono {l : List D} {n m : Nat} (h : RowOk l n) (hm : n ≤ m) : RowOk l m := ⟨Nat.le_trans h.1 hm, h.2⟩
theorem rng_get {n j : Nat} {d : D} (h : (rngL 0 n)[j]? = some d) : j < n ∧ d = .int (j : Nat) := by
  unfold rngL at h
  rw [List.getElem?_map] at h
  obtain ⟨k, hk, rfl⟩ := Option.map_eq_some_iff.mp h
  obtain ⟨h1, h2⟩ := List.getElem?_eq_some_iff.mp hk
  rw [List.length_range] at h1
  rw [List.getElem_range] at h2
  subst h2
  exact ⟨h1, by simp⟩
theorem rng_len (n : Nat) : (rngL 0 n).length = n := by simp [rngL]
theorem bind_ok {α β : Type} {a : α} {f : α → R β} : (R.ok a).bind f = f a := rfl
theorem rng1_nat {n : Nat} (hn : n ≤ 1000000) : rng1D (.int (n : Nat)) = .ok (rngL 0 n) := by
  unfold rng1D
  simp only []
  have e : (2 : Int) ^ 62 = 4611686018427387904 := by decide +kernel
  rw [e, if_pos ⟨by omega, by omega⟩, Int.toNat_natCast]
theorem ev_r1 {f : Rho → R D} {r : Rho} {n : Nat} (h : f r = .ok (.int (n : Nat))) (hn : n ≤ 1000000) : cR1 f r = .ok (rngL 0 n) := by
  unfold cR1
  rw [h, bind_ok, rng1_nat hn]
abbrev Rr (sc : D) (row : List D) (a b c d : Sl) : Rho := [.sh sc, .ow row, a, b, c, d]
abbrev bA : SF := (sIf (cT2 gtD (cVarC 3) (cK (.int 0))) (sSeq (sApp 1 (cB2 modD (cB1 intD (cVarC 3)) (cK (.int 1009))))
    (sSet 3 (cB2 fdivD (cVarC 3) (cK (.int 1009))))) sNil)
theorem row_A {sc : D} {row : List D} {n c : Nat} {a x y : Sl} (h : RowOk row n) (hn : n ≤ 100000) : ∃ r', sFor (cR1 (cK (.int 40))) (gNm 4) bA (Rr sc row a (.sh (.int (c : Nat))) x y) = .nx r' ∧ ∃ row' a b c d, RowOk row' (n + 40) ∧ r' = Rr sc row' a b c d := by
  obtain ⟨r', h1, row', c', x', h2, h3⟩ := ev_for (r := Rr sc row a (.sh (.int (c : Nat))) x y) (F := bA) (A := gNm 4) (ds := rngL 0 40)
    (fun j r => ∃ (row' : List D) (c' : Nat) (x' : Sl), RowOk row' (n + j) ∧ r = Rr sc row' a (.sh (.int (c' : Nat))) x' y) (ev_r1 (f := cK (.int 40)) (n := 40) rfl (by decide)) ⟨row, c, x, h, rfl⟩ (fun j d r hd ⟨row', c', x', h2, h3⟩ => by
      subst h3
      obtain ⟨hj, rfl⟩ := rng_get hd
      by_cases hc : 0 < c'
      · refine ⟨_, Rr sc (row' ++ [.int ((c' % 1009 : Nat) : Int)]) a (.sh (.int ((c' / 1009 : Nat) : Int))) (.sh (.int (j : Nat))) y, rfl, ?_, _, _, _, h2.snoc (Nat.mod_lt _ (by decide)), rfl⟩
        refine ev_ift (ev_t2 (x := .int (c' : Nat)) (y := .int 0) (b := true) rfl rfl (by show R.ok (decide ((0 : Int) < (c' : Int))) = _; rw [decide_eq_true (by omega)])) (ev_seq (ev_app rfl (ev_b2 (int_nat rfl) rfl (mod_nat c' 1009 (by decide))) ?_) (ev_set (ev_b2 (x := .int (c' : Nat)) rfl rfl (div_nat c' 1009 (by decide) (by decide)))))
        have := h2.1
        exact Nat.lt_of_le_of_lt (Nat.le_trans this (by omega)) (show 200000 < sizeLine from by decide)
      · refine ⟨_, Rr sc row' a (.sh (.int (c' : Nat))) (.sh (.int (j : Nat))) y, rfl, ?_, _, _, _, h2.mono (by omega), rfl⟩
        exact ev_iff (ev_t2 (x := .int (c' : Nat)) (y := .int 0) (b := false) rfl rfl (by show R.ok (decide ((0 : Int) < (c' : Int))) = _; rw [decide_eq_false (by omega)])) rfl)
  rw [rng_len] at h2
  exact ⟨r', h1, row', a, _, x', y, h2, h3⟩
abbrev bB : SF := (sSeq (sSet 5 (cB2 modD (cB1 intD (cB2 addD (cB2 addD (cB2 mulD (cVarC 5) (cK (.int 16807))) (cB2 mulD (cK (.int 11)) (cVarC 4))) (cK (.int 1)))) (cK (.int 2147483647))))
    (sApp 1 (cB2 modD (cB1 intD (cB2 fdivD (cVarC 5) (cK (.int 7)))) (cK (.int 1009)))))
theorem row_B {sc : D} {row : List D} {n m : Nat} {a b x : Sl} (h : RowOk row n) (hn : n ≤ 100000) (hm : m < 2147483647) : ∃ r', sFor (cR1 (cK (.int 6))) (gNm 4) bB (Rr sc row a b x (.sh (.int (m : Nat)))) = .nx r' ∧ ∃ row' a b c d, RowOk row' (n + 40) ∧ r' = Rr sc row' a b c d := by
  obtain ⟨r', h1, row', m', x', h2, hm', h3⟩ := ev_for (r := Rr sc row a b x (.sh (.int (m : Nat)))) (F := bB) (A := gNm 4) (ds := rngL 0 6)
    (fun j r => ∃ (row' : List D) (m' : Nat) (x' : Sl), RowOk row' (n + j) ∧ m' < 2147483647 ∧ r = Rr sc row' a b x' (.sh (.int (m' : Nat)))) (ev_r1 (f := cK (.int 6)) (n := 6) rfl (by decide)) ⟨row, m, x, h, hm, rfl⟩ (fun j d r hd ⟨row', m', x', h2, hm', h3⟩ => by
      subst h3
      obtain ⟨hj, rfl⟩ := rng_get hd
      refine ⟨_, Rr sc (row' ++ [.int (((m' * 16807 + 11 * j + 1) % 2147483647 / 7 % 1009 : Nat) : Int)]) a b (.sh (.int (j : Nat))) (.sh (.int (((m' * 16807 + 11 * j + 1) % 2147483647 : Nat) : Int))), rfl, ?_, _, _, _, h2.snoc (Nat.mod_lt _ (by decide)), Nat.mod_lt _ (by decide), rfl⟩
      refine ev_seq (ev_set (ev_b2 (int_nat (ev_b2 (ev_b2 (ev_b2 (x := .int (m' : Nat)) rfl rfl (mul_nat m' 16807 (by omega) (by decide))) (ev_b2 (y := .int (j : Nat)) rfl rfl (mul_nat 11 j (by decide) (by omega))) (add_nat _ _)) rfl (add_nat _ 1))) rfl (mod_nat _ 2147483647 (by decide)))) (ev_app rfl (ev_b2 (int_nat (ev_b2 rfl rfl (div_nat _ 7 (by decide) (by decide)))) rfl (mod_nat _ 1009 (by decide))) ?_)
      have := h2.1
      exact Nat.lt_of_le_of_lt (Nat.le_trans this (by omega)) (show 200000 < sizeLine from by decide))
  rw [rng_len] at h2
  exact ⟨r', h1, row', a, b, x', _, h2.mono (by omega), h3⟩
theorem law_row_ok (ns : List Int) (hn : ns.length ≤ 63) : ∃ row, RowOk row 2600 ∧ G__law_row [.list (ns.map PyData.int)] = .ok (.list row) := by
  obtain ⟨r', h1, row, a, b, c, d, h2, h3⟩ := ev_for (r := Rr (.list (ns.map PyData.int)) [] .un .un .un .un)
    (F := (sSeq (sSet 3 (cB1 absD (cB1 intD (cB2 ixD (cVarC 0) (cVarC 2)))))
    (sIf (cT2 geD (cVarC 3) (cB2 powD (cK (.int 10)) (cK (.int 18)))) (sFor (cR1 (cK (.int 40))) (gNm 4) bA) (sSeq (sSet 5 (cB2 modD (cB1 intD (cB2 addD (cB2 addD (cB2 mulD (cVarC 3) (cK (.int 48271))) (cB2 mulD (cVarC 2) (cK (.int 69621)))) (cK (.int 12345)))) (cK (.int 2147483647))))
    (sFor (cR1 (cK (.int 6))) (gNm 4) bB))))) (A := gNm 2) (ds := rngL 0 ns.length) (fi := cR1 (cB1 lenD (cVarC 0)))
    (fun j r => ∃ (row : List D) (a b c d : Sl), RowOk row (40 * j) ∧ r = Rr (.list (ns.map PyData.int)) row a b c d) (ev_r1 (ev_b1 (x := .list (ns.map PyData.int)) rfl (by show R.ok (PyData.int ((ns.map PyData.int).length : Nat)) = _; rw [List.length_map])) (by omega)) ⟨[], .un, .un, .un, .un, ⟨by simp, fun _ m => nomatch m⟩, rfl⟩ (fun j e r he ⟨row, a, b, c, d, h2, h3⟩ => by
      subst h3
      obtain ⟨hj, rfl⟩ := rng_get he
      obtain ⟨cl, hcl⟩ : ∃ cl : Nat, (if ns[j] < 0 then -ns[j] else ns[j]) = (cl : Int) := ⟨ns[j].natAbs, by split <;> omega⟩
      have hget : cB2 ixD (cVarC 0) (cVarC 2) (Rr (.list (ns.map PyData.int)) row (.sh (.int (j : Nat))) b c d) = .ok (.int ns[j]) := ev_b2 (x := .list (ns.map PyData.int)) (y := .int (j : Nat)) rfl rfl (ix_l j rfl (by rw [List.getElem?_map, List.getElem?_eq_getElem hj]; rfl))
      have hcell : cB1 absD (cB1 intD (cB2 ixD (cVarC 0) (cVarC 2))) (Rr (.list (ns.map PyData.int)) row (.sh (.int (j : Nat))) b c d) = .ok (.int (cl : Nat)) := ev_b1 (ev_b1 hget rfl) (by show R.ok (PyData.int (if ns[j] < 0 then -ns[j] else ns[j])) = _; rw [hcl])
      have hpow : cB2 powD (cK (.int 10)) (cK (.int 18)) (Rr (.list (ns.map PyData.int)) row (.sh (.int (j : Nat))) (.sh (.int (cl : Nat))) c d) = .ok (.int 1000000000000000000) := by kernel_rfl
      have e40 : 40 * (j + 1) = 40 * j + 40 := by omega
      by_cases hbig : (1000000000000000000 : Int) ≤ (cl : Int)
      · obtain ⟨r2, h4, h5⟩ := row_A (sc := .list (ns.map PyData.int)) (row := row) (n := 40 * j) (c := cl) (a := .sh (.int (j : Nat))) (x := c) (y := d) h2 (by omega)
        refine ⟨_, r2, rfl, ev_seq (ev_set hcell) (ev_ift (ev_t2 (x := .int (cl : Nat)) (b := true) rfl hpow (by show R.ok (decide ((1000000000000000000 : Int) ≤ (cl : Int))) = _; rw [decide_eq_true hbig])) h4), ?_⟩
        rw [e40]
        exact h5
      · have hsm : cl < 1000000000000000000 := by omega
        obtain ⟨r2, h4, h5⟩ := row_B (sc := .list (ns.map PyData.int)) (row := row) (n := 40 * j) (m := (cl * 48271 + j * 69621 + 12345) % 2147483647) (a := .sh (.int (j : Nat))) (b := .sh (.int (cl : Nat))) (x := c) h2 (by omega) (Nat.mod_lt _ (by decide))
        refine ⟨_, r2, rfl, ev_seq (ev_set hcell) (ev_iff (ev_t2 (x := .int (cl : Nat)) (b := false) rfl hpow (by show R.ok (decide ((1000000000000000000 : Int) ≤ (cl : Int))) = _; rw [decide_eq_false hbig])) (ev_seq (ev_set (d := .int (((cl * 48271 + j * 69621 + 12345) % 2147483647 : Nat) : Int)) ?_) h4)), ?_⟩
        · exact ev_b2 (int_nat (ev_b2 (ev_b2 (ev_b2 (x := .int (cl : Nat)) rfl rfl (mul_nat cl 48271 (by omega) (by decide))) (ev_b2 (x := .int (j : Nat)) rfl rfl (mul_nat j 69621 (by omega) (by decide))) (add_nat _ _)) rfl (add_nat _ 12345))) rfl (mod_nat _ 2147483647 (by decide))
        · rw [e40]
          exact h5)
  rw [rng_len] at h2
  refine ⟨row, h2.mono (by omega), ev_run rfl (ev_seq (ev_own (ev_lst rfl (small (by simp))) (show 1 < 6 from by decide)) (ev_seq h1 ?_))⟩
  subst h3
  exact ev_ret rfl
theorem law_at_ok {row : List D} {n : Nat} (h : RowOk row n) (k : Nat) : ∃ x : Nat, x < 1009 ∧ G__law_at [.list row, .int (k : Nat)] = .ok (.int (x : Nat)) := by
  have len : lenD (.list row) = .ok (.int (row.length : Nat)) := rfl
  have ch : cCh leD ltD (cK (.int 0)) (cVarC 1) (cB1 lenD (cVarC 0)) [.sh (.list row), .sh (.int (k : Nat))] = .ok (decide (k < row.length)) := by
    show ((R.ok (decide ((0 : Int) ≤ (k : Int)))).bind fun b => if b = true then (R.ok (PyData.int (row.length : Nat))).bind fun z => ltD (.int (k : Nat)) z else R.ok false) = _
    rw [decide_eq_true (by omega)]
    show R.ok (decide ((k : Int) < (row.length : Int))) = _
    by_cases q : k < row.length
    · rw [decide_eq_true q, decide_eq_true (by omega)]
    · rw [decide_eq_false q, decide_eq_false (by omega)]
  by_cases q : k < row.length
  · obtain ⟨x, hx, hd⟩ := h.2 row[k] (List.getElem_mem q)
    exact ⟨x, hx, ev_run rfl (ev_seqr (ev_ift (ch.trans (by rw [decide_eq_true q])) (ev_ret (ev_b2 (x := .list row) (y := .int (k : Nat)) rfl rfl (ix_l k rfl (by rw [List.getElem?_eq_getElem q, hd]))))))⟩
  · exact ⟨0, by decide, ev_run rfl (ev_seq (ev_iff (ch.trans (by rw [decide_eq_false q])) rfl) (ev_ret rfl))⟩
end K80


set_option Elab.async false
set_option linter.all false
set_option maxRecDepth 100000
set_option maxHeartbeats 8000000
namespace K80
open PySem PySem.Spec PyProof.Rows L2 Z
/-! ### the lines -/
theorem at_ev {row : List D} {n x : Nat} {r : Rho} {f : Rho → R D} {k : Nat} (hr : r[0]? = some (.sh (.list row))) (hf : f r = .ok (.int (k : Nat))) (hx : G__law_at [.list row, .int (k : Nat)] = .ok (.int (x : Nat))) :
    cB1 intD (cCall G__law_at (cCons (cVar 0) (cCons f cNil))) r = .ok (.int (x : Nat)) :=
  int_nat (ev_call (ev_cons (x := .list row) (by unfold cVar; rw [hr]) (ev_cons hf rfl)) hx)
theorem at_mod {row : List D} {x : Nat} {r : Rho} {f : Rho → R D} {k m : Nat} (hr : r[0]? = some (.sh (.list row))) (hf : f r = .ok (.int (k : Nat))) (hx : G__law_at [.list row, .int (k : Nat)] = .ok (.int (x : Nat))) (hm : 0 < m) :
    cB2 modD (cB1 intD (cCall G__law_at (cCons (cVar 0) (cCons f cNil)))) (cK (.int (m : Nat))) r = .ok (.int ((x % m : Nat) : Int)) :=
  ev_b2 (at_ev (n := 0) hr hf hx) rfl (mod_nat x m hm)
def atOf (row : List D) (d : D) : D := match G__law_at [.list row, d] with
  | .ok (.int x) => .int (x % 1000)
  | _ => .none
abbrev R8 (row : List D) (s t u a b c e : Sl) : Rho := [.sh (.list row), s, t, u, a, b, c, e]
theorem pick {zs : List Str} {n i : Nat} {k : Int} (hk : k = (i : Int)) (h : i < zs.length) : ∃ z ∈ zs, ixD (.list (zs.map .str)) (.int k) = .ok (.str z) :=
  ⟨zs[i], List.getElem_mem h, ix_l i hk (by rw [List.getElem?_map, List.getElem?_eq_getElem h]; rfl)⟩
theorem eq_nat {a b : Nat} : eqD (.int (a : Nat)) (.int (b : Nat)) = .ok (decide (a = b)) := by
  refine eq_int ?_
  by_cases h : a = b
  · subst h; simp
  · rw [decide_eq_false h]
    symm
    rw [beq_eq_false_iff_ne]
    omega
theorem law_lines_ok {row : List D} (h : RowOk row 2600) : ∃ ls : List D, G__law_lines [.list row] = .ok (.list ls) ∧ ∀ d ∈ ls, LineOk d := by
  obtain ⟨x0, _, e0⟩ := law_at_ok h 0
  obtain ⟨x1, _, e1⟩ := law_at_ok h 1
  obtain ⟨x2, _, e2⟩ := law_at_ok h 2
  obtain ⟨x3, _, e3⟩ := law_at_ok h 3
  obtain ⟨x4, _, e4⟩ := law_at_ok h 4
  obtain ⟨x5, _, e5⟩ := law_at_ok h 5
  obtain ⟨x20, _, e20⟩ := law_at_ok h 20
  obtain ⟨x21, h21, e21⟩ := law_at_ok h 21
  have at1 : ∀ {x k : Nat}, G__law_at [.list row, .int (k : Nat)] = .ok (.int (x : Nat)) → atOf row (.int (k : Nat)) = .int ((x % 1000 : Nat) : Int) := fun e => by
    unfold atOf
    rw [e]
    rfl
  -- the small numbers
  obtain ⟨s, hs⟩ : ∃ s : List Nat, s = [x0 % 1000, x1 % 1000, x2 % 1000, x3 % 1000] := ⟨_, rfl⟩
  have m0 : x0 % 1000 < 1000 := Nat.mod_lt _ (by decide)
  have m1 : x1 % 1000 < 1000 := Nat.mod_lt _ (by decide)
  have m2 : x2 % 1000 < 1000 := Nat.mod_lt _ (by decide)
  have m3 : x3 % 1000 < 1000 := Nat.mod_lt _ (by decide)
  generalize hy0 : x0 % 1000 = y0 at m0 hs
  generalize hy1 : x1 % 1000 = y1 at m1 hs
  generalize hy2 : x2 % 1000 = y2 at m2 hs
  generalize hy3 : x3 % 1000 = y3 at m3 hs
  obtain ⟨smD, hsm⟩ : ∃ smD : D, smD = .list [.int (y0 : Nat), .int (y1 : Nat), .int (y2 : Nat), .int (y3 : Nat)] := ⟨_, rfl⟩
  have hsmall : cL (cLc [4] (cR1 (cK (.int 4))) (gNm 4) cYes (cB2 modD (cB1 intD (cCall G__law_at (cCons (cVar 0) (cCons (cVar 4) cNil)))) (cK (.int 1000)))) (R8 row .un .un .un .un .un .un .un) = .ok smD := by
    have e : smD = .list ((rngL 0 4).map (atOf row)) := by
      rw [hsm]
      show _ = PyData.list [atOf row (.int ((0 : Nat) : Int)), atOf row (.int ((1 : Nat) : Int)), atOf row (.int ((2 : Nat) : Int)), atOf row (.int ((3 : Nat) : Int))]
      rw [at1 e0, at1 e1, at1 e2, at1 e3, hy0, hy1, hy2, hy3]
    rw [e]
    refine ev_l (ev_lc rfl (ev_r1 (f := cK (.int 4)) (n := 4) rfl (by decide)) (small (by rw [rng_len]; decide)) fun d hd => ?_)
    obtain ⟨j, hj⟩ := List.getElem?_of_mem hd
    obtain ⟨hj4, rfl⟩ := rng_get hj
    obtain ⟨x, _, ex⟩ := law_at_ok h j
    refine ⟨_, rfl, rfl, ?_⟩
    rw [at1 ex]
    exact at_mod (m := 1000) rfl (f := cVar 4) rfl ex (by decide)
  have sm_ix : ∀ {r : Rho} (j : Nat) {k : Int} {d : D}, r[1]? = some (.sh smD) → k = (j : Int) → [PyData.int (y0 : Nat), .int (y1 : Nat), .int (y2 : Nat), .int (y3 : Nat)][j]? = some d → cB2 ixD (cVarC 1) (cK (.int k)) r = .ok d := fun {r} j {k d} hr e hd =>
    ev_b2 (x := smD) (by unfold cVarC; rw [hr]) rfl (by rw [hsm]; exact ix_l j e hd)
  -- the text
  obtain ⟨tx, htx, etx⟩ := pick (zs := texts6) (n := 0) (i := x4 % 6) rfl (by show _ < 6; exact Nat.mod_lt _ (by decide))
  obtain ⟨rel, hrel, erel⟩ := pick (zs := relS) (n := 0) (i := x20 % 3) rfl (by show _ < 3; exact Nat.mod_lt _ (by decide))
  obtain ⟨q, rt, eq1, hq⟩ := rat_ok h21
  -- the terms
  obtain ⟨rT, hT, ts, a, b, hlen, hts, hrT⟩ := ev_for (r := R8 row (.sh smD) (.sh (.str tx)) (.ow []) .un .un .un .un)
    (F := (sSeq (sSet 7 (cB2 modD (cB1 intD (cCall G__law_at (cCons (cVar 0) (cCons (cB2 addD (cK (.int 7)) (cB2 mulD (cK (.int 3)) (cVarC 4))) cNil)))) (cK (.int 5))))
    (sSeq (sIf (cT2 eqD (cVarC 7) (cK (.int 4))) (sSet 7 (cK .none)) sNil)
    (sApp 3 (cTup (cCons (cB2 modD (cB1 intD (cCall G__law_at (cCons (cVar 0) (cCons (cB2 addD (cK (.int 6)) (cB2 mulD (cK (.int 3)) (cVarC 4))) cNil)))) (cK (.int 12))) (cCons (cVar 7) (cCons (cCall G__law_ratio (cCons (cCall G__law_at (cCons (cVar 0) (cCons (cB2 addD (cK (.int 8)) (cB2 mulD (cK (.int 3)) (cVarC 4))) cNil))) cNil)) cNil)))))))) (A := gNm 4)
    (ds := rngL 0 (1 + x5 % 3)) (fi := cR1 (cB2 addD (cK (.int 1)) (cB2 modD (cB1 intD (cCall G__law_at (cCons (cVar 0) (cCons (cK (.int 5)) cNil)))) (cK (.int 3)))))
    (fun j r => ∃ (ts : List Tm) (a b : Sl), ts.length = j ∧ (∀ t ∈ ts, TmOk t) ∧ r = R8 row (.sh smD) (.sh (.str tx)) (.ow (ts.map Tm.d)) a .un .un b)
    (ev_r1 (ev_b2 (x := .int ((1 : Nat) : Int)) rfl (at_mod (m := 3) rfl (f := cK (.int 5)) rfl e5 (by decide)) (add_nat 1 _)) (by omega)) ⟨[], .un, .un, rfl, (fun _ m => nomatch m), rfl⟩ (fun j d r hd ⟨ts, a, b, hl, hts, hr⟩ => by
      subst hr
      obtain ⟨hj, rfl⟩ := rng_get hd
      have hj3 : j < 3 := by omega
      obtain ⟨xl, _, el⟩ := law_at_ok h (6 + 3 * j)
      obtain ⟨xh, _, eh⟩ := law_at_ok h (7 + 3 * j)
      obtain ⟨xq, hxq, eqq⟩ := law_at_ok h (8 + 3 * j)
      obtain ⟨q', rt', er, hr'⟩ := rat_ok hxq
      have k3 : ∀ {r : Rho} {c : Nat}, r[4]? = some (.sh (.int (j : Nat))) → cB2 addD (cK (.int (c : Nat))) (cB2 mulD (cK (.int 3)) (cVarC 4)) r = .ok (.int ((c + 3 * j : Nat) : Int)) := fun {r c} hr =>
        ev_b2 rfl (ev_b2 (x := .int ((3 : Nat) : Int)) (y := .int (j : Nat)) rfl (by unfold cVarC; rw [hr]) (mul_nat 3 j (by decide) (by omega))) (add_nat c _)
      have fin : ∀ (hh : Option Nat), (∀ k, hh = some k → k < 1000) → ∃ r2, sApp 3 (cTup (cCons (cB2 modD (cB1 intD (cCall G__law_at (cCons (cVar 0) (cCons (cB2 addD (cK (.int 6)) (cB2 mulD (cK (.int 3)) (cVarC 4))) cNil)))) (cK (.int 12))) (cCons (cVar 7) (cCons (cCall G__law_ratio (cCons (cCall G__law_at (cCons (cVar 0) (cCons (cB2 addD (cK (.int 8)) (cB2 mulD (cK (.int 3)) (cVarC 4))) cNil))) cNil)) cNil)))) (R8 row (.sh smD) (.sh (.str tx)) (.ow (ts.map Tm.d)) (.sh (.int (j : Nat))) .un .un (.sh (hhD hh))) = .nx r2 ∧
          ∃ (ts' : List Tm) (a b : Sl), ts'.length = j + 1 ∧ (∀ t ∈ ts', TmOk t) ∧ r2 = R8 row (.sh smD) (.sh (.str tx)) (.ow (ts'.map Tm.d)) a .un .un b := fun hh hk => by
        have hll : xl % 12 < 12 := Nat.mod_lt _ (by decide)
        refine ⟨_, ev_app rfl (ev_tup (ev_cons (at_mod (m := 12) rfl (k3 (c := 6) rfl) el (by decide)) (ev_cons (x := hhD hh) rfl (ev_cons (ev_call (ev_cons (ev_call (ev_cons (x := .list row) rfl (ev_cons (k3 (c := 8) rfl) rfl)) eqq) rfl) er) rfl))) (small (by simp))) (Nat.lt_of_le_of_lt (by rw [List.length_map, hl]; omega) (show 100 < sizeLine from by decide)), ts ++ [⟨xl % 12, hh, q', rt'⟩], .sh (.int (j : Nat)), .sh (hhD hh), by simp [hl], ?_, ?_⟩
        · intro t m
          rcases List.mem_append.mp m with m | m
          · exact hts t m
          · rw [List.mem_singleton.mp m]
            exact ⟨by show xl % 12 < 1000; omega, hk, hr'⟩
        · rw [List.map_append]
          rfl
      have hset : cB2 modD (cB1 intD (cCall G__law_at (cCons (cVar 0) (cCons (cB2 addD (cK (.int 7)) (cB2 mulD (cK (.int 3)) (cVarC 4))) cNil)))) (cK (.int 5)) (R8 row (.sh smD) (.sh (.str tx)) (.ow (ts.map Tm.d)) (.sh (.int (j : Nat))) .un .un b) = .ok (.int ((xh % 5 : Nat) : Int)) :=
        at_mod (m := 5) rfl (k3 (c := 7) rfl) eh (by decide)
      have h5 : xh % 5 < 5 := Nat.mod_lt _ (by decide)
      by_cases c4 : xh % 5 = 4
      · obtain ⟨r2, f1, f2⟩ := fin none (fun _ z => nomatch z)
        exact ⟨_, r2, rfl, ev_seq (ev_set hset) (ev_seq (ev_ift (ev_t2 (x := .int ((xh % 5 : Nat) : Int)) (y := .int ((4 : Nat) : Int)) rfl rfl (eq_nat.trans (by rw [decide_eq_true c4]))) (ev_set (d := .none) rfl)) f1), f2⟩
      · obtain ⟨r2, f1, f2⟩ := fin (some (xh % 5)) (fun k z => by cases z; omega)
        exact ⟨_, r2, rfl, ev_seq (ev_set hset) (ev_seq (ev_iff (ev_t2 (x := .int ((xh % 5 : Nat) : Int)) (y := .int ((4 : Nat) : Int)) rfl rfl (eq_nat.trans (by rw [decide_eq_false c4]))) rfl) f1), f2⟩)
  rw [rng_len] at hlen
  have hne : ts ≠ [] := fun e => by rw [e] at hlen; simp at hlen; omega
  subst hrT
  obtain ⟨us, hus, ett⟩ := texts_ws tx htx
  obtain ⟨w1, w2, w3⟩ := ws6_ok us hus
  have lfix : LineOk (.tuple [.str fixS, .int (y0 : Nat), .str tx]) := by rw [ett]; exact line_fix m0 w1 w3 w2
  refine ⟨[.tuple [.str (Str.ofString "yard"), .str tx], .tuple [.str (Str.ofString "note"), .str tx], .tuple [.str fixS, .int (y0 : Nat), .str tx], .tuple [.str (Str.ofString "strike"), .int (y0 : Nat)], .tuple [.str (Str.ofString "again"), .int (y1 : Nat)], .tuple [.str (Str.ofString "book")], askD rel q ts] ++
    [.tuple [.str (Str.ofString "weight"), .int (y0 : Nat)], .tuple [.str (Str.ofString "from"), .int (y1 : Nat), .int (y2 : Nat)], .tuple [.str (Str.ofString "sure")], .tuple [.str (Str.ofString "price"), .int (y0 : Nat), .int (y1 : Nat), .int (y2 : Nat), .int (y3 : Nat)]] ++
    [.tuple [.str (Str.ofString "bill")], .tuple [.str (Str.ofString "balance"), .int (y3 : Nat)], .tuple [.str (Str.ofString "can")], .tuple [.str (Str.ofString "must")], .tuple [.str (Str.ofString "cannot")], .tuple [.str (Str.ofString "few")], .tuple [.str (Str.ofString "search")]], ?_, ?_⟩
  · have t1 : ∀ {r : Rho} {w : Str}, cTup (cCons (cK (.str w)) cNil) r = .ok (.tuple [.str w]) := fun {r w} => ev_tup (ev_cons rfl rfl) (small (by simp))
    have t2 : ∀ {r : Rho} {w : Str} {f : Rho → R D} {d : D}, f r = .ok d → cTup (cCons (cK (.str w)) (cCons f cNil)) r = .ok (.tuple [.str w, d]) := fun hf => ev_tup (ev_cons rfl (ev_cons hf rfl)) (small (by simp))
    have t3 : ∀ {r : Rho} {w : Str} {f g : Rho → R D} {d e : D}, f r = .ok d → g r = .ok e → cTup (cCons (cK (.str w)) (cCons f (cCons g cNil))) r = .ok (.tuple [.str w, d, e]) := fun hf hg => ev_tup (ev_cons rfl (ev_cons hf (ev_cons hg rfl))) (small (by simp))
    have t5 : ∀ {r : Rho} {w : Str} {f g k l : Rho → R D} {d e m n : D}, f r = .ok d → g r = .ok e → k r = .ok m → l r = .ok n → cTup (cCons (cK (.str w)) (cCons f (cCons g (cCons k (cCons l cNil))))) r = .ok (.tuple [.str w, d, e, m, n]) := fun hf hg hk hl => ev_tup (ev_cons rfl (ev_cons hf (ev_cons hg (ev_cons hk (ev_cons hl rfl))))) (small (by simp))
    refine ev_run rfl (ev_seq (ev_set hsmall) (ev_seq (ev_set (ev_b2 (x := .list (texts6.map .str)) rfl (at_mod (m := 6) rfl (f := cK (.int 4)) rfl e4 (by decide)) etx)) (ev_seq (ev_own (ev_lst rfl (small (by simp))) (show 3 < 8 from by decide)) (ev_seq hT ?_))))
    show (sSeq _ _) (R8 row (.sh smD) (.sh (.str tx)) (.sh (.list (ts.map Tm.d))) a .un .un b) = _
    refine ev_seq (ev_set (d := askD rel q ts) (ev_tup (ev_cons rfl (ev_cons (ev_b2 (x := .list (relS.map .str)) rfl (at_mod (m := 3) rfl (f := cK (.int 20)) rfl e20 (by decide)) erel) (ev_cons (ev_call (ev_cons (ev_call (ev_cons (x := .list row) rfl (ev_cons (x := .int ((21 : Nat) : Int)) rfl rfl)) e21) rfl) eq1) (ev_cons (x := .list (ts.map Tm.d)) rfl rfl)))) (small (by simp)))) ?_
    refine ev_seq (ev_set (ev_l (ev_lst (ev_cons (t2 rfl) (ev_cons (t2 rfl) (ev_cons (t3 (sm_ix 0 rfl rfl rfl) rfl) (ev_cons (t2 (sm_ix 0 rfl rfl rfl)) (ev_cons (t2 (sm_ix 1 rfl rfl rfl)) (ev_cons t1 (ev_cons (x := askD rel q ts) rfl rfl))))))) (small (by simp))))) ?_
    refine ev_seq (ev_set (ev_b2 rfl (ev_l (ev_lst (ev_cons (t2 (sm_ix 0 rfl rfl rfl)) (ev_cons (t3 (sm_ix 1 rfl rfl rfl) (sm_ix 2 rfl rfl rfl)) (ev_cons t1 (ev_cons (t5 (sm_ix 0 rfl rfl rfl) (sm_ix 1 rfl rfl rfl) (sm_ix 2 rfl rfl rfl) (sm_ix 3 rfl rfl rfl)) rfl)))) (small (by simp)))) (addD_list (small (by simp))))) ?_
    exact ev_ret (ev_b2 rfl (ev_l (ev_lst (ev_cons t1 (ev_cons (t2 (sm_ix 3 rfl rfl rfl)) (ev_cons t1 (ev_cons t1 (ev_cons t1 (ev_cons t1 (ev_cons t1 rfl))))))) (small (by simp)))) (addD_list (small (by simp))))
  · have one : ∀ {y : Nat}, y < 1000 → ∀ n ∈ [y], n < 1000 := fun h n m => by rw [List.mem_singleton.mp m]; exact h
    have zero : ∀ n ∈ ([] : List Nat), n < 1000 := fun _ m => nomatch m
    simp only [List.cons_append, List.nil_append, List.forall_mem_cons]
    exact ⟨ly_yard tx htx, ly_note tx htx, lfix, lf_strike (ns := [y0]) rfl (one m0), lf_again (ns := [y1]) rfl (one m1), lf_book (ns := []) rfl zero, line_ask hrel hq (by omega) hne hts, lf_weight (ns := [y0]) rfl (one m0),
      lf_from (ns := [y1, y2]) rfl (by simp only [List.forall_mem_cons]; exact ⟨m1, m2, zero⟩), lf_sure (ns := []) rfl zero, lf_price (ns := [y0, y1, y2, y3]) rfl (by simp only [List.forall_mem_cons]; exact ⟨m0, m1, m2, m3, zero⟩),
      lf_bill (ns := []) rfl zero, lf_balance (ns := [y3]) rfl (one m3), lf_can (ns := []) rfl zero, lf_must (ns := []) rfl zero, lf_cannot (ns := []) rfl zero, lf_few (ns := []) rfl zero, lf_search (ns := []) rfl zero, fun _ m => nomatch m⟩
end K80


set_option Elab.async false
set_option linter.all false
set_option maxRecDepth 100000
set_option maxHeartbeats 8000000
namespace K80
open PySem PySem.Spec PyProof.Rows L2 Z
def rcOf (d : D) : D := match G_read_command [d] with
  | .ok d => d
  | _ => .none
abbrev last3 : List D := [.str (Str.ofString "yard"), .str (Str.ofString "note "), .str (Str.ofString "fix 7")]
abbrev want3 : List D := [.tuple [.str (Str.ofString "yard"), .str (Str.ofString "")], .tuple [.str (Str.ofString "note"), .str (Str.ofString "")], .tuple [.str (Str.ofString "fix"), .int 7, .str (Str.ofString "")]]
theorem rc_yard : G_read_command [.str (Str.ofString "yard")] = .ok (.tuple [.str (Str.ofString "yard"), .str (Str.ofString "")]) := by kernel_rfl
theorem rc_note : G_read_command [.str (Str.ofString "note ")] = .ok (.tuple [.str (Str.ofString "note"), .str (Str.ofString "")]) := by kernel_rfl
theorem rc_fix7 : G_read_command [.str (Str.ofString "fix 7")] = .ok (.tuple [.str (Str.ofString "fix"), .int 7, .str (Str.ofString "")]) := by kernel_rfl
theorem rc_nil : G_read_command [.str (Str.ofString "")] = .ok (.tuple []) := by kernel_rfl
theorem rc_blank : G_read_command [.str (Str.ofString " ")] = .ok .none := isOkN_eq (by decide +kernel)
theorem rc_tell : G_read_command [.str (Str.ofString "tell 1")] = .ok .none := isOkN_eq (by decide +kernel)
theorem neD_nil : neD (.tuple []) (.tuple []) = .ok false := by kernel_rfl
theorem neD_want : neD (.list want3) (.list want3) = .ok false := by kernel_rfl
abbrev R7 (sc row : D) (a b c e : Sl) : Rho := [.sh sc, .sh row, a, b, c, e, .un]
theorem plain_law (ns : List Int) (hn : ns.length ≤ 63) : G_law [.list (ns.map PyData.int)] = .ok (.bool true) := by
  obtain ⟨row, hrow, erow⟩ := law_row_ok ns hn
  obtain ⟨ls, els, hls⟩ := law_lines_ok hrow
  obtain ⟨r', h1, a, b, c, e, hr⟩ := ev_for (r := R7 (.list (ns.map PyData.int)) (.list row) .un .un .un .un) (ds := ls) (A := gNm 2) (fi := cIt (cCall G__law_lines (cCons (cVar 1) cNil)))
    (F := (sSeq (sSet 3 (cCall G__law_written (cCons (cVar 2) cNil)))
    (sSeq (sSet 4 (cCall G_read_command (cCons (cVar 3) cNil)))
    (sSeq (sIf (cOr (cNot (cT1 truD (cB1 (isiD fun s => s == "tuple") (cVarC 4)))) (cT2 neD (cVarC 4) (cVarC 2))) (sRet (cK (.bool false))) sNil)
    (sFor (cIt (cCall G__law_spoilt (cCons (cVar 2) (cCons (cVar 3) cNil)))) (gNm 5) (sIf (cT1 notND (cCall G_read_command (cCons (cVar 5) cNil))) (sRet (cK (.bool false))) sNil))))))
    (fun _ r => ∃ a b c e : Sl, r = R7 (.list (ns.map PyData.int)) (.list row) a b c e)
    (ev_it (ev_call (ev_cons (x := .list row) rfl rfl) els) rfl) ⟨.un, .un, .un, .un, rfl⟩ (fun j d r hd ⟨a, b, c, e, hr⟩ => by
      subst hr
      obtain ⟨L, bads, ds, hds, hsh, hw, hrd, hsp, hbd⟩ := (hls d (List.mem_of_getElem? hd)).ex
      obtain ⟨r2, h2, x, hx⟩ := ev_for (r := R7 (.list (ns.map PyData.int)) (.list row) (.sh d) (.sh (.str L)) (.sh d) e) (ds := bads.map .str) (A := gNm 5) (fi := cIt (cCall G__law_spoilt (cCons (cVar 2) (cCons (cVar 3) cNil))))
        (F := sIf (cT1 notND (cCall G_read_command (cCons (cVar 5) cNil))) (sRet (cK (.bool false))) sNil)
        (fun _ r => ∃ x : Sl, r = R7 (.list (ns.map PyData.int)) (.list row) (.sh d) (.sh (.str L)) (.sh d) x)
        (ev_it (ev_call (ev_cons (x := d) rfl (ev_cons (x := .str L) rfl rfl)) hsp) rfl) ⟨e, rfl⟩ (fun i f r hf ⟨x, hx⟩ => by
          subst hx
          rw [List.getElem?_map] at hf
          obtain ⟨z, hz, rfl⟩ := Option.map_eq_some_iff.mp hf
          exact ⟨_, _, rfl, ev_iff (ev_t1 (ev_call (ev_cons (x := .str z) rfl rfl) (hbd z (List.mem_of_getElem? hz))) rfl) rfl, _, rfl⟩)
      refine ⟨_, r2, rfl, ev_seq (ev_set (ev_call (ev_cons (x := d) rfl rfl) hw)) (ev_seq (ev_set (ev_call (ev_cons (x := .str L) rfl rfl) hrd)) (ev_seq (ev_iff (ev_orf (ev_not (b := true) (ev_t1 (ev_b1 (x := d) (y := .bool true) rfl ?_) rfl)) (ev_t2 (x := d) (y := d) rfl rfl (neD_self hsh))) rfl) h2)), _, _, _, _, hx⟩
      rw [hds]
      rfl)
  subst hr
  refine ev_run rfl (ev_seq (ev_set (ev_call (ev_cons (x := .list (ns.map PyData.int)) rfl rfl) erow)) (ev_seq (ev_iff (ev_t2 (ev_call (ev_cons (x := .str (Str.ofString "")) rfl rfl) rc_nil) (ev_tup (ds := []) rfl (small (by simp))) neD_nil) rfl) (ev_seq h1 (ev_seq (ev_iff (ev_t2 (x := .list want3) (y := .list want3) ?_ rfl neD_want) rfl) (ev_ret ?_)))))
  · have e3 : last3.map rcOf = want3 := by
      show [rcOf _, rcOf _, rcOf _] = _
      unfold rcOf
      rw [rc_yard, rc_note, rc_fix7]
    rw [← e3]
    refine ev_l (ev_lc rfl (ev_it (x := .list last3) rfl rfl) (small (by simp)) fun d m => ?_)
    simp only [List.mem_cons, List.not_mem_nil, or_false] at m
    have go : ∀ {w : Str} {v : D}, G_read_command [.str w] = .ok v → ∃ r1, gNm 6 (.str w) (wipeR (R7 (.list (ns.map PyData.int)) (.list row) a b c e) [6]) = some r1 ∧ cYes r1 = .ok true ∧ cCall G_read_command (cCons (cVar 6) cNil) r1 = .ok (rcOf (.str w)) := fun {w v} h => by
      refine ⟨_, rfl, rfl, ev_call (ev_cons (x := .str w) rfl rfl) ?_⟩
      unfold rcOf
      rw [h]
    rcases m with rfl | rfl | rfl
    · exact go rc_yard
    · exact go rc_note
    · exact go rc_fix7
  · exact ev_andV (ev_b1 (ev_call (ev_cons (x := .str (Str.ofString " ")) rfl rfl) rc_blank) rfl) (ev_b1 (ev_call (ev_cons (x := .str (Str.ofString "tell 1")) rfl rfl) rc_tell) rfl)
end K80


set_option Elab.async false
set_option linter.all false
set_option maxRecDepth 100000
set_option maxHeartbeats 8000000
namespace K80
open PySem PySem.Spec PyProof.Rows L2 Z
theorem exm_pair {K : PySem.W.Frag} {c S : Addr} {b : Bool} (h1 : PySem.W.subIn K (.ref S) (.type "BaseException") = some true) (h2 : PySem.W.isClsIn K S = true) (h3 : PySem.W.typeIn K (.ref S) = some (.type "type")) (h4 : PySem.W.subIn K (.ref c) (.ref S) = some b) : PySem.W.exmOne K (.ref c) (.ref S) = some b := by
  have e1 : (PySem.W.subIn K (.ref S) (.type "BaseException") == some true) = true := by rw [h1] <;> rfl
  have e2 : ((PySem.W.clsIn K S).isSome && PySem.W.typeIn K (.ref S) == some (.type "type")) = true := by
    have h2' : (PySem.W.clsIn K S).isSome = true := h2
    rw [h2', h3] <;> rfl
  show (if (PySem.W.subIn K (.ref S) (.type "BaseException") == some true) = true then (if ((PySem.W.clsIn K S).isSome && PySem.W.typeIn K (.ref S) == some (.type "type")) = true then PySem.W.subIn K (.ref c) (.ref S) else none) else none) = some b
  rw [if_pos e1, if_pos e2]
  exact h4
/-- the law's promise -/
def spLaw (K : PySem.W.Frag) : Sp := fun vs H Q _ => ∃ (a : Addr) (ns : List Int), vs = [.ref a] ∧ SqL K H a (ns.map V.int) ∧ ns.length ≤ 63 ∧ ∀ H', Q (.bl true) H'
theorem rp_ints {K : PySem.W.Frag} {H : Hp} {B : Addr → Prop} : ∀ ns : List Int, RpAll K H B (ns.map V.int) (ns.map PyData.int)
  | [] => .nil
  | n :: r => .cons (.int n) (rp_ints r)
theorem sp_to {K : PySem.W.Frag} {cm : Nat → Addr} (hl : ∀ ns : List Int, ns.length ≤ 63 → G_law [.list (ns.map PyData.int)] = .ok (.bool true)) : ∀ vs H Q E, spLaw K vs H Q E → spZ K cm G_law vs H Q E := by
  intro vs H Q E ⟨a, ns, hv, hs, hn, hQ⟩
  subst hv
  refine ⟨fun _ => False, [.list (ns.map PyData.int)], (fun _ z => z.elim), .cons (.lst (hs.elim (fun z => .inl ⟨z, id⟩) .inr) (rp_ints ns)) .nil, ?_⟩
  rw [hl ns hn]
  intro v H' _ r
  have : v = .bl true := by cases r; rfl
  subst this
  exact hQ H'
theorem all_mk {P : Program} {w : World} {K : PySem.W.Frag} {h : Heap} {mg : Str → Option Value} {fa : Addr} (X : K.In h) (G : h.Ns mainGlobals mg) (hfa : mg (Str.ofString "law") = some (.ref fa))
    {t_DIGITS_lines : Tok}
    {t_DIGITS_ratios : Tok}
    {t_MAX_TEXT : Tok}
    {a_RELATIONS : Addr} {dd_RELATIONS : Option Addr} {its_RELATIONS : Array Value} {n_RELATIONS : Nat} {sl_RELATIONS : Array (Option Value)}
    {a_RESTS : Addr} {dd_RESTS : Option Addr} {its_RESTS : Array Value} {n_RESTS : Nat} {sl_RESTS : Array (Option Value)}
    {a_FORMS : Addr} {es_FORMS : Array DictEntry} {n_FORMS : Nat}
    {C0 : Addr}
    {C1 : Addr}
    {f0 : Addr} {oc0 : Value} {od0 an0 : Option Addr} {sl0 : Array (Option Value)} {kV0 dc0 pm0 cd0 ct0 : Value}
    {f1 : Addr} {oc1 : Value} {od1 an1 : Option Addr} {sl1 : Array (Option Value)} {kV1 dc1 pm1 cd1 ct1 : Value}
    {f2 : Addr} {oc2 : Value} {od2 an2 : Option Addr} {sl2 : Array (Option Value)} {kV2 dc2 pm2 cd2 ct2 : Value}
    {f3 : Addr} {oc3 : Value} {od3 an3 : Option Addr} {sl3 : Array (Option Value)} {kV3 dc3 pm3 cd3 ct3 : Value}
    {f4 : Addr} {oc4 : Value} {od4 an4 : Option Addr} {sl4 : Array (Option Value)} {kV4 dc4 pm4 cd4 ct4 : Value}
    {f5 : Addr} {oc5 : Value} {od5 an5 : Option Addr} {sl5 : Array (Option Value)} {kV5 dc5 pm5 cd5 ct5 : Value}
    {f6 : Addr} {oc6 : Value} {od6 an6 : Option Addr} {sl6 : Array (Option Value)} {kV6 dc6 pm6 cd6 ct6 : Value}
    {f7 : Addr} {oc7 : Value} {od7 an7 : Option Addr} {sl7 : Array (Option Value)} {kV7 dc7 pm7 cd7 ct7 : Value}
    {f8 : Addr} {oc8 : Value} {od8 an8 : Option Addr} {sl8 : Array (Option Value)} {kV8 dc8 pm8 cd8 ct8 : Value}
    {f9 : Addr} {oc9 : Value} {od9 an9 : Option Addr} {sl9 : Array (Option Value)} {kV9 dc9 pm9 cd9 ct9 : Value}
    {f10 : Addr} {oc10 : Value} {od10 an10 : Option Addr} {sl10 : Array (Option Value)} {kV10 dc10 pm10 cd10 ct10 : Value}
    {f11 : Addr} {oc11 : Value} {od11 an11 : Option Addr} {sl11 : Array (Option Value)} {kV11 dc11 pm11 cd11 ct11 : Value}
    {f12 : Addr} {oc12 : Value} {od12 an12 : Option Addr} {sl12 : Array (Option Value)} {kV12 dc12 pm12 cd12 ct12 : Value}
    {f13 : Addr} {oc13 : Value} {od13 an13 : Option Addr} {sl13 : Array (Option Value)} {kV13 dc13 pm13 cd13 ct13 : Value}
    {f14 : Addr} {oc14 : Value} {od14 an14 : Option Addr} {sl14 : Array (Option Value)} {kV14 dc14 pm14 cd14 ct14 : Value}
    {f15 : Addr} {oc15 : Value} {od15 an15 : Option Addr} {sl15 : Array (Option Value)} {kV15 dc15 pm15 cd15 ct15 : Value}
    {f16 : Addr} {oc16 : Value} {od16 an16 : Option Addr} {sl16 : Array (Option Value)} {kV16 dc16 pm16 cd16 ct16 : Value}
    {f17 : Addr} {oc17 : Value} {od17 an17 : Option Addr} {sl17 : Array (Option Value)} {kV17 dc17 pm17 cd17 ct17 : Value}
    {f18 : Addr} {oc18 : Value} {od18 an18 : Option Addr} {sl18 : Array (Option Value)} {kV18 dc18 pm18 cd18 ct18 : Value}
    {f19 : Addr} {oc19 : Value} {od19 an19 : Option Addr} {sl19 : Array (Option Value)} {kV19 dc19 pm19 cd19 ct19 : Value}
    (b_abs : PySem.W.nsIn K mainGlobals (Str.ofString "abs") = some none)
    (b_all : PySem.W.nsIn K mainGlobals (Str.ofString "all") = some none)
    (b_int : PySem.W.nsIn K mainGlobals (Str.ofString "int") = some none)
    (b_isinstance : PySem.W.nsIn K mainGlobals (Str.ofString "isinstance") = some none)
    (b_len : PySem.W.nsIn K mainGlobals (Str.ofString "len") = some none)
    (b_range : PySem.W.nsIn K mainGlobals (Str.ofString "range") = some none)
    (b_str : PySem.W.nsIn K mainGlobals (Str.ofString "str") = some none)
    (b_tuple : PySem.W.nsIn K mainGlobals (Str.ofString "tuple") = some none)
    (c_DIGITS_lines : PySem.W.nsIn K mainGlobals (Str.ofString "DIGITS_lines") = some (some (.str (Str.ofString "0123456789") t_DIGITS_lines)))
    (c_DIGITS_ratios : PySem.W.nsIn K mainGlobals (Str.ofString "DIGITS_ratios") = some (some (.str (Str.ofString "0123456789") t_DIGITS_ratios)))
    (c_MAX_TEXT : PySem.W.nsIn K mainGlobals (Str.ofString "MAX_TEXT") = some (some (.int 60 t_MAX_TEXT)))
    (c_RELATIONS : PySem.W.nsIn K mainGlobals (Str.ofString "RELATIONS") = some (some (.ref a_RELATIONS)))
    (cl_RELATIONS : K.lookup a_RELATIONS = some ⟨.type "tuple", dd_RELATIONS, .seq its_RELATIONS n_RELATIONS, sl_RELATIONS⟩)
    (cv_RELATIONS : strVals its_RELATIONS.toList = some [(Str.ofString "<="), (Str.ofString ">="), (Str.ofString "=")])
    (c_RESTS : PySem.W.nsIn K mainGlobals (Str.ofString "RESTS") = some (some (.ref a_RESTS)))
    (cl_RESTS : K.lookup a_RESTS = some ⟨.type "tuple", dd_RESTS, .seq its_RESTS n_RESTS, sl_RESTS⟩)
    (cv_RESTS : strVals its_RESTS.toList = some [(Str.ofString "yard"), (Str.ofString "note")])
    (d_FORMS : PySem.W.nsIn K mainGlobals (Str.ofString "FORMS") = some (some (.ref a_FORMS)))
    (dl_FORMS : K.lookup a_FORMS = some ⟨.type "dict", none, .dict es_FORMS n_FORMS, #[]⟩)
    (dk_FORMS : PySem.W.KeysLit w.params es_FORMS.toList)
    (ds_FORMS : (a_FORMS == sysModules) = false)
    (dv_FORMS : strEnts es_FORMS.toList = some tab_FORMS)
    (eA_0 : PySem.W.nsIn K mainGlobals (Str.ofString "KerbError") = some (some (.ref C0)))
    (eK_0 : PySem.W.keepIn K (.ref C0) = true)
    (eB_0 : PySem.W.subIn K (.ref C0) (.type "BaseException") = some true)
    (eT_0 : PySem.W.typeIn K (.ref C0) = some (.type "type"))
    (eI_0 : PySem.W.isClsIn K C0 = true)
    (eA_1 : PySem.W.nsIn K mainGlobals (Str.ofString "BadForm") = some (some (.ref C1)))
    (eX_1 : PySem.W.excIn K C1 veChain "ValueError.__new__" = true)
    (eK_1 : PySem.W.keepIn K (.ref C1) = true)
    (eB_1 : PySem.W.subIn K (.ref C1) (.type "BaseException") = some true)
    (eT_1 : PySem.W.typeIn K (.ref C1) = some (.type "type"))
    (eI_1 : PySem.W.isClsIn K C1 = true)
    (eS_0_1 : PySem.W.subIn K (.ref C0) (.ref C1) = some false)
    (eS_1_1 : PySem.W.subIn K (.ref C1) (.ref C1) = some true)
    (fa_0 : PySem.W.nsIn K mainGlobals (Str.ofString "common") = some (some (.ref f0)))
    (fl_0 : K.lookup f0 = some ⟨oc0, od0, .func (PySem.W.fnOf (Str.ofString "common") (Str.ofString "common") (defArgs s_common) (defBody s_common) (defScope s_common) .none kV0 dc0 pm0 an0 cd0 ct0), sl0⟩)
    (fc_0 : PySem.W.codeIn K cd0 (Str.ofString "common") = true)
    (fk_0 : PySem.W.keepIn K (.ref f0) = true)
    (fa_1 : PySem.W.nsIn K mainGlobals (Str.ofString "is_ratio") = some (some (.ref f1)))
    (fl_1 : K.lookup f1 = some ⟨oc1, od1, .func (PySem.W.fnOf (Str.ofString "is_ratio") (Str.ofString "is_ratio") (defArgs s_is_ratio) (defBody s_is_ratio) (defScope s_is_ratio) .none kV1 dc1 pm1 an1 cd1 ct1), sl1⟩)
    (fc_1 : PySem.W.codeIn K cd1 (Str.ofString "is_ratio") = true)
    (fk_1 : PySem.W.keepIn K (.ref f1) = true)
    (fa_2 : PySem.W.nsIn K mainGlobals (Str.ofString "negated") = some (some (.ref f2)))
    (fl_2 : K.lookup f2 = some ⟨oc2, od2, .func (PySem.W.fnOf (Str.ofString "negated") (Str.ofString "negated") (defArgs s_negated) (defBody s_negated) (defScope s_negated) .none kV2 dc2 pm2 an2 cd2 ct2), sl2⟩)
    (fc_2 : PySem.W.codeIn K cd2 (Str.ofString "negated") = true)
    (fk_2 : PySem.W.keepIn K (.ref f2) = true)
    (fa_3 : PySem.W.nsIn K mainGlobals (Str.ofString "ratio_text") = some (some (.ref f3)))
    (fl_3 : K.lookup f3 = some ⟨oc3, od3, .func (PySem.W.fnOf (Str.ofString "ratio_text") (Str.ofString "ratio_text") (defArgs s_ratio_text) (defBody s_ratio_text) (defScope s_ratio_text) .none kV3 dc3 pm3 an3 cd3 ct3), sl3⟩)
    (fc_3 : PySem.W.codeIn K cd3 (Str.ofString "ratio_text") = true)
    (fk_3 : PySem.W.keepIn K (.ref f3) = true)
    (fa_4 : PySem.W.nsIn K mainGlobals (Str.ofString "is_digits") = some (some (.ref f4)))
    (fl_4 : K.lookup f4 = some ⟨oc4, od4, .func (PySem.W.fnOf (Str.ofString "is_digits") (Str.ofString "is_digits") (defArgs s_is_digits) (defBody s_is_digits) (defScope s_is_digits) .none kV4 dc4 pm4 an4 cd4 ct4), sl4⟩)
    (fc_4 : PySem.W.codeIn K cd4 (Str.ofString "is_digits") = true)
    (fk_4 : PySem.W.keepIn K (.ref f4) = true)
    (fa_5 : PySem.W.nsIn K mainGlobals (Str.ofString "read_ratio") = some (some (.ref f5)))
    (fl_5 : K.lookup f5 = some ⟨oc5, od5, .func (PySem.W.fnOf (Str.ofString "read_ratio") (Str.ofString "read_ratio") (defArgs s_read_ratio) (defBody s_read_ratio) (defScope s_read_ratio) .none kV5 dc5 pm5 an5 cd5 ct5), sl5⟩)
    (fc_5 : PySem.W.codeIn K cd5 (Str.ofString "read_ratio") = true)
    (fk_5 : PySem.W.keepIn K (.ref f5) = true)
    (fa_6 : PySem.W.nsIn K mainGlobals (Str.ofString "read_number") = some (some (.ref f6)))
    (fl_6 : K.lookup f6 = some ⟨oc6, od6, .func (PySem.W.fnOf (Str.ofString "read_number") (Str.ofString "read_number") (defArgs s_read_number) (defBody s_read_number) (defScope s_read_number) .none kV6 dc6 pm6 an6 cd6 ct6), sl6⟩)
    (fc_6 : PySem.W.codeIn K cd6 (Str.ofString "read_number") = true)
    (fk_6 : PySem.W.keepIn K (.ref f6) = true)
    (fa_7 : PySem.W.nsIn K mainGlobals (Str.ofString "ratio_of") = some (some (.ref f7)))
    (fl_7 : K.lookup f7 = some ⟨oc7, od7, .func (PySem.W.fnOf (Str.ofString "ratio_of") (Str.ofString "ratio_of") (defArgs s_ratio_of) (defBody s_ratio_of) (defScope s_ratio_of) .none kV7 dc7 pm7 an7 cd7 ct7), sl7⟩)
    (fc_7 : PySem.W.codeIn K cd7 (Str.ofString "ratio_of") = true)
    (fk_7 : PySem.W.keepIn K (.ref f7) = true)
    (fa_8 : PySem.W.nsIn K mainGlobals (Str.ofString "read_term") = some (some (.ref f8)))
    (fl_8 : K.lookup f8 = some ⟨oc8, od8, .func (PySem.W.fnOf (Str.ofString "read_term") (Str.ofString "read_term") (defArgs s_read_term) (defBody s_read_term) (defScope s_read_term) .none kV8 dc8 pm8 an8 cd8 ct8), sl8⟩)
    (fc_8 : PySem.W.codeIn K cd8 (Str.ofString "read_term") = true)
    (fk_8 : PySem.W.keepIn K (.ref f8) = true)
    (fa_9 : PySem.W.nsIn K mainGlobals (Str.ofString "read_ask") = some (some (.ref f9)))
    (fl_9 : K.lookup f9 = some ⟨oc9, od9, .func (PySem.W.fnOf (Str.ofString "read_ask") (Str.ofString "read_ask") (defArgs s_read_ask) (defBody s_read_ask) (defScope s_read_ask) .none kV9 dc9 pm9 an9 cd9 ct9), sl9⟩)
    (fc_9 : PySem.W.codeIn K cd9 (Str.ofString "read_ask") = true)
    (fk_9 : PySem.W.keepIn K (.ref f9) = true)
    (fa_10 : PySem.W.nsIn K mainGlobals (Str.ofString "read_fix") = some (some (.ref f10)))
    (fl_10 : K.lookup f10 = some ⟨oc10, od10, .func (PySem.W.fnOf (Str.ofString "read_fix") (Str.ofString "read_fix") (defArgs s_read_fix) (defBody s_read_fix) (defScope s_read_fix) .none kV10 dc10 pm10 an10 cd10 ct10), sl10⟩)
    (fc_10 : PySem.W.codeIn K cd10 (Str.ofString "read_fix") = true)
    (fk_10 : PySem.W.keepIn K (.ref f10) = true)
    (fa_11 : PySem.W.nsIn K mainGlobals (Str.ofString "read_command") = some (some (.ref f11)))
    (fl_11 : K.lookup f11 = some ⟨oc11, od11, .func (PySem.W.fnOf (Str.ofString "read_command") (Str.ofString "read_command") (defArgs s_read_command) (defBody s_read_command) (defScope s_read_command) .none kV11 dc11 pm11 an11 cd11 ct11), sl11⟩)
    (fc_11 : PySem.W.codeIn K cd11 (Str.ofString "read_command") = true)
    (fk_11 : PySem.W.keepIn K (.ref f11) = true)
    (fa_12 : PySem.W.nsIn K mainGlobals (Str.ofString "_law_row") = some (some (.ref f12)))
    (fl_12 : K.lookup f12 = some ⟨oc12, od12, .func (PySem.W.fnOf (Str.ofString "_law_row") (Str.ofString "_law_row") (defArgs s__law_row) (defBody s__law_row) (defScope s__law_row) .none kV12 dc12 pm12 an12 cd12 ct12), sl12⟩)
    (fc_12 : PySem.W.codeIn K cd12 (Str.ofString "_law_row") = true)
    (fk_12 : PySem.W.keepIn K (.ref f12) = true)
    (fa_13 : PySem.W.nsIn K mainGlobals (Str.ofString "_law_at") = some (some (.ref f13)))
    (fl_13 : K.lookup f13 = some ⟨oc13, od13, .func (PySem.W.fnOf (Str.ofString "_law_at") (Str.ofString "_law_at") (defArgs s__law_at) (defBody s__law_at) (defScope s__law_at) .none kV13 dc13 pm13 an13 cd13 ct13), sl13⟩)
    (fc_13 : PySem.W.codeIn K cd13 (Str.ofString "_law_at") = true)
    (fk_13 : PySem.W.keepIn K (.ref f13) = true)
    (fa_14 : PySem.W.nsIn K mainGlobals (Str.ofString "_law_ratio") = some (some (.ref f14)))
    (fl_14 : K.lookup f14 = some ⟨oc14, od14, .func (PySem.W.fnOf (Str.ofString "_law_ratio") (Str.ofString "_law_ratio") (defArgs s__law_ratio) (defBody s__law_ratio) (defScope s__law_ratio) .none kV14 dc14 pm14 an14 cd14 ct14), sl14⟩)
    (fc_14 : PySem.W.codeIn K cd14 (Str.ofString "_law_ratio") = true)
    (fk_14 : PySem.W.keepIn K (.ref f14) = true)
    (fa_15 : PySem.W.nsIn K mainGlobals (Str.ofString "_law_text") = some (some (.ref f15)))
    (fl_15 : K.lookup f15 = some ⟨oc15, od15, .func (PySem.W.fnOf (Str.ofString "_law_text") (Str.ofString "_law_text") (defArgs s__law_text) (defBody s__law_text) (defScope s__law_text) .none kV15 dc15 pm15 an15 cd15 ct15), sl15⟩)
    (fc_15 : PySem.W.codeIn K cd15 (Str.ofString "_law_text") = true)
    (fk_15 : PySem.W.keepIn K (.ref f15) = true)
    (fa_16 : PySem.W.nsIn K mainGlobals (Str.ofString "_law_lines") = some (some (.ref f16)))
    (fl_16 : K.lookup f16 = some ⟨oc16, od16, .func (PySem.W.fnOf (Str.ofString "_law_lines") (Str.ofString "_law_lines") (defArgs s__law_lines) (defBody s__law_lines) (defScope s__law_lines) .none kV16 dc16 pm16 an16 cd16 ct16), sl16⟩)
    (fc_16 : PySem.W.codeIn K cd16 (Str.ofString "_law_lines") = true)
    (fk_16 : PySem.W.keepIn K (.ref f16) = true)
    (fa_17 : PySem.W.nsIn K mainGlobals (Str.ofString "_law_written") = some (some (.ref f17)))
    (fl_17 : K.lookup f17 = some ⟨oc17, od17, .func (PySem.W.fnOf (Str.ofString "_law_written") (Str.ofString "_law_written") (defArgs s__law_written) (defBody s__law_written) (defScope s__law_written) .none kV17 dc17 pm17 an17 cd17 ct17), sl17⟩)
    (fc_17 : PySem.W.codeIn K cd17 (Str.ofString "_law_written") = true)
    (fk_17 : PySem.W.keepIn K (.ref f17) = true)
    (fa_18 : PySem.W.nsIn K mainGlobals (Str.ofString "_law_spoilt") = some (some (.ref f18)))
    (fl_18 : K.lookup f18 = some ⟨oc18, od18, .func (PySem.W.fnOf (Str.ofString "_law_spoilt") (Str.ofString "_law_spoilt") (defArgs s__law_spoilt) (defBody s__law_spoilt) (defScope s__law_spoilt) .none kV18 dc18 pm18 an18 cd18 ct18), sl18⟩)
    (fc_18 : PySem.W.codeIn K cd18 (Str.ofString "_law_spoilt") = true)
    (fk_18 : PySem.W.keepIn K (.ref f18) = true)
    (fa_19 : PySem.W.nsIn K mainGlobals (Str.ofString "law") = some (some (.ref f19)))
    (fl_19 : K.lookup f19 = some ⟨oc19, od19, .func (PySem.W.fnOf (Str.ofString "law") (Str.ofString "law") (defArgs s_law) (defBody s_law) (defScope s_law) .none kV19 dc19 pm19 an19 cd19 ct19), sl19⟩)
    (fc_19 : PySem.W.codeIn K cd19 (Str.ofString "law") = true)
    (fk_19 : PySem.W.keepIn K (.ref f19) = true)
    : ∃ fd : FuncData, (∀ (s : Shared) (u : Value), BindsTo s fd ⟨[u], []⟩ [((Str.ofString "script"), u)]) ∧ ∀ base : Heap, K.In base → base.Ns mainGlobals mg → FnOk P w K mg base (L2.CX P w) 8 fa fd [(Str.ofString "script")] (spLaw K) := by
  have e := hfa.symm.trans (PySem.W.mg_of X G fa_19)
  cases e
  let cm : Nat → Addr := fun k => match k with | 0 => C0 | 1 => C1 | _ => 0
  have F0 := fun_mk (st := s_common) fl_0 fc_0 fk_0
  have B0 := F0.binds (ps := [(Str.ofString "first"), (Str.ofString "second")]) fun _ _ _ _ _ _ us hl => match us, hl with | [_, _], _ => rfl
  have F1 := fun_mk (st := s_is_ratio) fl_1 fc_1 fk_1
  have B1 := F1.binds (ps := [(Str.ofString "pair")]) fun _ _ _ _ _ _ us hl => match us, hl with | [_], _ => rfl
  have F2 := fun_mk (st := s_negated) fl_2 fc_2 fk_2
  have B2 := F2.binds (ps := [(Str.ofString "first")]) fun _ _ _ _ _ _ us hl => match us, hl with | [_], _ => rfl
  have F3 := fun_mk (st := s_ratio_text) fl_3 fc_3 fk_3
  have B3 := F3.binds (ps := [(Str.ofString "first")]) fun _ _ _ _ _ _ us hl => match us, hl with | [_], _ => rfl
  have F4 := fun_mk (st := s_is_digits) fl_4 fc_4 fk_4
  have B4 := F4.binds (ps := [(Str.ofString "text")]) fun _ _ _ _ _ _ us hl => match us, hl with | [_], _ => rfl
  have F5 := fun_mk (st := s_read_ratio) fl_5 fc_5 fk_5
  have B5 := F5.binds (ps := [(Str.ofString "text")]) fun _ _ _ _ _ _ us hl => match us, hl with | [_], _ => rfl
  have F6 := fun_mk (st := s_read_number) fl_6 fc_6 fk_6
  have B6 := F6.binds (ps := [(Str.ofString "word")]) fun _ _ _ _ _ _ us hl => match us, hl with | [_], _ => rfl
  have F7 := fun_mk (st := s_ratio_of) fl_7 fc_7 fk_7
  have B7 := F7.binds (ps := [(Str.ofString "word")]) fun _ _ _ _ _ _ us hl => match us, hl with | [_], _ => rfl
  have F8 := fun_mk (st := s_read_term) fl_8 fc_8 fk_8
  have B8 := F8.binds (ps := [(Str.ofString "word")]) fun _ _ _ _ _ _ us hl => match us, hl with | [_], _ => rfl
  have F9 := fun_mk (st := s_read_ask) fl_9 fc_9 fk_9
  have B9 := F9.binds (ps := [(Str.ofString "words")]) fun _ _ _ _ _ _ us hl => match us, hl with | [_], _ => rfl
  have F10 := fun_mk (st := s_read_fix) fl_10 fc_10 fk_10
  have B10 := F10.binds (ps := [(Str.ofString "line")]) fun _ _ _ _ _ _ us hl => match us, hl with | [_], _ => rfl
  have F11 := fun_mk (st := s_read_command) fl_11 fc_11 fk_11
  have B11 := F11.binds (ps := [(Str.ofString "line")]) fun _ _ _ _ _ _ us hl => match us, hl with | [_], _ => rfl
  have F12 := fun_mk (st := s__law_row) fl_12 fc_12 fk_12
  have B12 := F12.binds (ps := [(Str.ofString "script")]) fun _ _ _ _ _ _ us hl => match us, hl with | [_], _ => rfl
  have F13 := fun_mk (st := s__law_at) fl_13 fc_13 fk_13
  have B13 := F13.binds (ps := [(Str.ofString "row"), (Str.ofString "at")]) fun _ _ _ _ _ _ us hl => match us, hl with | [_, _], _ => rfl
  have F14 := fun_mk (st := s__law_ratio) fl_14 fc_14 fk_14
  have B14 := F14.binds (ps := [(Str.ofString "number")]) fun _ _ _ _ _ _ us hl => match us, hl with | [_], _ => rfl
  have F15 := fun_mk (st := s__law_text) fl_15 fc_15 fk_15
  have B15 := F15.binds (ps := [(Str.ofString "ratio")]) fun _ _ _ _ _ _ us hl => match us, hl with | [_], _ => rfl
  have F16 := fun_mk (st := s__law_lines) fl_16 fc_16 fk_16
  have B16 := F16.binds (ps := [(Str.ofString "row")]) fun _ _ _ _ _ _ us hl => match us, hl with | [_], _ => rfl
  have F17 := fun_mk (st := s__law_written) fl_17 fc_17 fk_17
  have B17 := F17.binds (ps := [(Str.ofString "parts")]) fun _ _ _ _ _ _ us hl => match us, hl with | [_], _ => rfl
  have F18 := fun_mk (st := s__law_spoilt) fl_18 fc_18 fk_18
  have B18 := F18.binds (ps := [(Str.ofString "parts"), (Str.ofString "text")]) fun _ _ _ _ _ _ us hl => match us, hl with | [_, _], _ => rfl
  have F19 := fun_mk (st := s_law) fl_19 fc_19 fk_19
  have M1 : ∀ i b, mt_BadForm i = some b → PySem.W.exmOne K (.ref (cm i)) (.ref (cm 1)) = some b := fun i b q => match i, b, q with
      | 0, b, q => by cases (show some false = some b from q); exact exm_pair eB_1 eI_1 eT_1 eS_0_1
      | 1, b, q => by cases (show some true = some b from q); exact exm_pair eB_1 eI_1 eT_1 eS_1_1
      | k + 2, b, q => nomatch q
  have T : Txt K w mg cm := {
    b_abs := PySem.W.mg_none_of X G b_abs,
    b_all := PySem.W.mg_none_of X G b_all,
    b_int := PySem.W.mg_none_of X G b_int,
    b_isinstance := PySem.W.mg_none_of X G b_isinstance,
    b_len := PySem.W.mg_none_of X G b_len,
    b_range := PySem.W.mg_none_of X G b_range,
    b_str := PySem.W.mg_none_of X G b_str,
    b_tuple := PySem.W.mg_none_of X G b_tuple,
    c_DIGITS_lines := globD_str (PySem.W.mg_of X G c_DIGITS_lines),
    c_DIGITS_ratios := globD_str (PySem.W.mg_of X G c_DIGITS_ratios),
    c_MAX_TEXT := globD_int (PySem.W.mg_of X G c_MAX_TEXT),
    c_RELATIONS := globD_strs (PySem.W.mg_of X G c_RELATIONS) cl_RELATIONS cv_RELATIONS (by decide),
    c_RESTS := globD_strs (PySem.W.mg_of X G c_RESTS) cl_RESTS cv_RESTS (by decide),
    d_FORMS := zdict (PySem.W.mg_of X G d_FORMS) dl_FORMS dk_FORMS ds_FORMS dv_FORMS,
    e_BadForm := ⟨PySem.W.mg_of X G eA_1, eX_1, eK_1, eB_1, eT_1⟩,
    m_BadForm := M1,
    f_common := ⟨f0, _, F0, PySem.W.mg_of X G fa_0, B0⟩,
    f_is_ratio := ⟨f1, _, F1, PySem.W.mg_of X G fa_1, B1⟩,
    f_negated := ⟨f2, _, F2, PySem.W.mg_of X G fa_2, B2⟩,
    f_ratio_text := ⟨f3, _, F3, PySem.W.mg_of X G fa_3, B3⟩,
    f_is_digits := ⟨f4, _, F4, PySem.W.mg_of X G fa_4, B4⟩,
    f_read_ratio := ⟨f5, _, F5, PySem.W.mg_of X G fa_5, B5⟩,
    f_read_number := ⟨f6, _, F6, PySem.W.mg_of X G fa_6, B6⟩,
    f_ratio_of := ⟨f7, _, F7, PySem.W.mg_of X G fa_7, B7⟩,
    f_read_term := ⟨f8, _, F8, PySem.W.mg_of X G fa_8, B8⟩,
    f_read_ask := ⟨f9, _, F9, PySem.W.mg_of X G fa_9, B9⟩,
    f_read_fix := ⟨f10, _, F10, PySem.W.mg_of X G fa_10, B10⟩,
    f_read_command := ⟨f11, _, F11, PySem.W.mg_of X G fa_11, B11⟩,
    f__law_row := ⟨f12, _, F12, PySem.W.mg_of X G fa_12, B12⟩,
    f__law_at := ⟨f13, _, F13, PySem.W.mg_of X G fa_13, B13⟩,
    f__law_ratio := ⟨f14, _, F14, PySem.W.mg_of X G fa_14, B14⟩,
    f__law_text := ⟨f15, _, F15, PySem.W.mg_of X G fa_15, B15⟩,
    f__law_lines := ⟨f16, _, F16, PySem.W.mg_of X G fa_16, B16⟩,
    f__law_written := ⟨f17, _, F17, PySem.W.mg_of X G fa_17, B17⟩,
    f__law_spoilt := ⟨f18, _, F18, PySem.W.mg_of X G fa_18, B18⟩ }
  exact ⟨_, fun s u => .of_eq rfl, fun base _ _ => (all_ok T F19).imp (sp_to plain_law)⟩
end K80
open PySem PySem.W PyProof.Rows
theorem PySem.Challenge.cw_kerbwise_k80_commands_read_holds : PySem.Challenge.rw_kerbwise_k80_commands_read.Holds := by
  w_on; o_law; k_head; (case hw => w_witness2)
  k_fill
  refine L2.walk_of (l := PySem.Challenge.rw_kerbwise_k80_commands_read) (n := 63) (k := 8) (x := (PySem.Str.ofString "script")) (CX := fun w => L2.CX (PySem.Challenge.rw_kerbwise_k80_commands_read).prog w) (sp := fun w => K80.spLaw _) rfl (by decide) rfl ⟨rfl, by decide, by decide⟩ (fun w h Y => PySem.W.kIn_of Y) ?F (fun w H a ns hl _ hs => ⟨a, ns, rfl, hs, hl, fun _ => rfl⟩) ?C
  case C => exact fun w H s e s' ⟨_, _, _, _, _, _, _, _, _, _, _, _, q⟩ => q
  case F =>
    intro w mg fa h KX G hmg
    refine' K80.all_mk (P := (PySem.Challenge.rw_kerbwise_k80_commands_read).prog) (w := w) KX G hmg ?b_abs ?b_all ?b_int ?b_isinstance ?b_len ?b_range ?b_str ?b_tuple ?c_DIGITS_lines ?c_DIGITS_ratios ?c_MAX_TEXT ?c_RELATIONS ?cl_RELATIONS ?cv_RELATIONS ?c_RESTS ?cl_RESTS ?cv_RESTS ?d_FORMS ?dl_FORMS ?dk_FORMS ?ds_FORMS ?dv_FORMS ?eA_0 ?eK_0 ?eB_0 ?eT_0 ?eI_0 ?eA_1 ?eX_1 ?eK_1 ?eB_1 ?eT_1 ?eI_1 ?eS_0_1 ?eS_1_1 ?fa_0 ?fl_0 ?fc_0 ?fk_0 ?fa_1 ?fl_1 ?fc_1 ?fk_1 ?fa_2 ?fl_2 ?fc_2 ?fk_2 ?fa_3 ?fl_3 ?fc_3 ?fk_3 ?fa_4 ?fl_4 ?fc_4 ?fk_4 ?fa_5 ?fl_5 ?fc_5 ?fk_5 ?fa_6 ?fl_6 ?fc_6 ?fk_6 ?fa_7 ?fl_7 ?fc_7 ?fk_7 ?fa_8 ?fl_8 ?fc_8 ?fk_8 ?fa_9 ?fl_9 ?fc_9 ?fk_9 ?fa_10 ?fl_10 ?fc_10 ?fk_10 ?fa_11 ?fl_11 ?fc_11 ?fk_11 ?fa_12 ?fl_12 ?fc_12 ?fk_12 ?fa_13 ?fl_13 ?fc_13 ?fk_13 ?fa_14 ?fl_14 ?fc_14 ?fk_14 ?fa_15 ?fl_15 ?fc_15 ?fk_15 ?fa_16 ?fl_16 ?fc_16 ?fk_16 ?fa_17 ?fl_17 ?fc_17 ?fk_17 ?fa_18 ?fl_18 ?fc_18 ?fk_18 ?fa_19 ?fl_19 ?fc_19 ?fk_19
    (case b_abs => k_is)
    (case b_all => k_is)
    (case b_int => k_is)
    (case b_isinstance => k_is)
    (case b_len => k_is)
    (case b_range => k_is)
    (case b_str => k_is)
    (case b_tuple => k_is)
    (case c_DIGITS_lines => k_is)
    (case c_DIGITS_ratios => k_is)
    (case c_MAX_TEXT => k_is)
    (case c_RELATIONS => k_is)
    (case cl_RELATIONS => k_is)
    (case cv_RELATIONS => rfl)
    (case c_RESTS => k_is)
    (case cl_RESTS => k_is)
    (case cv_RESTS => rfl)
    (case d_FORMS => k_is)
    (case dl_FORMS => k_is)
    (case dk_FORMS => repeat' (first | exact trivial | refine ⟨⟨_, _, rfl, rfl⟩, ?_⟩))
    (case ds_FORMS => rfl)
    (case dv_FORMS => rfl)
    (case eA_0 => k_is)
    (case eK_0 => k_is)
    (case eB_0 => k_is)
    (case eT_0 => k_is)
    (case eI_0 => k_is)
    (case eA_1 => k_is)
    (case eX_1 => k_exc)
    (case eK_1 => k_is)
    (case eB_1 => k_is)
    (case eT_1 => k_is)
    (case eI_1 => k_is)
    (case eS_0_1 => first | rfl | k_is)
    (case eS_1_1 => first | rfl | k_is)
    (case fa_0 => k_is)
    (case fl_0 => k_is)
    (case fc_0 => k_is)
    (case fk_0 => k_is)
    (case fa_1 => k_is)
    (case fl_1 => k_is)
    (case fc_1 => k_is)
    (case fk_1 => k_is)
    (case fa_2 => k_is)
    (case fl_2 => k_is)
    (case fc_2 => k_is)
    (case fk_2 => k_is)
    (case fa_3 => k_is)
    (case fl_3 => k_is)
    (case fc_3 => k_is)
    (case fk_3 => k_is)
    (case fa_4 => k_is)
    (case fl_4 => k_is)
    (case fc_4 => k_is)
    (case fk_4 => k_is)
    (case fa_5 => k_is)
    (case fl_5 => k_is)
    (case fc_5 => k_is)
    (case fk_5 => k_is)
    (case fa_6 => k_is)
    (case fl_6 => k_is)
    (case fc_6 => k_is)
    (case fk_6 => k_is)
    (case fa_7 => k_is)
    (case fl_7 => k_is)
    (case fc_7 => k_is)
    (case fk_7 => k_is)
    (case fa_8 => k_is)
    (case fl_8 => k_is)
    (case fc_8 => k_is)
    (case fk_8 => k_is)
    (case fa_9 => k_is)
    (case fl_9 => k_is)
    (case fc_9 => k_is)
    (case fk_9 => k_is)
    (case fa_10 => k_is)
    (case fl_10 => k_is)
    (case fc_10 => k_is)
    (case fk_10 => k_is)
    (case fa_11 => k_is)
    (case fl_11 => k_is)
    (case fc_11 => k_is)
    (case fk_11 => k_is)
    (case fa_12 => k_is)
    (case fl_12 => k_is)
    (case fc_12 => k_is)
    (case fk_12 => k_is)
    (case fa_13 => k_is)
    (case fl_13 => k_is)
    (case fc_13 => k_is)
    (case fk_13 => k_is)
    (case fa_14 => k_is)
    (case fl_14 => k_is)
    (case fc_14 => k_is)
    (case fk_14 => k_is)
    (case fa_15 => k_is)
    (case fl_15 => k_is)
    (case fc_15 => k_is)
    (case fk_15 => k_is)
    (case fa_16 => k_is)
    (case fl_16 => k_is)
    (case fc_16 => k_is)
    (case fk_16 => k_is)
    (case fa_17 => k_is)
    (case fl_17 => k_is)
    (case fc_17 => k_is)
    (case fk_17 => k_is)
    (case fa_18 => k_is)
    (case fl_18 => k_is)
    (case fc_18 => k_is)
    (case fk_18 => k_is)
    (case fa_19 => k_is)
    (case fl_19 => k_is)
    (case fc_19 => k_is)
    (case fk_19 => k_is)
