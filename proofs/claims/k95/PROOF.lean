import PyProof.Rows.All
import Wide.All
import OpenK.AllK
import Wide.FinOn
import HandS.ForMost
import HandS.ForExc
import HandS.Conv
import HandS.Star
import HandS.StrSplit
import HandS.FStr
import HandS.IsInst
import HandS.TupAny
import HandS.Wide
import HandS.Flow
import HandS.Zip
import HandS.Lambda
import HandS.TryOnly
import HandS.ExcCtx
import HandS.Comp
import HandS.Deep
import HandS.RaiseMore
import HandS.Iter
import HandS.Hot
import PyProof.Rows.SumAny
import HandS.SuiteRaise
import HandS.RaiseFrom
import HandS.Strs
import HandS.TupMul
import HandS.ExcIs
import HandS.EndTab
import PySem.Challenge.RW_kerbwise_k95_texts_of_systems_duels_and
set_option Elab.async false
set_option linter.all false
set_option maxRecDepth 100000
set_option maxHeartbeats 4000000
/-! Z: plain data over the layer. A def is read as a function of plain data (PyData), without heap: environments rho (slots: unbound, shared, owned), results R. -/
namespace Z
open PySem PySem.Spec PyProof.Rows L2

/-! ### heaps that go on: the tables of code objects may grow, all else stays -/
def NT (o : HO) : Prop := ∀ ps, o ≠ .tbl ps
def NL (o : HO) : Prop := ∀ xs, o ≠ .lst xs
/-- the defs of the text that make a lambda, and the lambda's name -/
def lamDef : Str := "read_claims"
def lamName : Str := "read_claims.<locals>.<lambda>"
structure Same (H H' : Hp) : Prop where
  keep : ∀ b o, H b = some o → NT o → H' b = some o
  grow : ∀ b ps, H b = some (.tbl ps) → ∃ more, H' b = some (.tbl more)
  tab : ∀ P, LamX.TabS H P lamName → LamX.TabS H' P lamName
section
variable {H H' H1 H2 G : Hp} {b : Addr} {o : HO}
theorem Same.at (s : Same H H') (h : H b = some o) (n : NT o := by intro _ z; cases z) : H' b = some o := s.keep b o h n
theorem Same.of (e : ∀ b o, H b = some o → H' b = some o) : Same H H' := ⟨fun b o h _ => e b o h, fun b ps h => ⟨ps, e b _ h⟩, fun _ t => t.ext e⟩
theorem Same.refl (H : Hp) : Same H H := .of fun _ _ h => h
theorem Same.trans (s : Same H H1) (t : Same H1 H2) : Same H H2 := ⟨fun b o h n => t.keep b o (s.keep b o h n) n, fun b ps h => let ⟨m, e⟩ := s.grow b ps h; t.grow b m e, fun P z => t.tab P (s.tab P z)⟩
theorem Same.free (s : Same H H') (h : H' b = none) : H b = none := by
  cases q : H b with
  | none => rfl
  | some o =>
    cases o with
    | tbl ps =>
      obtain ⟨m, e⟩ := s.grow b ps q
      rw [h] at e
      cases e
    | _ => rw [s.at q] at h; cases h
theorem tabS_cut {P : Addr} {q : Str} (t : LamX.TabS H P q) (hl : ∀ a o, H a = some o → NL o → G a = some o) : LamX.TabS G P q := by
  obtain ⟨ps, h1, h2, h3⟩ := t
  refine ⟨ps, hl _ _ h1 (fun _ z => by cases z), h2, fun pos cv hc => ?_⟩
  obtain ⟨c, e1, e2⟩ := h3 pos cv hc
  exact ⟨c, e1, hl _ _ e2 (fun _ z => by unfold LamX.CodeO at z; cases z)⟩
/-- G is H but for lists; the lists of H1 stand in it -/
theorem Same.cut (s : Same H1 H) (hl : ∀ a o, H a = some o → NL o → G a = some o) (hk : ∀ a xs, H1 a = some (.lst xs) → H a = some (.lst xs) → G a = some (.lst xs)) : Same H1 G := by
  refine ⟨fun b o h n => ?_, fun b ps h => let ⟨m, e⟩ := s.grow b ps h; ⟨m, hl _ _ e (fun _ z => by cases z)⟩, fun P t => tabS_cut (s.tab P t) hl⟩
  cases o with
  | lst xs => exact hk b xs h (s.keep b _ h n)
  | _ => exact hl b _ (s.keep b _ h n) (fun _ z => by cases z)
end
/-- a list that is new since H1 is written -/
theorem Same.new {H1 H : Hp} {D : Addr} {xs ys : List V} (s : Same H1 H) (h1 : H1 D = none) (h : H D = some (.lst xs)) : Same H1 (upd H D (.lst ys)) := by
  refine s.cut (fun b o e n => ?_) fun b zs e e2 => ?_
  · have ne : b ≠ D := fun z => by rw [z, h] at e; exact n xs (Option.some.inj e).symm
    rw [upd_ne ne]
    exact e
  · rw [upd_ne (ne_of_none e h1)]
    exact e2
/-- the tables of code objects that are known -/
def TabsK (K : PySem.W.Frag) (H : Hp) : Prop := ∀ c P, PySem.W.tabIn K lamDef = some (c, P) → LamX.TabS H P lamName
theorem TabsK.go {K : PySem.W.Frag} {H H' : Hp} (t : TabsK K H) (s : Same H H') : TabsK K H' := fun c P e => s.tab P (t c P e)
theorem TabsK.cut {K : PySem.W.Frag} {H G : Hp} (t : TabsK K H) (hl : ∀ a o, H a = some o → NL o → G a = some o) : TabsK K G := fun c P e => tabS_cut (t c P e) hl

abbrev D := PyData
abbrev St := L2.St

/-- a result: a value, an exception of the kind k, or nothing known -/
inductive R (α : Type) where
  | ok (a : α)
  | ex (k : Nat)
  | no
def R.bind {α β : Type} (x : R α) (f : α → R β) : R β := match x with
  | .ok a => f a
  | .ex k => .ex k
  | .no => .no

/-! ### representation -/
/-- a list that is read: tracked and not in B, or of the written part -/
def RL (K : PySem.W.Frag) (H : Hp) (B : Addr → Prop) (a : Addr) (xs : List V) : Prop := (Rd H a (.lst xs) ∧ ¬ B a) ∨
  ∃ (o : Obj) (its : Array Value) (n : Nat), K.lookup a = some o ∧ o.cls = .type "list" ∧ o.dict = none ∧ o.data = .seq its n ∧ its.size ≤ sizeLine ∧ Vals xs its.toList
theorem RL.sq {K : PySem.W.Frag} {H : Hp} {B : Addr → Prop} {a : Addr} {xs : List V} (h : RL K H B a xs) : SqL K H a xs := h.elim (fun z => .inl z.1) .inr
theorem RL.mk {K : PySem.W.Frag} {H : Hp} {B : Addr → Prop} {a : Addr} {xs : List V} (h : Rd H a (.lst xs)) (n : ¬ B a) : RL K H B a xs := .inl ⟨h, n⟩
/-- the lambda that stands in the call behind the last return of a body -/
def lamOf : FuncBody → Option (Arguments × Expr × Scope)
  | .stmts ss => (match ss.getLast? with
    | some (.Return (some (.Call _ (.Lambda p b s _ :: _) _ _)) _) => some (p, b, s)
    | _ => none)
  | _ => none
/-- its parts, read off the written part -/
def LamIs (K : PySem.W.Frag) (p : Arguments) (b : Expr) (sc : Scope) : Prop := ∃ (g : Addr) (o : Obj) (fd : FuncData), PySem.W.nsIn K mainGlobals lamDef = some (some (.ref g)) ∧ K.lookup g = some o ∧ o.data = .func fd ∧ lamOf fd.body = some (p, b, sc)
/-- the function that was made of it stands at f -/
def LamAt (K : PySem.W.Frag) (H : Hp) (f : Addr) : Prop := ∃ (p : Arguments) (b : Expr) (sc : Scope) (pm ctv : Value) (c' : Addr), LamIs K p b sc ∧ H f = some (.ext fun h => h.get? f = some (PySem.W.kla_obj "<lambda>" lamName p b sc [] pm c' ctv)) ∧ H c' = some (LamX.CodeO c' lamName)
mutual
inductive Rp (K : PySem.W.Frag) (H : Hp) (B : Addr → Prop) : V → D → Prop
  | non : Rp K H B .non .none
  | bl (b : Bool) : Rp K H B (.bl b) (.bool b)
  | int (i : Int) : Rp K H B (.int i) (.int i)
  | str (x : Str) : Rp K H B (.str x) (.str x)
  | lst {a : Addr} {xs : List V} {ds : List D} : RL K H B a xs → RpAll K H B xs ds → Rp K H B (.ref a) (.list ds)
  | tup {a : Addr} {xs : List V} {ds : List D} : SqT K H a xs → RpAll K H B xs ds → Rp K H B (.ref a) (.tuple ds)
  /-- a def of the module, as a value: told by its name -/
  | fn {f : Addr} {x : Str} : PySem.W.nsIn K mainGlobals x = some (some (.ref f)) → PySem.W.keepIn K (.ref f) = true → Rp K H B (.ref f) (.dict [(.str x, .none)])
  /-- any object, by its address: what it is, is not told -/
  | tok {a : Addr} : Rp K H B (.ref a) (.dict [(.none, .int (a : Nat))])
  /-- the lambda of the text, made anew -/
  | lam {f : Addr} : LamAt K H f → Rp K H B (.ref f) (.dict [(.none, .none)])
inductive RpAll (K : PySem.W.Frag) (H : Hp) (B : Addr → Prop) : List V → List D → Prop
  | nil : RpAll K H B [] []
  | cons {v : V} {vs : List V} {d : D} {ds : List D} : Rp K H B v d → RpAll K H B vs ds → RpAll K H B (v :: vs) (d :: ds)
end

section
variable {K : PySem.W.Frag} {H H' : Hp} {B B' : Addr → Prop}

/-- how a heap may go on: what lists and tuples that matter (those of T) stay -/
theorem rd_ne {a : Addr} {u : HO} (r : Rd H a u) : H a ≠ none := by
  rcases r with r | ⟨o, r⟩ <;> (rw [r]; exact fun h => nomatch h)
theorem rd_same {a : Addr} {u : HO} (s : Same H H') (r : Rd H a u) (n : NT u := by intro _ z; cases z) : Rd H' a u := by
  rcases r with r | ⟨o, r⟩
  · exact .inl (s.at r n)
  · exact .inr ⟨o, s.at r⟩
theorem sqT_same {a : Addr} {xs : List V} (s : Same H H') (r : SqT K H a xs) : SqT K H' a xs := by
  rcases r with r | r
  · exact .inl (rd_same s r)
  · exact .inr r
/-- the general step: lists that are read (not in B) and tuples stay -/
structure Step (K : PySem.W.Frag) (H H' : Hp) (B B' : Addr → Prop) : Prop where
  lst : ∀ a xs, Rd H a (.lst xs) → ¬ B a → Rd H' a (.lst xs) ∧ ¬ B' a
  tup : ∀ a xs, SqT K H a xs → SqT K H' a xs
  ext : ∀ a φ, H a = some (.ext φ) → H' a = some (.ext φ)
theorem LamAt.step {f : Addr} (t : LamAt K H f) (e : ∀ a φ, H a = some (.ext φ) → H' a = some (.ext φ)) : LamAt K H' f := by
  obtain ⟨p, b, sc, pm, ctv, c', h1, h2, h3⟩ := t
  exact ⟨p, b, sc, pm, ctv, c', h1, e _ _ h2, e _ _ h3⟩
mutual
theorem Rp.step (S : Step K H H' B B') : ∀ (d : D) (v : V), Rp K H B v d → Rp K H' B' v d
  | .none, _, h => by cases h; exact .non
  | .bool b, _, h => by cases h; exact .bl b
  | .int i, _, h => by cases h; exact .int i
  | .str x, _, h => by cases h; exact .str x
  | .list ds, _, h => by
    cases h with
    | lst hs ha => exact .lst (hs.imp (fun z => S.lst _ _ z.1 z.2) id) (Rp.stepAll S ds _ ha)
  | .tuple ds, _, h => by
    cases h with
    | tup hs ha => exact .tup (S.tup _ _ hs) (Rp.stepAll S ds _ ha)
  | .dict _, _, h => by
    cases h with
    | fn h1 h2 => exact .fn h1 h2
    | lam h1 => exact .lam (h1.step S.ext)
    | tok => exact .tok
theorem Rp.stepAll (S : Step K H H' B B') : ∀ (ds : List D) (vs : List V), RpAll K H B vs ds → RpAll K H' B' vs ds
  | [], _, h => by cases h; exact .nil
  | d :: ds, _, h => by
    cases h with
    | cons h1 h2 => exact .cons (Rp.step S d _ h1) (Rp.stepAll S ds _ h2)
end
theorem Step.mono (s : Same H H') (hb : ∀ a, B' a → B a ∨ H a = none) : Step K H H' B B' :=
  ⟨fun a xs r n => ⟨rd_same s r, fun z => (hb a z).elim n (rd_ne r)⟩, fun a xs r => sqT_same s r, fun a φ r => s.at r⟩
theorem Rp.mono {v : V} {d : D} (s : Same H H') (r : Rp K H B v d) (hb : ∀ a, B' a → B a ∨ H a = none := by exact fun _ z => .inl z) : Rp K H' B' v d := Rp.step (.mono s hb) d v r
theorem RpAll.mono {vs : List V} {ds : List D} (s : Same H H') (r : RpAll K H B vs ds) (hb : ∀ a, B' a → B a ∨ H a = none := by exact fun _ z => .inl z) : RpAll K H' B' vs ds := Rp.stepAll (.mono s hb) ds vs r
theorem RpAll.length : ∀ {vs : List V} {ds : List D}, RpAll K H B vs ds → vs.length = ds.length
  | _, _, .nil => rfl
  | _, _, .cons _ t => by rw [List.length_cons, List.length_cons, RpAll.length t]
theorem RpAll.get : ∀ {vs : List V} {ds : List D} {i : Nat} {v : V}, RpAll K H B vs ds → vs[i]? = some v → ∃ d, ds[i]? = some d ∧ Rp K H B v d
  | _, _, _, _, .nil, e => by simp at e
  | _, _, 0, v, .cons r _, e => by simp at e; subst e; exact ⟨_, rfl, r⟩
  | _, _, i + 1, v, .cons _ t, e => by
    obtain ⟨d, h1, h2⟩ := RpAll.get (i := i) (v := v) t (by simpa using e)
    exact ⟨d, by simpa using h1, h2⟩
theorem RpAll.get' : ∀ {vs : List V} {ds : List D} {i : Nat} {d : D}, RpAll K H B vs ds → ds[i]? = some d → ∃ v, vs[i]? = some v ∧ Rp K H B v d
  | _, _, _, _, .nil, e => by simp at e
  | _, _, 0, v, .cons r _, e => by simp at e; subst e; exact ⟨_, rfl, r⟩
  | _, _, i + 1, v, .cons _ t, e => by
    obtain ⟨d, h1, h2⟩ := RpAll.get' (i := i) (d := v) t (by simpa using e)
    exact ⟨d, by simpa using h1, h2⟩
theorem RpAll.append : ∀ {vs ws : List V} {ds es : List D}, RpAll K H B vs ds → RpAll K H B ws es → RpAll K H B (vs ++ ws) (ds ++ es)
  | _, _, _, _, .nil, s => s
  | _, _, _, _, .cons r t, s => .cons r (RpAll.append t s)
theorem RpAll.take : ∀ {vs : List V} {ds : List D} (n : Nat), RpAll K H B vs ds → RpAll K H B (vs.take n) (ds.take n)
  | _, _, 0, _ => .nil
  | _, _, _ + 1, .nil => .nil
  | _, _, n + 1, .cons r t => .cons r (RpAll.take n t)
theorem RpAll.drop : ∀ {vs : List V} {ds : List D} (n : Nat), RpAll K H B vs ds → RpAll K H B (vs.drop n) (ds.drop n)
  | _, _, 0, r => r
  | _, _, _ + 1, .nil => .nil
  | _, _, n + 1, .cons _ t => RpAll.drop n t
theorem RpAll.set {v : V} {d : D} (r : Rp K H B v d) : ∀ {vs : List V} {ds : List D} (n : Nat), RpAll K H B vs ds → RpAll K H B (vs.set n v) (ds.set n d)
  | _, _, _, .nil => .nil
  | _, _, 0, .cons _ t => .cons r t
  | _, _, n + 1, .cons q t => .cons q (RpAll.set r n t)
theorem RpAll.reverse : ∀ {vs : List V} {ds : List D}, RpAll K H B vs ds → RpAll K H B vs.reverse ds.reverse
  | _, _, .nil => .nil
  | _, _, .cons r t => by
    rw [List.reverse_cons, List.reverse_cons]
    exact RpAll.append (RpAll.reverse t) (.cons r .nil)
theorem RpAll.ints : ∀ (ns : List Int), RpAll K H B (ns.map V.int) (ns.map PyData.int)
  | [] => .nil
  | n :: r => .cons (.int n) (RpAll.ints r)
theorem RpAll.strs : ∀ (ns : List Str), RpAll K H B (ns.map V.str) (ns.map PyData.str)
  | [] => .nil
  | n :: r => .cons (.str n) (RpAll.strs r)

/-! ### to the layer's Dp -/
theorem Rd.sqL {a : Addr} {xs : List V} (r : Rd H a (.lst xs)) : SqL K H a xs := .inl r
mutual
theorem Rp.dp : ∀ (d : D) (v : V), d.canLay0 = true → Rp K H B v d → Dp K H v d
  | .none, _, _, h => by cases h; exact .non
  | .bool b, _, _, h => by cases h; exact .bl b
  | .int i, _, _, h => by cases h; exact .int i
  | .str x, _, _, h => by cases h; exact .str x
  | .list ds, _, c, h => by
    cases h with
    | lst hs ha => exact .lst hs.sq (Rp.dpAll ds _ (by simpa [PyData.canLay0] using c) ha)
  | .tuple ds, _, c, h => by
    cases h with
    | tup hs ha => exact .tup hs (Rp.dpAll ds _ (by simpa [PyData.canLay0] using c) ha)
  | .dict _, _, c, _ => by simp [PyData.canLay0] at c
theorem Rp.dpAll : ∀ (ds : List D) (vs : List V), PyData.canLayAll0 ds = true → RpAll K H B vs ds → DpAll K H vs ds
  | [], _, _, h => by cases h; exact .nil
  | d :: ds, _, c, h => by
    simp only [PyData.canLayAll0, Bool.and_eq_true] at c
    cases h with
    | cons h1 h2 => exact .cons (Rp.dp d _ c.1 h1) (Rp.dpAll ds _ c.2 h2)
end
end

/-- as read, where the topmost list may be one that a slot owns -/
def RpC (K : PySem.W.Frag) (H : Hp) (B : Addr → Prop) (v : V) : D → Prop
  | .list ds => ∃ a xs, v = .ref a ∧ SqL K H a xs ∧ RpAll K H B xs ds
  | d => Rp K H B v d
theorem Rp.c {K : PySem.W.Frag} {H : Hp} {B : Addr → Prop} {v : V} : ∀ {d : D}, Rp K H B v d → RpC K H B v d
  | .list ds, h => by
    cases h with
    | lst hs ha => exact ⟨_, _, rfl, hs.sq, ha⟩
  | .none, h => h
  | .bool _, h => h
  | .int _, h => h
  | .str _, h => h
  | .tuple _, h => h
  | .dict _, h => h
theorem sqL_same {K : PySem.W.Frag} {H H' : Hp} {a : Addr} {xs : List V} (s : Same H H') (r : SqL K H a xs) : SqL K H' a xs := by
  rcases r with r | r
  · exact .inl (rd_same s r)
  · exact .inr r
theorem RpC.mono {K : PySem.W.Frag} {H H' : Hp} {B B' : Addr → Prop} {v : V} (s : Same H H') (hb : ∀ a, B' a → B a ∨ H a = none) : ∀ {d : D}, RpC K H B v d → RpC K H' B' v d
  | .list ds, ⟨a, xs, e, h, r⟩ => ⟨a, xs, e, sqL_same s h, r.mono s hb⟩
  | .none, h => Rp.mono s h hb
  | .bool _, h => Rp.mono s h hb
  | .int _, h => Rp.mono s h hb
  | .str _, h => Rp.mono s h hb
  | .tuple _, h => Rp.mono s h hb
  | .dict _, h => Rp.mono s h hb
theorem RpC.dp {K : PySem.W.Frag} {H : Hp} {B : Addr → Prop} {v : V} : ∀ {d : D}, SeqAt.shaped d = true → RpC K H B v d → Dp K H v d
  | .list ds, c, ⟨a, xs, e, h, r⟩ => by subst e; exact .lst h (Rp.dpAll ds _ (by have := SeqAt.canLay_of_shaped c; simpa [PyData.canLay0] using this) r)
  | .none, c, h => Rp.dp _ _ (SeqAt.canLay_of_shaped c) h
  | .bool _, c, h => Rp.dp _ _ (SeqAt.canLay_of_shaped c) h
  | .int _, c, h => Rp.dp _ _ (SeqAt.canLay_of_shaped c) h
  | .str _, c, h => Rp.dp _ _ (SeqAt.canLay_of_shaped c) h
  | .tuple _, c, h => Rp.dp _ _ (SeqAt.canLay_of_shaped c) h
  | .dict _, c, h => Rp.dp _ _ (SeqAt.canLay_of_shaped c) h

/-! ### environments -/
/-- a slot: unbound (or unknown), a shared value, a list that the slot alone holds -/
inductive Sl where
  | un
  | sh (d : D)
  | ow (ds : List D)
abbrev Rho := List Sl
/-- what is kept through a def: the heap at its entry (H0), the addresses that callers own (B0) -/
structure ZC where
  H0 : Hp
  B0 : Addr → Prop
  /-- where the first slot's own list lies, if the caller handed it in -/
  p0 : Option Addr
def OwnA (r : Rho) (σ : St) (a : Addr) : Prop := ∃ (i : Nat) (ds : List D), r[i]? = some (.ow ds) ∧ σ[i]? = some (some (.ref a))
def BB (C : ZC) (r : Rho) (σ : St) (a : Addr) : Prop := C.B0 a ∨ OwnA r σ a
structure EnvOk (K : PySem.W.Frag) (C : ZC) (H : Hp) (r : Rho) (σ : St) : Prop where
  len : r.length = σ.length
  same : Same C.H0 H
  b0 : ∀ a, C.B0 a → H a ≠ none ∧ ¬ OwnA r σ a
  sh : ∀ (i : Nat) d, r[i]? = some (.sh d) → ∃ v, σ[i]? = some (some v) ∧ Rp K H (BB C r σ) v d
  ow : ∀ (i : Nat) ds, r[i]? = some (.ow ds) → ∃ a vs, σ[i]? = some (some (.ref a)) ∧ H a = some (.lst vs) ∧ C.H0 a = none ∧ RpAll K H (BB C r σ) vs ds
  inj : ∀ (i j : Nat) ds es a, r[i]? = some (.ow ds) → r[j]? = some (.ow es) → σ[i]? = some (some (.ref a)) → σ[j]? = some (some (.ref a)) → i = j
  pin : ∀ a ds, C.p0 = some a → r[0]? = some (.ow ds) → σ[0]? = some (some (.ref a))
  tb : TabsK K H
section
variable {K : PySem.W.Frag} {C : ZC} {H H' : Hp} {r : Rho} {σ : St}
theorem EnvOk.own (E : EnvOk K C H r σ) {a : Addr} (h : OwnA r σ a) : ∃ vs, H a = some (.lst vs) ∧ C.H0 a = none := by
  obtain ⟨i, ds, h1, h2⟩ := h
  obtain ⟨b, vs, h3, h4, h5, _⟩ := E.ow i ds h1
  rw [h2] at h3
  have e : a = b := V.ref.inj (Option.some.inj (Option.some.inj h3))
  subst e
  exact ⟨vs, h4, h5⟩
theorem EnvOk.bb (E : EnvOk K C H r σ) {a : Addr} (h : BB C r σ a) : H a ≠ none := by
  rcases h with h | h
  · exact (E.b0 a h).1
  · obtain ⟨vs, e, _⟩ := E.own h
    rw [e]
    exact fun z => nomatch z
theorem EnvOk.go (E : EnvOk K C H r σ) (s : Same H H') : EnvOk K C H' r σ :=
  ⟨E.len, E.same.trans s, fun a h => ⟨fun z => (E.b0 a h).1 (s.free z), (E.b0 a h).2⟩, fun i d h => let ⟨v, e, q⟩ := E.sh i d h; ⟨v, e, q.mono s⟩,
    fun i ds h => let ⟨a, vs, e, q, z, w⟩ := E.ow i ds h; ⟨a, vs, e, s.at q, z, w.mono s⟩, E.inj, E.pin, E.tb.go s⟩
theorem pin_set {C : ZC} {i : Nat} {s : Sl} {x : Option V} (E : EnvOk K C H r σ) (hs : ∀ ds, s ≠ .ow ds) : ∀ a ds, C.p0 = some a → (r.set i s)[0]? = some (.ow ds) → (σ.set i x)[0]? = some (some (.ref a)) := fun a ds h0 h1 => by
  by_cases e : i = 0
  · subst e
    have l1 : 0 < r.length := by
      have := (List.getElem?_eq_some_iff.mp h1).1
      simpa using this
    rw [List.getElem?_set_self l1] at h1
    exact absurd (Option.some.inj h1) (hs ds)
  · rw [List.getElem?_set_ne e] at h1 ⊢
    exact E.pin a ds h0 h1
theorem own_set {i : Nat} {s : Sl} {x : Option V} {a : Addr} (hs : ∀ ds, s = .ow ds → x ≠ some (.ref a)) (h : OwnA (r.set i s) (σ.set i x) a) : OwnA r σ a := by
  obtain ⟨j, ds, h1, h2⟩ := h
  by_cases e : i = j
  · subst e
    exfalso
    have l1 : i < r.length := by
      have := (List.getElem?_eq_some_iff.mp h1).1
      simpa using this
    rw [List.getElem?_set_self l1] at h1
    have l2 : i < σ.length := by
      have := (List.getElem?_eq_some_iff.mp h2).1
      simpa using this
    rw [List.getElem?_set_self l2] at h2
    exact hs ds (Option.some.inj h1) (Option.some.inj h2)
  · rw [List.getElem?_set_ne e] at h1 h2
    exact ⟨j, ds, h1, h2⟩
/-- a shared value is stored -/
theorem EnvOk.set_sh (E : EnvOk K C H r σ) {i : Nat} {v : V} {d : D} (q : Rp K H (BB C r σ) v d) : EnvOk K C H (r.set i (.sh d)) (σ.set i (some v)) := by
  have hb : ∀ a, BB C (r.set i (.sh d)) (σ.set i (some v)) a → BB C r σ a := fun a h => h.elim .inl fun h => .inr (own_set (fun ds e => by cases e) h)
  refine ⟨by simpa using E.len, E.same, fun a h => ⟨(E.b0 a h).1, fun z => (E.b0 a h).2 (own_set (fun ds e => by cases e) z)⟩, fun j e h => ?_, fun j ds h => ?_, fun j k ds es a h1 h2 h3 h4 => ?_, pin_set E fun _ => nofun, E.tb⟩
  · by_cases z : i = j
    · subst z
      have l1 : i < r.length := by
        have := (List.getElem?_eq_some_iff.mp h).1
        simpa using this
      rw [List.getElem?_set_self l1] at h
      cases h
      exact ⟨v, by rw [List.getElem?_set_self (by rw [← E.len]; exact l1)], q.mono (Same.refl H) fun a z => .inl (hb a z)⟩
    · rw [List.getElem?_set_ne z] at h ⊢
      obtain ⟨w, e1, q1⟩ := E.sh j e h
      exact ⟨w, e1, q1.mono (Same.refl H) fun a z => .inl (hb a z)⟩
  · by_cases z : i = j
    · subst z
      have l1 : i < r.length := by
        have := (List.getElem?_eq_some_iff.mp h).1
        simpa using this
      rw [List.getElem?_set_self l1] at h
      cases h
    · rw [List.getElem?_set_ne z] at h ⊢
      obtain ⟨a, vs, e1, e2, e3, q1⟩ := E.ow j ds h
      exact ⟨a, vs, e1, e2, e3, q1.mono (Same.refl H) fun a z => .inl (hb a z)⟩
  · have n1 : i ≠ j := fun z => by
      subst z
      have l1 : i < r.length := by
        have := (List.getElem?_eq_some_iff.mp h1).1
        simpa using this
      rw [List.getElem?_set_self l1] at h1
      cases h1
    have n2 : i ≠ k := fun z => by
      subst z
      have l1 : i < r.length := by
        have := (List.getElem?_eq_some_iff.mp h2).1
        simpa using this
      rw [List.getElem?_set_self l1] at h2
      cases h2
    rw [List.getElem?_set_ne n1] at h1 h3
    rw [List.getElem?_set_ne n2] at h2 h4
    exact E.inj j k ds es a h1 h2 h3 h4
/-- a slot is forgotten -/
theorem EnvOk.set_un (E : EnvOk K C H r σ) {i : Nat} {x : Option V} : EnvOk K C H (r.set i .un) (σ.set i x) := by
  have hb : ∀ a, BB C (r.set i .un) (σ.set i x) a → BB C r σ a := fun a h => h.elim .inl fun h => .inr (own_set (fun ds e => by cases e) h)
  have lt : ∀ {s : Sl}, (r.set i .un)[i]? = some s → s = .un := fun {s} h => by
    have l1 : i < r.length := by
      have := (List.getElem?_eq_some_iff.mp h).1
      simpa using this
    rw [List.getElem?_set_self l1] at h
    exact (Option.some.inj h).symm
  refine ⟨by simpa using E.len, E.same, fun a h => ⟨(E.b0 a h).1, fun z => (E.b0 a h).2 (own_set (fun ds e => by cases e) z)⟩, fun j e h => ?_, fun j ds h => ?_, fun j k ds es a h1 h2 h3 h4 => ?_, pin_set E fun _ => nofun, E.tb⟩
  · by_cases z : i = j
    · subst z; cases lt h
    · rw [List.getElem?_set_ne z] at h ⊢
      obtain ⟨w, e1, q1⟩ := E.sh j e h
      exact ⟨w, e1, q1.mono (Same.refl H) fun a z => .inl (hb a z)⟩
  · by_cases z : i = j
    · subst z; cases lt h
    · rw [List.getElem?_set_ne z] at h ⊢
      obtain ⟨a, vs, e1, e2, e3, q1⟩ := E.ow j ds h
      exact ⟨a, vs, e1, e2, e3, q1.mono (Same.refl H) fun a z => .inl (hb a z)⟩
  · have n1 : i ≠ j := fun z => by subst z; cases lt h1
    have n2 : i ≠ k := fun z => by subst z; cases lt h2
    rw [List.getElem?_set_ne n1] at h1 h3
    rw [List.getElem?_set_ne n2] at h2 h4
    exact E.inj j k ds es a h1 h2 h3 h4
/-- a new list is stored and owned: p is new since Hs, where the environment stood -/
theorem EnvOk.set_ow (E : EnvOk K C H r σ) {i : Nat} {p : Addr} {vs : List V} {ds : List D} (np : H p = none) (s : Same H H') (hp : H' p = some (.lst vs)) (q : RpAll K H' (fun a => BB C r σ a ∨ a = p) vs ds) (hi : i < r.length) (h0 : i ≠ 0) :
    EnvOk K C H' (r.set i (.ow ds)) (σ.set i (some (.ref p))) := by
  have hi2 : i < σ.length := by rw [← E.len]; exact hi
  have hb : ∀ a, BB C (r.set i (.ow ds)) (σ.set i (some (.ref p))) a → BB C r σ a ∨ a = p := fun a h => by
    by_cases e : a = p
    · exact .inr e
    · exact .inl (h.elim .inl fun h => .inr (own_set (fun ds _ z => e (V.ref.inj (Option.some.inj z)).symm) h))
  have hb2 : ∀ a, BB C (r.set i (.ow ds)) (σ.set i (some (.ref p))) a → BB C r σ a ∨ H a = none := fun a h => (hb a h).elim .inl fun e => .inr (by rw [e]; exact np)
  have notp : ∀ {j : Nat} {es : List D}, r[j]? = some (.ow es) → σ[j]? ≠ some (some (.ref p)) := fun {j es} h1 h2 => by
    obtain ⟨vs, e, _⟩ := E.own ⟨j, es, h1, h2⟩
    rw [np] at e
    cases e
  refine ⟨by simpa using E.len, E.same.trans s, fun a h => ⟨fun z => (E.b0 a h).1 (s.free z), fun z => ?_⟩, fun j e h => ?_, fun j es h => ?_, fun j k es fs a h1 h2 h3 h4 => ?_, fun a ds q0 q1 => by
    rw [List.getElem?_set_ne h0] at q1 ⊢
    exact E.pin a ds q0 q1, E.tb.go s⟩
  · by_cases e : a = p
    · subst e
      exact (E.b0 a h).1 np
    · exact (E.b0 a h).2 (own_set (fun ds _ z => e (V.ref.inj (Option.some.inj z)).symm) z)
  · by_cases z : i = j
    · subst z
      rw [List.getElem?_set_self hi] at h
      cases h
    · rw [List.getElem?_set_ne z] at h ⊢
      obtain ⟨w, e1, q1⟩ := E.sh j e h
      exact ⟨w, e1, q1.mono s hb2⟩
  · by_cases z : i = j
    · subst z
      rw [List.getElem?_set_self hi] at h
      cases h
      exact ⟨p, vs, by rw [List.getElem?_set_self hi2], hp, E.same.free np, q.mono (Same.refl _) fun a z => .inl (hb a z)⟩
    · rw [List.getElem?_set_ne z] at h ⊢
      obtain ⟨a, vs, e1, e2, e3, q1⟩ := E.ow j es h
      exact ⟨a, vs, e1, s.at e2, e3, q1.mono s hb2⟩
  · by_cases z1 : i = j
    · subst z1
      by_cases z2 : i = k
      · exact z2
      · rw [List.getElem?_set_self hi2] at h3
        have ea : p = a := V.ref.inj (Option.some.inj (Option.some.inj h3))
        subst ea
        rw [List.getElem?_set_ne z2] at h2 h4
        exact absurd h4 (notp h2)
    · by_cases z2 : i = k
      · subst z2
        rw [List.getElem?_set_self hi2] at h4
        have ea : p = a := V.ref.inj (Option.some.inj (Option.some.inj h4))
        subst ea
        rw [List.getElem?_set_ne z1] at h1 h3
        exact absurd h3 (notp h1)
      · rw [List.getElem?_set_ne z1] at h1 h3
        rw [List.getElem?_set_ne z2] at h2 h4
        exact E.inj j k es fs a h1 h2 h3 h4
/-- an owned list is changed -/
theorem EnvOk.upd_ow (E : EnvOk K C H r σ) {i : Nat} {a : Addr} {ds es : List D} {vs : List V} (hi : r[i]? = some (.ow ds)) (ha : σ[i]? = some (some (.ref a))) (q : RpAll K H (BB C r σ) vs es) :
    EnvOk K C (upd H a (.lst vs)) (r.set i (.ow es)) σ := by
  have hil : i < r.length := (List.getElem?_eq_some_iff.mp hi).1
  obtain ⟨vs0, ea, e0⟩ := E.own ⟨i, ds, hi, ha⟩
  have own : BB C r σ a := .inr ⟨i, ds, hi, ha⟩
  have oeq : ∀ b, OwnA (r.set i (.ow es)) σ b → OwnA r σ b := fun b h => by
    obtain ⟨j, fs, h1, h2⟩ := h
    by_cases z : i = j
    · subst z; exact ⟨i, ds, hi, h2⟩
    · rw [List.getElem?_set_ne z] at h1; exact ⟨j, fs, h1, h2⟩
  have bb : ∀ b, BB C (r.set i (.ow es)) σ b → BB C r σ b := fun b h => h.elim .inl fun h => .inr (oeq b h)
  have S : Step K H (upd H a (.lst vs)) (BB C r σ) (BB C (r.set i (.ow es)) σ) := by
    refine ⟨fun b xs rd nb => ⟨?_, fun z => nb (bb b z)⟩, fun b xs t => ?_, fun b φ t => by rw [upd_ne fun z => by rw [z, ea] at t; exact nomatch t]; exact t⟩
    · have ne : b ≠ a := fun z => nb (by rw [z]; exact own)
      rcases rd with rd | ⟨o, rd⟩
      · exact .inl (by rw [upd_ne ne]; exact rd)
      · exact .inr ⟨o, by rw [upd_ne ne]; exact rd⟩
    · rcases t with t | t
      · rcases t with t | ⟨o, t⟩
        · have ne : b ≠ a := fun z => by rw [z, ea] at t; cases t
          exact .inl (.inl (by rw [upd_ne ne]; exact t))
        · have ne : b ≠ a := fun z => by rw [z, ea] at t; cases t
          exact .inl (.inr ⟨o, by rw [upd_ne ne]; exact t⟩)
      · exact .inr t
  have cut : ∀ b o, H b = some o → NL o → upd H a (.lst vs) b = some o := fun b o h n => by
    have ne : b ≠ a := fun z => by rw [z, ea] at h; exact n vs0 (Option.some.inj h).symm
    rw [upd_ne ne]
    exact h
  refine ⟨by simpa using E.len, E.same.cut cut fun b xs h h2 => ?_, fun b h => ⟨?_, fun z => (E.b0 b h).2 (oeq b z)⟩, fun j e h => ?_, fun j fs h => ?_, fun j k fs gs b h1 h2 h3 h4 => ?_, fun b fs q0 q1 => by
    by_cases z : i = 0
    · subst z
      exact E.pin b ds q0 hi
    · rw [List.getElem?_set_ne z] at q1
      exact E.pin b fs q0 q1, E.tb.cut cut⟩
  · have ne : b ≠ a := fun z => by rw [z, e0] at h; cases h
    rw [upd_ne ne]
    exact h2
  · have ne : b ≠ a := fun z => (E.b0 b h).2 (by rw [z]; exact ⟨i, ds, hi, ha⟩)
    rw [upd_ne ne]
    exact (E.b0 b h).1
  · by_cases z : i = j
    · subst z
      rw [List.getElem?_set_self hil] at h
      cases h
    · rw [List.getElem?_set_ne z] at h
      obtain ⟨w, e1, q1⟩ := E.sh j e h
      exact ⟨w, e1, Rp.step S _ _ q1⟩
  · by_cases z : i = j
    · subst z
      rw [List.getElem?_set_self hil] at h
      cases h
      exact ⟨a, vs, ha, upd_same, e0, Rp.stepAll S _ _ q⟩
    · rw [List.getElem?_set_ne z] at h
      obtain ⟨b, ws, e1, e2, e3, q1⟩ := E.ow j fs h
      have ne : b ≠ a := fun y => by
        subst y
        exact z (E.inj i j ds fs b hi h ha e1)
      exact ⟨b, ws, e1, by rw [upd_ne ne]; exact e2, e3, Rp.stepAll S _ _ q1⟩
  · have f1 : ∃ fs', r[j]? = some (.ow fs') := by
      by_cases z : i = j
      · subst z; exact ⟨_, hi⟩
      · rw [List.getElem?_set_ne z] at h1; exact ⟨_, h1⟩
    have f2 : ∃ fs', r[k]? = some (.ow fs') := by
      by_cases z : i = k
      · subst z; exact ⟨_, hi⟩
      · rw [List.getElem?_set_ne z] at h2; exact ⟨_, h2⟩
    obtain ⟨fs', f1⟩ := f1
    obtain ⟨gs', f2⟩ := f2
    exact E.inj j k fs' gs' b f1 f2 h3 h4
/-- an owned list is let go: from here on it is a shared value -/
theorem EnvOk.rel (E : EnvOk K C H r σ) {i : Nat} {ds : List D} (hi : r[i]? = some (.ow ds)) : EnvOk K C H (r.set i (.sh (.list ds))) σ := by
  have hil : i < r.length := (List.getElem?_eq_some_iff.mp hi).1
  obtain ⟨a, vs, ha, hH, h0, q⟩ := E.ow i ds hi
  have oeq : ∀ b, OwnA (r.set i (.sh (.list ds))) σ b → OwnA r σ b := fun b h => by
    obtain ⟨j, fs, h1, h2⟩ := h
    by_cases z : i = j
    · subst z
      rw [List.getElem?_set_self hil] at h1
      cases h1
    · rw [List.getElem?_set_ne z] at h1; exact ⟨j, fs, h1, h2⟩
  have bb : ∀ b, BB C (r.set i (.sh (.list ds))) σ b → BB C r σ b ∨ H b = none := fun b h => h.elim (fun z => .inl (.inl z)) fun h => .inl (.inr (oeq b h))
  have na : ¬ BB C (r.set i (.sh (.list ds))) σ a := fun h => by
    rcases h with h | ⟨j, fs, h1, h2⟩
    · exact (E.b0 a h).2 ⟨i, ds, hi, ha⟩
    · by_cases z : i = j
      · subst z
        rw [List.getElem?_set_self hil] at h1
        cases h1
      · rw [List.getElem?_set_ne z] at h1
        exact z (E.inj i j ds fs a hi h1 ha h2)
  refine ⟨by simpa using E.len, E.same, fun b h => ⟨(E.b0 b h).1, fun z => (E.b0 b h).2 (oeq b z)⟩, fun j e h => ?_, fun j fs h => ?_, fun j k fs gs b h1 h2 h3 h4 => ?_, fun b fs q0 q1 => by
    by_cases z : i = 0
    · subst z
      rw [List.getElem?_set_self hil] at q1
      cases q1
    · rw [List.getElem?_set_ne z] at q1
      exact E.pin b fs q0 q1, E.tb⟩
  · by_cases z : i = j
    · subst z
      rw [List.getElem?_set_self hil] at h
      cases h
      exact ⟨_, ha, .lst (.mk (.inl hH) na) (q.mono (Same.refl H) bb)⟩
    · rw [List.getElem?_set_ne z] at h
      obtain ⟨w, e1, q1⟩ := E.sh j e h
      exact ⟨w, e1, q1.mono (Same.refl H) bb⟩
  · by_cases z : i = j
    · subst z
      rw [List.getElem?_set_self hil] at h
      cases h
    · rw [List.getElem?_set_ne z] at h
      obtain ⟨b, ws, e1, e2, e3, q1⟩ := E.ow j fs h
      exact ⟨b, ws, e1, e2, e3, q1.mono (Same.refl H) bb⟩
  · have n1 : i ≠ j := fun z => by
      subst z
      rw [List.getElem?_set_self hil] at h1
      cases h1
    have n2 : i ≠ k := fun z => by
      subst z
      rw [List.getElem?_set_self hil] at h2
      cases h2
    rw [List.getElem?_set_ne n1] at h1
    rw [List.getElem?_set_ne n2] at h2
    exact E.inj j k fs gs b h1 h2 h3 h4

/-! ### the ground of a loop: what is not owned at its start stays through it -/
open Classical in
noncomputable def ground (H : Hp) (r : Rho) (σ : St) : Hp := fun a => if OwnA r σ a then none else H a
theorem ground_some {a : Addr} {o : HO} (h : ground H r σ a = some o) : H a = some o ∧ ¬ OwnA r σ a := by
  unfold ground at h
  split at h
  · cases h
  · exact ⟨h, by assumption⟩
theorem ground_of {a : Addr} (h : ¬ OwnA r σ a) : ground H r σ a = H a := by
  unfold ground
  rw [if_neg h]
theorem ground_own {a : Addr} (h : OwnA r σ a) : ground H r σ a = none := by
  unfold ground
  rw [if_pos h]
theorem ground_same : Same (ground H r σ) H := .of fun a o h => (ground_some h).1
theorem EnvOk.cutG (E : EnvOk K C H r σ) : ∀ b o, H b = some o → NL o → ground H r σ b = some o := fun b o h n => by
  have no : ¬ OwnA r σ b := fun z => by
    obtain ⟨vs, e, _⟩ := E.own z
    rw [h] at e
    exact n vs (Option.some.inj e)
  rw [ground_of no]
  exact h
theorem EnvOk.up0 (E : EnvOk K C H r σ) : Same C.H0 (ground H r σ) := E.same.cut E.cutG fun b xs h h2 => by
  have n : ¬ OwnA r σ b := fun z => by
    rw [(E.own z).choose_spec.2] at h
    cases h
  rw [ground_of n]
  exact h2
noncomputable abbrev ZC.at (C : ZC) (H : Hp) (r : Rho) (σ : St) : ZC := ⟨ground H r σ, C.B0, C.p0⟩
theorem bb_at {H1 : Hp} {r1 : Rho} {σ1 : St} {a : Addr} : BB (C.at H1 r1 σ1) r σ a ↔ BB C r σ a := Iff.rfl
theorem EnvOk.toAt (E : EnvOk K C H r σ) : EnvOk K (C.at H r σ) H r σ := by
  refine ⟨E.len, ground_same, E.b0, E.sh, fun i ds h => ?_, E.inj, E.pin, E.tb⟩
  obtain ⟨a, vs, e1, e2, e3, q⟩ := E.ow i ds h
  exact ⟨a, vs, e1, e2, ground_own ⟨i, ds, h, e1⟩, q⟩
theorem EnvOk.ofAt (E : EnvOk K C H r σ) {H' : Hp} {r' : Rho} {σ' : St} (F : EnvOk K (C.at H r σ) H' r' σ') : EnvOk K C H' r' σ' := by
  have up := E.up0
  refine ⟨F.len, up.trans F.same, F.b0, F.sh, fun i ds h => ?_, F.inj, F.pin, F.tb⟩
  obtain ⟨a, vs, e1, e2, e3, q⟩ := F.ow i ds h
  refine ⟨a, vs, e1, e2, ?_, q⟩
  exact up.free e3
theorem Rp.toAt (E : EnvOk K C H r σ) {v : V} {d : D} (q : Rp K H (BB C r σ) v d) : Rp K (ground H r σ) C.B0 v d := by
  refine Rp.step ⟨fun a xs rd nb => ⟨?_, fun z => nb (.inl z)⟩, fun a xs t => ?_, fun a φ t => E.cutG a _ t fun _ z => nomatch z⟩ d v q
  · have n : ¬ OwnA r σ a := fun z => nb (.inr z)
    unfold Rd
    rw [ground_of n]
    exact rd
  · rcases t with t | t
    · have n : ¬ OwnA r σ a := fun z => by
        obtain ⟨vs, e, _⟩ := E.own z
        rcases t with t | ⟨o, t⟩ <;> (rw [e] at t; cases t)
      refine .inl ?_
      unfold Rd
      rw [ground_of n]
      exact t
    · exact .inr t
theorem RpAll.toAt (E : EnvOk K C H r σ) : ∀ {vs : List V} {ds : List D}, RpAll K H (BB C r σ) vs ds → RpAll K (ground H r σ) C.B0 vs ds
  | _, _, .nil => .nil
  | _, _, .cons q t => .cons (Rp.toAt E q) (RpAll.toAt E t)
/-- a value of the entry stands at every later state -/
theorem EnvOk.up (E : EnvOk K C H r σ) {v : V} {d : D} (q : Rp K C.H0 C.B0 v d) : Rp K H (BB C r σ) v d :=
  q.mono E.same fun a z => z.elim .inl fun z => .inr (E.own z).choose_spec.2
theorem EnvOk.upAll (E : EnvOk K C H r σ) {vs : List V} {ds : List D} (q : RpAll K C.H0 C.B0 vs ds) : RpAll K H (BB C r σ) vs ds :=
  q.mono E.same fun a z => z.elim .inl fun z => .inr (E.own z).choose_spec.2
end
end Z


set_option Elab.async false
set_option linter.all false
set_option maxRecDepth 100000
set_option maxHeartbeats 4000000
/-! An exception that leaves a list comprehension: what is in the air of a context that may be a comprehension's block (its frame is the def's, its locals are not). -/
namespace Z
open PySem PySem.Spec PyProof.Rows L2

theorem noteFrame_frame {e : Value} {env env' : Env} (h : env.frame = env'.frame) : noteFrame e env = noteFrame e env' := by
  unfold noteFrame PySem.frameOf
  rw [h]
theorem ff_move {h h' B B' : Heap} : ∀ {l : List Env}, h.FunFrames B l → (∀ L ∈ frs l, h'.get? L = h.get? L ∧ B'.get? L = none) → h'.FunFrames B' l
  | [], _, _ => trivial
  | env :: l, q, k => by
    obtain ⟨q1, ⟨L, o, q2, _, q3, q4⟩, q5⟩ := q
    have z := k L (List.mem_filterMap.mpr ⟨env, List.mem_cons_self, q2⟩)
    refine ⟨q1, ⟨L, o, q2, z.2, z.1.trans q3, q4⟩, ff_move q5 fun b hb => ?_⟩
    obtain ⟨e, he, q⟩ := List.mem_filterMap.mp hb
    exact k b (List.mem_filterMap.mpr ⟨e, List.mem_cons_of_mem _ he, q⟩)

/-- flying over the frames, or noted by this frame -/
def SkyF (X : Cx) (B : Heap) (a : Addr) (Z : Obj → Prop) (h : Heap) : Prop := HandSPX.FlyingZ B X.stack a Z h ∨ ∃ L, X.env.frame = some L ∧ HandSPX.HeldZ B X.stack a Z L h
def XF (X : Cx) (W : WX) (u : Value) (s' : Shared) : Prop :=
  ∃ (a : Addr) (B : Heap) (sI : Shared) (pins : List (Addr × Obj)) (σ : St) (H : Hp) (cls : Value) (d : Option Addr), u = .ref a ∧ Inv X pins σ H sI ∧ (∀ b o, sI.heap.get? b = some o → b ∉ frs X.stack → B.get? b = some o) ∧
    sI.heap.UpToSlots s'.heap ∧ SkyF X B a (L2N.Zn cls d) s'.heap ∧ H a = none ∧ s'.os = sI.os ∧ AllBare s'.gens ∧ W cls d σ H
def TakesF (X : Cx) (W : WX) : Prop := ∀ u s', XF X W u s' → X.xe u s'
theorem takesF_of {X : Cx} {W : WX} (tk : L2N.Takes X W) (hf : X.env.frame = some X.env.locals) : TakesF X W := fun u s' ⟨a, B, sI, pins, σ, H, cls, d, e, I, nb, up, sky, r⟩ => tk u s' ⟨a, B, sI, pins, σ, H, cls, d, e, I, nb, up, by
  rcases sky with fl | ⟨L, hL, hh⟩
  · exact .inr (.inl fl)
  · rw [hf] at hL
    cases hL
    exact .inr (.inr hh), r⟩
section
variable {X : Cx} {pins : List (Addr × Obj)} {σ : St} {H : Hp} {s s' : Shared} {W : WX} {E : XK}
theorem XF.of_call (I : Inv X pins σ H s) (hW : ∀ cls d H', E cls d H' → W cls d σ H') {u : Value} (c : L2N.CX X.prog X.w X.stack H s E u s') : XF X W u s' := by
  obtain ⟨a, B, H', cls, d, hu, fl, hok, ub, na, os, ag, hE⟩ := c
  subst hu
  obtain ⟨G, yes, not⟩ := restrict s'.heap fun b => (B.get? b).isSome || decide (b ∈ frs X.stack)
  have inB : ∀ b o, B.get? b = some o → G.get? b = some o := fun b o q => (yes b (by rw [q]; rfl)).trans (fl.1 b o q)
  have inF : ∀ b, b ∈ frs X.stack → G.get? b = s'.heap.get? b := fun b m => yes b (by rw [decide_eq_true m, Bool.or_true])
  have from_ : ∀ b o, G.get? b = some o → s'.heap.get? b = some o ∧ ((B.get? b).isSome = true ∨ b ∈ frs X.stack) := fun b o q => by
    by_cases m : ((B.get? b).isSome || decide (b ∈ frs X.stack)) = true
    · exact ⟨(yes b m).symm.trans q, by simpa using m⟩
    · rw [not b (by simpa using m)] at q
      cases q
  refine ⟨a, B, { s with heap := G, gens := s'.gens, drawn := s'.drawn, toks := s'.toks }, pins, σ, H', cls, d, rfl, ?_, fun b o q n => ?_, Heap.UpToSlots.of_keeps fun b o q => (from_ b o q).1, .inl fl, na, os, ag, hW _ _ _ hE⟩
  · have un : Un (frs X.stack) [] H H' s.heap G :=
      { keep := fun b o q n m _ => inB b o (ub.keep b o q n m)
        slot := fun b o q _ m _ => (ub.slot b o q m).imp fun sl z => (inF b m).trans z
        free := fun b o q n _ => ub.free b o q n
        there := fun b o q _ => by
          by_cases m : b ∈ frs X.stack
          · obtain ⟨sl, z⟩ := ub.slot b o q m
            exact ⟨_, (inF b m).trans z⟩
          · exact (ub.there b o q m).imp fun o' z => inB b o' z
        tups := ub.tups
        frzs := ub.frzs
        tbls := ub.tbls }
    exact I.call un (hok.kept inB) ag fun _ m => nomatch m
  · obtain ⟨q1, q2⟩ := from_ b o q
    rcases q2 with q2 | q2
    · obtain ⟨o', z⟩ := Option.isSome_iff_exists.mp q2
      have := fl.1 b o' z
      rw [q1] at this
      rw [z, this]
    · exact absurd q2 n
theorem passAtF (tk : TakesF X W) (σ : St) : PassesAt (L2N.CX X.prog X.w) X σ (WE W σ) := fun _ _ _ e s' I c => tk e s' (XF.of_call I (fun _ _ _ h => h) c)
end

/-! ### out of the block -/
/-- how a comprehension ends, the block's frame told -/
def postX (M : Model) (A : Around) (E : Value → Shared → Prop) (use : Option (Value → Sem Unit)) (Q : Value → Shared → Prop) (acc : Value) (cenv : Env) (r : Result) (s' : Shared) : Prop :=
  match r with
  | .ok _ => (match use with
    | none => ∃ m, s'.heap.Ns cenv.locals m ∧ ∀ h', Heap.SameBut cenv.locals s'.heap h' → Q acc { s' with heap := h' }
    | some u => wpAny M A (u acc) (fun _ s2 => ∃ m, s2.heap.Ns cenv.locals m ∧ ∀ h', Heap.SameBut cenv.locals s2.heap h' → Q .none { s2 with heap := h' }) E s')
  | .error x => ∃ m, s'.heap.Ns cenv.locals m ∧ ∀ h', Heap.SameBut cenv.locals s'.heap h' → wpAny M A (passOn "comprehension.variables-let-go" x cenv : Sem Value) (fun _ _ => False) E { s' with heap := h' }
section
variable {X : Cx} {W : WX}
/-- the frame on top is the def's, and the context's -/
structure TopF (X : Cx) : Prop where
  ex : ∃ (e0 : Env) (out : List Env) (L : Addr), X.stack = e0 :: out ∧ e0.frame = some L ∧ X.env.frame = some L
theorem TopF.def_ {X : Cx} (h : X.stack = X.env :: X.outer) (hf : X.env.frame = some X.env.locals) : TopF X := ⟨⟨_, _, _, h, hf, hf⟩⟩
theorem out_of_block {pins pl : List (Addr × Obj)} {σ : St} {H3 : Hp} {s3 : Shared} {scope : Scope} {ce : Env} {fp : List Addr} {xe : Value → Shared → Prop} {use : Option (Value → Sem Unit)} {Q : Value → Shared → Prop} {acc : Value} (tf : TakesF X W) (tp : TopF X) (I3 : Inv X pins σ H3 s3)
    (hfr : ce.frame = X.env.frame) (hC : s3.heap.objs.size ≤ ce.locals)
    (hfp : ∀ b ∈ fp, (b ∈ X.ex ∨ X.s_0.heap.objs.size ≤ b) ∧ b ≠ X.env.locals ∧ (∀ x c, X.env.cells.lookup x = some c → c ≠ b) ∧ ∀ p ∈ X.pn ++ pins, p.1 ≠ b)
    {u : Value} {s' : Shared} (x : XF ((X.blk s3 H3 scope ce fp).tr pl xe) (fun cls d _ H => W cls d σ H) u s') :
    notedBy (model X.prog X.w) X.A ce (fun e s2 => postX (model X.prog X.w) X.A X.xe use Q acc ce (.error e) s2) u s' := by
  obtain ⟨a, B, sI, pl', σ', H', cls, d, hu, J, nb, up, sky, na, os, ag, w⟩ := x
  subst hu
  obtain ⟨e0, out, L, hst, hf0, hfX⟩ := tp.ex
  have hA : X.A.frames = some (e0 :: out) := by rw [← hst]; exact I3.ok.frames
  have nC : s3.heap.get? ce.locals = none := by
    cases q : s3.heap.get? ce.locals with
    | none => rfl
    | some o => exact absurd (Heap.lt_size q) (Nat.not_lt.mpr hC)
  have nF : ce.locals ∉ frs X.stack := fun m => by
    obtain ⟨_, o, ho, _⟩ := I3.stack.mem m
    rw [nC] at ho
    cases ho
  have HC : H' ce.locals = none := J.free
  obtain ⟨m, hm, _⟩ := J.loc
  have hm : sI.heap.Ns ce.locals m := hm
  obtain ⟨oC, es, ep, hoC, hdC, hrC⟩ := hm
  have BC : B.get? ce.locals = some oC := nb _ _ hoC nF
  -- once it is noted by the frame
  have fin : ∀ h1, HandSPX.HeldZ B X.stack a (L2N.Zn cls d) L h1 → s'.heap.UpToSlots h1 → postX (model X.prog X.w) X.A X.xe use Q acc ce (.error (.ref a)) { s' with heap := h1 } := fun h1 held up1 => by
    obtain ⟨k1, k2, k3, k4⟩ := held
    refine ⟨m, ⟨oC, es, ep, k1 _ _ BC, hdC, hrC⟩, fun h2 sb => ?_⟩
    have aC : a ≠ ce.locals := fun e => by rw [e, BC] at k2; cases k2
    have B2 : ∀ b o, (PySem.W.hideAll B [ce.locals]).get? b = some o → B.get? b = some o ∧ b ≠ ce.locals := fun b o q => ⟨PySem.W.of_hideAll _ q, fun e => by
      rw [e, PySem.W.hideAll_none _ (List.mem_singleton.mpr rfl)] at q
      cases q⟩
    have B3 : ∀ b o, B.get? b = some o → b ≠ ce.locals → (PySem.W.hideAll B [ce.locals]).get? b = some o := fun b o q n => PySem.W.hideAll_get _ q fun z => n (List.mem_singleton.mp z)
    have Bn : ∀ b, B.get? b = none → (PySem.W.hideAll B [ce.locals]).get? b = none := fun b q => by
      cases z : (PySem.W.hideAll B [ce.locals]).get? b with
      | none => rfl
      | some o => rw [(B2 b o z).1] at q; cases q
    have held2 : HandSPX.HeldZ (PySem.W.hideAll B [ce.locals]) X.stack a (L2N.Zn cls d) L h2 := by
      refine ⟨fun b o q => ?_, Bn _ k2, ff_move k3 fun b hb => ⟨sb.2 b fun e => nF (e ▸ hb), Bn b (k3.mem hb).1⟩, ?_⟩
      · obtain ⟨q1, q2⟩ := B2 b o q
        exact (sb.2 b q2).trans (k1 b o q1)
      · obtain ⟨oe, vs, T, oT, ts, g1, g2, g3, g4, g5, g6, g7, g8, g9⟩ := k4
        have TC : T ≠ ce.locals := fun e => by rw [e, BC] at g5; cases g5
        exact ⟨oe, vs, T, oT, ts, (sb.2 _ aC).trans g1, g2, g3, g4, Bn _ g5, g6, (sb.2 _ TC).trans g7, g8, g9⟩
    -- the state without it, without the block's names
    have I4 : Inv X pins σ H' { sI with heap := PySem.W.hideAll sI.heap [ce.locals] } := by
      have hk : ∀ b o, sI.heap.get? b = some o → b ≠ ce.locals → (PySem.W.hideAll sI.heap [ce.locals]).get? b = some o := fun b o q n => PySem.W.hideAll_get _ q fun z => n (List.mem_singleton.mp z)
      have old : ∀ b o, s3.heap.get? b = some o → b ≠ ce.locals := fun b o q e => by rw [e, nC] at q; cases q
      refine I3.call' (ch := fp) J.os ?_ (fun b o q => (J.hok b o q).stay (fun c v hc z => hk c v z fun e => ?_) (fun _ z => z) fun _ _ z => z) J.bare hfp
      · have base : Un (frs X.stack) fp H3 H' s3.heap sI.heap := J.base
        exact { keep := fun b o q n f e => hk b o (base.keep b o q n f e) (old b o q)
                slot := fun b o q n f e => (base.slot b o q n f e).imp fun sl z => hk b _ z (old b o q)
                free := base.free
                there := fun b o q e => (base.there b o q e).imp fun o' z => hk b o' z (old b o q)
                tups := base.tups
                frzs := base.frzs
                tbls := base.tbls }
      · rcases hc with z | z
        · rw [← z, e, HC] at q; cases q
        · rw [e, HC] at z; cases z
    obtain ⟨oe, vs, T, oT, ts, g1, g2, g3, g4, g5, g6, g7, g8, g9⟩ := id held2.2.2.2
    show wpAny _ _ (passOn "comprehension.variables-let-go" (.ref a) ce : Sem Value) _ _ _
    unfold PySem.passOn
    refine wpAny_bind (wpAny_field (s := { s' with heap := h2 }) g1 g3 g4 ?_)
    rw [if_neg (show ¬ ((Value.ref T == Value.none) = true) from by simp)]
    have last : wpAny (model X.prog X.w) X.A (setFlight (.ref a) ce.frame) (fun _ s4 => wpAny (model X.prog X.w) X.A (throw (.ref a) : Sem Value) (fun _ _ => False) X.xe s4) X.xe { s' with heap := h2 } := by
      rw [hfr, hfX]
      refine HandSPX.setFlight_onZ held2 fun h4 hh4 up4 => wpAny_throw (tf _ _ ?_)
      refine ⟨a, PySem.W.hideAll B [ce.locals], { sI with heap := PySem.W.hideAll sI.heap [ce.locals] }, pins, σ, H', cls, d, rfl, I4, fun b o q n => ?_, fun b o q n => ?_, .inr ⟨L, hfX, hh4⟩, na, os, ag, w⟩
      · have q1 := PySem.W.of_hideAll _ q
        exact B3 b o (nb b o q1 n) fun e => by
          have q : (PySem.W.hideAll sI.heap [ce.locals]).get? b = some o := q
          rw [e, PySem.W.hideAll_none _ (List.mem_singleton.mpr rfl)] at q
          cases q
      · have q : (PySem.W.hideAll sI.heap [ce.locals]).get? b = some o := q
        have q1 := PySem.W.of_hideAll _ q
        have bC : b ≠ ce.locals := fun e => by
          rw [e, PySem.W.hideAll_none _ (List.mem_singleton.mpr rfl)] at q
          cases q
        obtain ⟨sl1, z1⟩ := (up.trans up1) b o q1 n
        have z2 : h2.get? b = some { o with slots := sl1 } := (sb.2 b bC).trans z1
        obtain ⟨sl2, z3⟩ := up4 b { o with slots := sl1 } z2 n
        exact ⟨sl2, z3⟩
    first
      | exact wpAny_bind (wpAny_pure (wpAny_bind last))
      | exact wpAny_bind last
  show wpAny _ _ (noteFrame (.ref a) ce) _ _ _
  rw [noteFrame_frame (hfr.trans (hfX.trans hf0.symm))]
  have sky : SkyF ((X.blk s3 H3 scope ce fp).tr pl xe) B a (L2N.Zn cls d) s'.heap := sky
  rcases sky with fl | ⟨L', hL', hh⟩
  · have fl : HandSPX.FlyingZ B X.stack a (L2N.Zn cls d) s'.heap := fl
    rw [hst] at fl
    exact PXN.looks_onZ L2N.Zn.steady hA hf0 fl fun h1 hh up1 => fin h1 (by rw [hst]; exact hh) up1
  · have hL2 : ce.frame = some L' := hL'
    rw [hfr, hfX] at hL2
    cases hL2
    have hh : HandSPX.HeldZ B X.stack a (L2N.Zn cls d) L s'.heap := hh
    exact HandSPX.againZ hf0 hh.2.2.2 (fin s'.heap hh (Heap.UpToSlots.refl _))
end
end Z


set_option Elab.async false
set_option linter.all false
set_option maxRecDepth 100000
set_option maxHeartbeats 4000000
/-! A list comprehension whose element may raise. -/
namespace Z
open PySem PySem.Spec PyProof.Rows L2

theorem comp_freeX {M : Model} {A : Around} {E : Value → Shared → Prop} {s : Shared} {env : Env} {e : Expr} {scope : Scope} {pos : Pos} {mk first : Sem Value} {g0 : Comprehension} {gr : List Comprehension} {clo : List (Str × Addr)} {use : Option (Value → Sem Unit)} {Qf : Value → Shared → Prop}
    (k1 : clausesOf e = g0 :: gr) (k2 : ∀ x, foldedSetIterable g0.iter env x = pure x) (k3 : closureFor scope env = pure clo) (k4 : scope.kind = .function) (k5 : ∀ x ∈ scope.names, x.2 = .local → scope.names.lookup x.1 = some .local)
    (run_ : wpAny M A first (fun x t1 => wpAny M A (pyIter x) (fun it t2 => wpAny M A mk (fun acc t3 => wpAny M A (newFunctionEnv scope env.globals clo [] env.qual none .none (some env)) (fun ce t4 =>
      codeAny M A (.compStart e 0 it acc { ce with scope := relabel scope env }) (postX M A E use Qf acc { ce with scope := relabel scope env }) t4) E t3) E t2) E t1) E s) :
    wpAny M A (comprehension e scope env pos mk false first use) Qf E s := by
  unfold comprehension
  rw [k3, k1]
  have same : ∀ (v : Value) (t : Shared), E v t → E v t := fun _ _ z => z
  refine wpAny_bind (wpAny_mono run_ (fun x t1 z1 => ?_) same)
  refine wpAny_bind (wpAny_standAt (wpAny_bind (wpAny_of_eq (k2 x) (wpAny_bind (wpAny_holding (wpAny_mono z1 (fun it t2 z2 => ?_) same))))))
  refine wpAny_standIf (wpAny_bind (wpAny_mono z2 (fun acc t3 z3 => ?_) same))
  refine wpAny_bind (wpAny_pure (wpAny_bind (wpAny_mono z3 (fun ce t4 z4 => ?_) same)))
  dsimp only
  have own : ∀ x ∈ (scope.names.filter fun y => (y.2 == .local || y.2 == .cell) && y.1 != (".0" : Str)).reverse, x.2 = .local → Env.kindOf { ce with scope := relabel scope env } x.1 = some .local := fun x m l =>
    lookup_relabel_local (k5 x (List.mem_filter.mp (List.mem_reverse.mp m)).1 l)
  have own2 : ∀ x ∈ (scope.names.filter fun y => (y.2 == .local || y.2 == .cell) && y.1 != (".0" : Str)).reverse.drop 1 ++ (scope.names.filter fun y => (y.2 == .local || y.2 == .cell) && y.1 != (".0" : Str)).reverse.take 1,
      x.2 = .local → Env.kindOf { ce with scope := relabel scope env } x.1 = some .local := fun x m l =>
    (List.mem_append.mp m).elim (fun z => own x (List.mem_of_mem_drop z) l) fun z => own x (List.mem_of_mem_take z) l
  refine wpAny_holding (wpAny_bind (wpAny_attempt (wpAny_holding (wpAny_run (codeAny_mono z4 fun res t5 z5 => ?_)))))
  cases res with
  | error x =>
    obtain ⟨m, n, z⟩ := z5
    refine wpAny_bind (wpAny_holding (wpAny_comp_letGo (cenv := { ce with scope := relabel scope env }) k4 _ t5 m own n fun h' m' _ sb => ?_))
    exact wpAny_mono (z h' sb) (fun _ _ f => f.elim) same
  | ok f =>
    cases use with
    | none =>
      obtain ⟨m, n, z⟩ := z5
      exact wpAny_bind (wpAny_holding (wpAny_comp_letGo (cenv := { ce with scope := relabel scope env }) k4 _ t5 m own n fun h' m' _ sb => wpAny_pure (z h' sb)))
    | some u =>
      refine wpAny_bind (wpAny_rule (wpAny_bind (wpAny_holding (wpAny_mono z5 (fun _ t6 z6 => ?_) same))))
      obtain ⟨m, n, z⟩ := z6
      exact wpAny_bind (wpAny_comp_letGo (cenv := { ce with scope := relabel scope env }) k4 _ t6 m own2 n fun h' m' _ sb => wpAny_pure (z h' sb))

/-! ### what is walked, where Ok tells the contexts in which it may be walked -/
structure TurnG (Ok : Cx → Prop) (P : Program) (w : World) (K : PySem.W.Frag) (tg : Expr) (J : It) (fp : List Addr) (it : Addr) (tn : Nat → Heap → Prop) : Prop where
  obj : ∀ i h, tn i h → ∀ b ∈ fp, ∃ o, h.get? b = some o ∧ ∀ v, o.data ≠ .cell v
  keep : ∀ i h h', tn i h → (∀ b ∈ fp, ∀ o, h.get? b = some o → h'.get? b = some o) → tn i h'
  item : ∀ Y : Cx, Y.prog = P → Y.w = w → Y.K = K → Ok Y → ∀ (i : Nat) (pins : List (Addr × Obj)) (s : Shared) (σ : St) (H : Hp) (E : Value → Shared → Prop), Inv Y pins σ H s → (∀ b ∈ fp, FpOk Y pins H b) → tn i s.heap → J.go i H →
    wpAny (model P w) Y.A (pyNext (.ref it)) (fun r s1 => ∃ u, r = some u ∧
      wpAny (model P w) Y.A (letOwnedTupleGo tg (.ref it) u) (fun _ s2 => ∃ x H1, Inv Y pins σ H1 s2 ∧ RelV x u ∧ J.yld i H x H1 ∧ tn (i + 1) s2.heap ∧ ∀ b ∈ fp, H1 b = none) E s1) E s
  done : ∀ Y : Cx, Y.prog = P → Y.w = w → Y.K = K → Ok Y → ∀ (i : Nat) (pins : List (Addr × Obj)) (s : Shared) (σ : St) (H : Hp) (E : Value → Shared → Prop), Inv Y pins σ H s → (∀ b ∈ fp, FpOk Y pins H b) → tn i s.heap → J.stop i H →
    wpAny (model P w) Y.A (pyNext (.ref it)) (fun r s1 => r = none ∧ Inv Y pins σ H s1) E s
  self : ∀ (A : Around) (i : Nat) (s : Shared) (Q : Value → Shared → Prop) (E : Value → Shared → Prop), tn i s.heap → Q (.ref it) s → wpAny (model P w) A (pyIter (.ref it)) Q E s
def Calm (Y : Cx) : Prop := Y.calm = true
structure PIG (Ok : Cx → Prop) (X : Cx) (tg iter : Expr) (wi : TI) : Prop where
  run : ∀ (pins : List (Addr × Obj)) (s : Shared) (σ : St) (H : Hp) (R : It → Hp → Prop), Inv X pins σ H s → wi σ H R →
    wpAny (model X.prog X.w) X.A (eval iter X.env) (fun v s1 => wpAny (model X.prog X.w) X.A (pyIter v) (fun itv s2 => ∃ (it : Addr) (fp : List Addr) (tn : Nat → Heap → Prop) (J : It) (H1 : Hp),
      itv = .ref it ∧ Inv X pins σ H1 s2 ∧ TurnG Ok X.prog X.w X.K tg J fp it tn ∧ tn 0 s2.heap ∧ (∀ b ∈ fp, FpOk X pins H1 b) ∧ R J H1) X.xe s1) X.xe s
theorem PIG.of {X : Cx} {tg iter : Expr} {wi : TI} (h : PI X tg iter wi) : PIG Calm X tg iter wi := by
  refine ⟨fun pins s σ H R I q => thn (h.run pins s σ H R I q) fun v s1 z => thn z fun itv s2 ⟨it, fp, tn, J, H1, e, I2, T, st, f, r⟩ => ?_⟩
  exact ⟨it, fp, tn, J, H1, e, I2, ⟨T.obj, T.keep, T.item, T.done, T.self⟩, st, f, r⟩
section
variable {X : Cx}
def tLcX (W : WX) (wi : TI) (g : TG) (tt : TT) (te : WX → TE) (vs : List Nat) : TE := fun σ H Q => wi σ H fun J H1 => ∀ D, H1 D = none → ∃ V : Nat → Nat → Hp → Prop, (∃ m, V 0 m (upd H1 D (.lst []))) ∧ ∀ i m H, V i m H →
  (J.stop i H ∧ Q (.ref D) H) ∨ (J.go i H ∧ ∃ Nx : Hp → Prop, (∀ H', Nx H' → ∃ m', m' < m ∧ V (i + 1) m' H') ∧ ∀ x H', J.yld i H x H' → g x (wipe σ vs) H' fun σ2 H2 => wipe σ2 vs = wipe σ vs ∧ tt σ2 H2 fun b H3 =>
    if b = true then te (fun c d _ H => W c d σ H) σ2 H3 fun y H4 => ∃ acc, H4 D = some (.lst acc) ∧ acc.length < sizeLine ∧ Nx (upd H4 D (.lst (acc ++ [y]))) else Nx H3)
theorem lc_coreX {W : WX} {pins : List (Addr × Obj)} {s : Shared} {σ : St} {H : Hp} {Q : VK} {elt tg iter : Expr} {ifs : List Expr} {scope : Scope} {own : List (Str × Nat)} {pos pos' : Pos} {wi : TI} {g : TG} {tt : TT} {te : WX → TE} {use : Option (Value → Sem Unit)} {Qf : Value → Shared → Prop}
    {Ok : Cx → Prop} (hOk : ∀ (t : Shared) (G : Hp) (ce : Env) (fp : List Addr), Inv X pins σ G t → (∀ b ∈ fp, FpOk X pins G b) → Ok (X.blk t G scope ce fp)) (nd : X.N.Nodup) (tf : TakesF X W) (tp : TopF X) (I : Inv X pins σ H s) (hi : PIG Ok X tg iter wi) (ok : BlkOk X.N X.env.scope scope own)
    (hg : ∀ (s : Shared) (H : Hp) (C : Addr) (cl : List (Str × Addr)) (fp : List Addr), PG (X.blk s H scope (compEnvC scope cl C X.env) fp) tg g) (ht : ∀ (s : Shared) (H : Hp) (C : Addr) (cl : List (Str × Addr)) (fp : List Addr), PTs (X.blk s H scope (compEnvC scope cl C X.env) fp) ifs tt)
    (he : ∀ (s : Shared) (H : Hp) (C : Addr) (cl : List (Str × Addr)) (fp : List Addr) (pl : List (Addr × Obj)) (xe : Value → Shared → Prop) (Wb : WX), TakesF ((X.blk s H scope (compEnvC scope cl C X.env) fp).tr pl xe) Wb → PE ((X.blk s H scope (compEnvC scope cl C X.env) fp).tr pl xe) elt (te Wb))
    (hs : ∀ x, foldedSetIterable iter X.env x = pure x) (want : tLcX W wi g tt te (own.map (·.2)) σ H Q)
    (ready : ∀ D (ce : Env) s' m H', Inv X pins σ H' s' → Q (.ref D) H' → s'.heap.Ns ce.locals m → FpOk X pins H' ce.locals → postX (model X.prog X.w) X.A X.xe use Qf (.ref D) ce (.ok .next) s') :
    wpAny (model X.prog X.w) X.A (comprehension (.ListComp elt [⟨tg, iter, ifs, 0⟩] scope pos) scope X.env pos' (newList []) false (eval iter X.env) use) Qf X.xe s := by
  have free_ : ∀ y ∈ scope.names, y.2 = .free → ∃ c, X.env.cells.lookup y.1 = some c := fun y m e => (ok.free y m e).elim (fun z => I.ok.has _ (.inl z)) fun z => I.ok.has _ (.inr z)
  refine comp_freeX (use := use) rfl hs (closure_ok free_) ok.kind (fun y m e => by rw [ok.uniq y m, e]) ?_
  refine thn (hi.run pins s σ H _ I want) fun xv t1 z1 => thn z1 fun itv t2 z2 => ?_
  obtain ⟨it, fp, tn, J, H2, eit, I2, T, st2, f2, q⟩ := z2
  subst eit
  refine wpAny_newObj_type (newEnv_comp ?_) (by show 0 ≤ sizeLine; decide)
  generalize eD : t2.heap.objs.size = D
  have nD : H2 D = none := I2.hok.fresh (Nat.le_of_eq eD)
  obtain ⟨V, ⟨m0, v0⟩, turn⟩ := q D nD
  generalize e3 : ({ t2 with heap := t2.heap.push { cls := .type "list", data := .seq ([] : List Value).toArray } } : Shared) = t3
  have hp3 : t3.heap = t2.heap.push { cls := .type "list", data := .seq ([] : List Value).toArray } := by rw [← e3]
  have I3 : Inv X pins σ (upd H2 D (.lst [])) t3 := by
    subst e3
    refine I2.laid (t' := t2.toks) (fun b o z => Heap.get?_push_of_some _ z) (Nat.le_of_eq eD) ⟨Nat.zero_le _, [], 0, .nil, ?_⟩
    rw [← eD]
    exact Heap.get?_push_size _ rfl
  have low : ∀ b ∈ fp, b < t2.heap.objs.size := fun b m => by
    obtain ⟨o, z, _⟩ := T.obj _ _ st2 b m
    exact Heap.lt_size z
  have f3 : ∀ b ∈ fp, FpOk X pins (upd H2 D (.lst [])) b ∧ b < t3.heap.objs.size := fun b m => by
    refine ⟨⟨?_, (f2 b m).2⟩, by rw [hp3, Heap.size_push]; exact Nat.lt_succ_of_lt (low b m)⟩
    rw [upd_ne (by rw [← eD]; exact Nat.ne_of_lt (low b m))]
    exact (f2 b m).1
  have hfp : ∀ b ∈ fp, (b ∈ X.ex ∨ X.s_0.heap.objs.size ≤ b) ∧ b ≠ X.env.locals ∧ (∀ x c, X.env.cells.lookup x = some c → c ≠ b) ∧ ∀ p ∈ X.pn ++ pins, p.1 ≠ b := fun b m =>
    let z := (f3 b m).1
    ⟨z.2.2.2.1, z.2.1, z.2.2.2.2.1, z.2.2.2.2.2⟩
  have st3 : tn 0 t3.heap := T.keep _ _ _ st2 fun b _ o z => by rw [hp3]; exact Heap.get?_push_of_some _ z
  have I4 := block_start I3 ok nd f3
  have okb : ∀ ce, Ok (X.blk t3 (upd H2 D (.lst [])) scope ce fp) := fun ce => hOk t3 _ ce fp I3 fun b m => (f3 b m).1
  have pg := hg t3 (upd H2 D (.lst [])) t3.heap.objs.size (cellsFrom (t3.heap.objs.size + 1) scope.names (cloFrom X.env.cells scope.names [])) fp
  have pt := ht t3 (upd H2 D (.lst [])) t3.heap.objs.size (cellsFrom (t3.heap.objs.size + 1) scope.names (cloFrom X.env.cells scope.names [])) fp
  have pe := he t3 (upd H2 D (.lst [])) t3.heap.objs.size (cellsFrom (t3.heap.objs.size + 1) scope.names (cloFrom X.env.cells scope.names [])) fp
  show codeAny _ _ (.compStart (.ListComp elt [⟨tg, iter, ifs, 0⟩] scope pos) 0 (.ref it) (.ref D) (compEnvC scope (cellsFrom (t3.heap.objs.size + 1) scope.names (cloFrom X.env.cells scope.names [])) t3.heap.objs.size X.env))
    (postX (model X.prog X.w) X.A X.xe use Qf (.ref D) (compEnvC scope (cellsFrom (t3.heap.objs.size + 1) scope.names (cloFrom X.env.cells scope.names [])) t3.heap.objs.size X.env)) { t3 with heap := pushCells (t3.heap.push { cls := .type "dict", data := .dict #[] }) scope.names }
  have noH : ∀ b ∈ fp, (upd H2 D (.lst [])) b = none := fun b m => (f3 b m).1.1
  generalize ece : compEnvC scope (cellsFrom (t3.heap.objs.size + 1) scope.names (cloFrom X.env.cells scope.names [])) t3.heap.objs.size X.env = ce at I4 pg pt pe ⊢
  have cL : ce.locals = t3.heap.objs.size := by subst ece; rfl
  have cF : ce.frame = X.env.frame := by subst ece; rfl
  generalize eH3 : upd H2 D (.lst []) = H3 at I3 I4 pg pt pe v0 noH f3 okb
  generalize e4 : ({ t3 with heap := pushCells (t3.heap.push { cls := .type "dict", data := .dict #[] }) scope.names } : Shared) = t4 at I4 ⊢
  have st4 : tn 0 t4.heap := T.keep _ _ _ st3 fun b _ o z => by rw [← e4]; exact pushCells_keeps _ _ _ _ (Heap.get?_push_of_some _ z)
  have stay : ∀ {σ' : St} {H' : Hp} {s' : Shared}, Inv (X.blk t3 H3 scope ce fp) [] σ' H' s' → (∀ b ∈ fp, H' b = none) → ∀ b ∈ fp, FpOk (X.blk t3 H3 scope ce fp) [] H' b := fun {σ' H' s'} K n b m =>
    ⟨n b m, (K.ok.exf b m).1, K.ok.exfs b m, .inl m, fun x c z => (K.ok.exf b m).2 x c z, fun p hp => nomatch (show p ∈ ([] : List (Addr × Obj)) from hp)⟩
  have loop : codeAny (model X.prog X.w) X.A (.compLoop (.ListComp elt [⟨tg, iter, ifs, 0⟩] scope pos) 0 (.ref it) (.ref D) ce) (postX (model X.prog X.w) X.A X.xe use Qf (.ref D) ce) t4 := by
    refine compLoop_any (fun n t => ∃ i H', Inv (X.blk t3 H3 scope ce fp) [] (wipe σ (own.map (·.2))) H' t ∧ tn i t.heap ∧ (∀ b ∈ fp, H' b = none) ∧ V i n H') ?_ m0 ⟨0, H3, I4, st4, noH, v0⟩
    rintro n t5 ⟨i, H5, I5, st5, n5, v5⟩
    rcases turn i n H5 v5 with ⟨stop, qq⟩ | ⟨go, Nx, next, step⟩
    · refine thnF (T.done (X.blk t3 H3 scope ce fp) rfl rfl rfl (okb ce) i [] t5 _ H5 (fun _ _ => False) I5 (stay I5 n5) st5 stop) fun r t6 ⟨er, I6⟩ => ?_
      subst er
      have I7 : Inv X pins σ H5 t6 := I3.call' (ch := fp) I6.os I6.base I6.hok I6.bare hfp
      have nC : H5 ce.locals = none := I6.free
      obtain ⟨m, ns, _⟩ := I6.loc
      have ns : t6.heap.Ns ce.locals m := ns
      exact ready D ce t6 m H5 I7 qq ns (I3.fpOk (Nat.le_of_eq cL.symm) nC)
    · refine thnF (T.item (X.blk t3 H3 scope ce fp) rfl rfl rfl (okb ce) i [] t5 _ H5 (fun _ _ => False) I5 (stay I5 n5) st5 go) fun r t6 ⟨u, er, z6⟩ => ?_
      subst er
      refine thnF z6 fun _ t7 ⟨x, H7, I7, r7, y7, st7, n7⟩ => ?_
      refine thnF (pg.run _ t7 _ H7 x u _ (I7.pinned (stay I7 n7) (T.obj _ _ st7)) r7 (step x H7 y7)) fun _ t8 ⟨σ8, H8, I8, w8, q8⟩ => ?_
      refine thnF (pt.run _ t8 σ8 H8 _ I8 q8) fun b t9 ⟨H9, I9, q9⟩ => ?_
      have fin : ∀ {t : Shared} {H' : Hp}, Inv (X.blk t3 H3 scope ce fp) ([] ++ pinsAt fp t7.heap) σ8 H' t → Nx H' → ∃ m, m < n ∧ ∃ i H', Inv (X.blk t3 H3 scope ce fp) [] (wipe σ (own.map (·.2))) H' t ∧ tn i t.heap ∧ (∀ b ∈ fp, H' b = none) ∧ V i m H' := fun {t H'} K nx => by
        obtain ⟨m', lt, v'⟩ := next H' nx
        have kept : ∀ b ∈ fp, ∀ o, t7.heap.get? b = some o → t.heap.get? b = some o ∧ H' b = none := fun b m o z =>
          let y := K.pin (b, o) (List.mem_append_right _ (List.mem_append_right _ (mem_pinsAt m z)))
          ⟨y.1, y.2.1⟩
        have len : (wipe σ (own.map (·.2))).length = σ8.length := by rw [← w8, wipe_length]
        refine ⟨m', lt, i + 1, H', (K.unpinned (pins := [])).weak len (fun j v z => ?_), T.keep _ _ _ st7 fun b m o z => (kept b m o z).1, fun b m => ?_, v'⟩
        · rw [← w8] at z
          exact (wipe_some z).1
        · obtain ⟨o, z, _⟩ := T.obj _ _ st7 b m
          exact (kept b m o z).2
      cases b with
      | false =>
        simp only [Bool.false_eq_true, if_false] at q9 ⊢
        exact fin I9 q9
      | true =>
        simp only [if_true] at q9 ⊢
        -- the element, what it lets out is taken out of the block
        have tk : TakesF ((X.blk t3 H3 scope ce fp).tr ((X.blk t3 H3 scope ce fp).pn ++ ([] ++ pinsAt fp t7.heap)) (notedBy (model X.prog X.w) X.A ce fun e s2 => postX (model X.prog X.w) X.A X.xe use Qf (.ref D) ce (.error e) s2)) (fun c d _ H => W c d σ H) :=
          fun u s' z => out_of_block tf tp I3 cF (Nat.le_of_eq cL.symm) hfp z
        have run1 := (pe _ _ _ tk).run [] t9 σ8 H9 _ (I9.toTry _) q9
        refine wpAny_mono run1 (fun z t10 z10 => ?_) fun _ _ z => z
        obtain ⟨yv, H10, I10, r10, acc, hD10, hz10, nx⟩ := z10
        exact app_ok (X := X.blk t3 H3 scope ce fp) (I10.ofTry I9.ok) hD10 hz10 r10 fun t11 I11 => fin I11 nx
  exact codeAny_compStart_list loop (T.self X.A 0 _ _ _ st4 loop)
theorem pe_lcX {W : WX} {elt tg iter : Expr} {ifs : List Expr} {scope : Scope} {own : List (Str × Nat)} {pos : Pos} {wi : TI} {g : TG} {tt : TT} {te : WX → TE} {Ok : Cx → Prop} (hOk : ∀ (pins : List (Addr × Obj)) (σ : St) (t : Shared) (G : Hp) (ce : Env) (fp : List Addr), Inv X pins σ G t → (∀ b ∈ fp, FpOk X pins G b) → Ok (X.blk t G scope ce fp)) (nd : X.N.Nodup) (tf : TakesF X W) (tp : TopF X) (hi : PIG Ok X tg iter wi) (ok : BlkOk X.N X.env.scope scope own)
    (hg : ∀ (s : Shared) (H : Hp) (C : Addr) (cl : List (Str × Addr)) (fp : List Addr), PG (X.blk s H scope (compEnvC scope cl C X.env) fp) tg g) (ht : ∀ (s : Shared) (H : Hp) (C : Addr) (cl : List (Str × Addr)) (fp : List Addr), PTs (X.blk s H scope (compEnvC scope cl C X.env) fp) ifs tt)
    (he : ∀ (s : Shared) (H : Hp) (C : Addr) (cl : List (Str × Addr)) (fp : List Addr) (pl : List (Addr × Obj)) (xe : Value → Shared → Prop) (Wb : WX), TakesF ((X.blk s H scope (compEnvC scope cl C X.env) fp).tr pl xe) Wb → PE ((X.blk s H scope (compEnvC scope cl C X.env) fp).tr pl xe) elt (te Wb))
    (hs : ∀ x, foldedSetIterable iter X.env x = pure x := by intro _; rfl) : PE X (.ListComp elt [⟨tg, iter, ifs, 0⟩] scope pos) (tLcX W wi g tt te (own.map (·.2))) := by
  refine ⟨fun pins s σ H Q I want => ?_⟩
  rw [eval_ListComp]
  refine lc_coreX (hOk pins σ) nd tf tp I hi ok hg ht he hs want fun D ce s' m H' J q n f => ⟨m, n, fun h2 sb => ?_⟩
  obtain ⟨f0, f1, f2, f3, f4, f5⟩ := f
  exact ⟨.ref D, H', J.turned (t' := s'.toks) (fun b o n z => (sb.2 b n).trans z) f0 f1 f3 f4 f5, rfl, q⟩
end
end Z


set_option Elab.async false
set_option linter.all false
set_option maxRecDepth 100000
set_option maxHeartbeats 4000000
namespace Z
open PySem PySem.Spec PyProof.Rows L2

theorem PE.imp {X : Cx} {e : Expr} {t t' : TE} (h : PE X e t) (i : ∀ σ H Q, t' σ H Q → t σ H Q) : PE X e t' := ⟨fun pins s σ H Q I q => h.run pins s σ H Q I (i σ H Q q)⟩
theorem PT.imp {X : Cx} {e : Expr} {t t' : TT} (h : PT X e t) (i : ∀ σ H Q, t' σ H Q → t σ H Q) : PT X e t' := ⟨fun pins s σ H Q I q => h.run pins s σ H Q I (i σ H Q q)⟩
theorem PW.imp {X : Cx} {e : Expr} {t t' : TT} (h : PW X e t) (i : ∀ σ H Q, t' σ H Q → t σ H Q) : PW X e t' := ⟨fun wh pins s σ H Q I q => h.run wh pins s σ H Q I (i σ H Q q)⟩
theorem PA.imp {X : Cx} {e : List Expr} {t t' : TA} (h : PA X e t) (i : ∀ σ H Q, t' σ H Q → t σ H Q) : PA X e t' := ⟨fun pos pins s σ H Q I q => h.run pos pins s σ H Q I (i σ H Q q)⟩
theorem PS.imp {X : Cx} {e : Stmt} {t t' : TS} (h : PS X e t) (i : ∀ D σ H, t' D σ H → t D σ H) : PS X e t' := ⟨fun pins s σ H D I q => h.run pins s σ H D I (i D σ H q)⟩
theorem PSs.imp {X : Cx} {e : List Stmt} {t t' : TS} (h : PSs X e t) (i : ∀ D σ H, t' D σ H → t D σ H) : PSs X e t' := ⟨fun pins s σ H D I q => h.run pins s σ H D I (i D σ H q)⟩

/-- the ambient facts of a context -/
structure Amb (X : Cx) (W : WX) (k : Nat) : Prop where
  calm : X.calm = true
  nd : X.N.Nodup
  tf : TakesF X W
  tp : TopF X
  hr : Room k X.A
  gd : X.A.guards = some []
/-- of a context of statements -/
structure AmbS (X : Cx) (W : WX) (k : Nat) : Prop extends Amb X W k where
  po : PassesOwn (model X.prog X.w) X.A X.env X.xe
  tk : L2N.Takes X W
theorem Amb.u65 {X : Cx} {W : WX} {k : Nat} (A : Amb X W k) : X.A.units + 65 < cLine := by have := A.hr.un; omega
theorem Amb.u64 {X : Cx} {W : WX} {k : Nat} (A : Amb X W k) : X.A.units + 64 < cLine := by have := A.hr.un; omega
theorem Amb.u1 {X : Cx} {W : WX} {k : Nat} (A : Amb X W k) : X.A.units + 1 < cLine := by have := A.hr.un; omega
theorem Amb.u0 {X : Cx} {W : WX} {k : Nat} (A : Amb X W k) : X.A.units < cLine := by have := A.hr.un; omega

/-! ### what is wanted of a result -/
def pst (cm : Nat → Addr) (W : WX) (σ : St) (H : Hp) {α : Type} (x : R α) (p : α → Prop) : Prop := match x with
  | .ok a => p a
  | .ex k => ∀ H', Same H H' → W (.ref (cm k)) none σ H'
  | .no => False
section
variable {cm : Nat → Addr} {W : WX} {σ : St} {H H' : Hp} {α β : Type}
theorem pst_bind {x : R α} {g : α → R β} {p : β → Prop} (h : pst cm W σ H (x.bind g) p) : pst cm W σ H x fun a => pst cm W σ H (g a) p := by
  cases x with
  | ok a => exact h
  | ex k => exact h
  | no => exact h
theorem pst_imp {x : R α} {p p' : α → Prop} (h : pst cm W σ H x p) (i : ∀ a, p a → p' a) : pst cm W σ H x p' := by
  cases x with
  | ok a => exact i a h
  | ex k => exact h
  | no => exact h
theorem pst_go {x : R α} {p : α → Prop} (h : pst cm W σ H x p) (s : Same H H') : pst cm W σ H' x p := by
  cases x with
  | ok a => exact h
  | ex k => exact fun H2 s2 => h H2 (s.trans s2)
  | no => exact h
end

def NB (B : Addr → Prop) (H : Hp) : Prop := ∀ a, B a → H a ≠ none
theorem NB.go {B : Addr → Prop} {H H' : Hp} (h : NB B H) (s : Same H H') : NB B H' := fun a b e => h a b (s.free e)
theorem EnvOk.nb {K : PySem.W.Frag} {C : ZC} {H : Hp} {r : Rho} {σ : St} (E : EnvOk K C H r σ) : NB (BB C r σ) H := fun _ h => E.bb h
def Res (K : PySem.W.Frag) (cm : Nat → Addr) (W : WX) (σ : St) (B : Addr → Prop) (H : Hp) (x : R D) (Q : VK) : Prop := pst cm W σ H x fun d => ∀ v H', Same H H' → Rp K H' B v d → Q v H'
def ResC (K : PySem.W.Frag) (cm : Nat → Addr) (W : WX) (σ : St) (B : Addr → Prop) (H : Hp) (x : R D) (Q : VK) : Prop := pst cm W σ H x fun d => ∀ v H', Same H H' → RpC K H' B v d → Q v H'
def ResF (K : PySem.W.Frag) (cm : Nat → Addr) (W : WX) (σ : St) (B : Addr → Prop) (H : Hp) (x : R (List D)) (Q : VK) : Prop := pst cm W σ H x fun ds => ∀ p vs H', Same H H' → H p = none → H' p = some (.lst vs) → RpAll K H' (fun a => B a ∨ a = p) vs ds → Q (.ref p) H'
def ResA (K : PySem.W.Frag) (cm : Nat → Addr) (W : WX) (σ : St) (B : Addr → Prop) (H : Hp) (x : R (List D)) (Q : List V → Hp → Prop) : Prop := pst cm W σ H x fun ds => ∀ vs H', Same H H' → RpAll K H' B vs ds → Q vs H'
def ResT (cm : Nat → Addr) (W : WX) (σ : St) (H : Hp) (x : R Bool) (Q : Bool → Hp → Prop) : Prop := pst cm W σ H x fun b => ∀ H', Same H H' → Q b H'
def tE (K : PySem.W.Frag) (cm : Nat → Addr) (W : WX) (f : Rho → R D) : TE := fun σ H Q => ∃ C r, EnvOk K C H r σ ∧ Res K cm W σ (BB C r σ) H (f r) Q
def tC (K : PySem.W.Frag) (cm : Nat → Addr) (W : WX) (f : Rho → R D) : TE := fun σ H Q => ∃ C r, EnvOk K C H r σ ∧ ResC K cm W σ (BB C r σ) H (f r) Q
def tF (K : PySem.W.Frag) (cm : Nat → Addr) (W : WX) (f : Rho → R (List D)) : TE := fun σ H Q => ∃ C r, EnvOk K C H r σ ∧ ResF K cm W σ (BB C r σ) H (f r) Q
def tA (K : PySem.W.Frag) (cm : Nat → Addr) (W : WX) (f : Rho → R (List D)) : TA := fun σ H Q => ∃ C r, EnvOk K C H r σ ∧ ResA K cm W σ (BB C r σ) H (f r) Q
def tT (K : PySem.W.Frag) (cm : Nat → Addr) (W : WX) (f : Rho → R Bool) : TT := fun σ H Q => ∃ C r, EnvOk K C H r σ ∧ ResT cm W σ H (f r) Q

abbrev ZE (X : Cx) (cm : Nat → Addr) (W : WX) (e : Expr) (f : Rho → R D) : Prop := PE X e (tE X.K cm W f)
abbrev ZK (X : Cx) (cm : Nat → Addr) (W : WX) (e : Expr) (f : Rho → R D) : Prop := PE X e (tC X.K cm W f)
abbrev ZF (X : Cx) (cm : Nat → Addr) (W : WX) (e : Expr) (f : Rho → R (List D)) : Prop := PE X e (tF X.K cm W f)
abbrev ZA (X : Cx) (cm : Nat → Addr) (W : WX) (es : List Expr) (f : Rho → R (List D)) : Prop := PA X es (tA X.K cm W f)
abbrev ZT (X : Cx) (cm : Nat → Addr) (W : WX) (e : Expr) (f : Rho → R Bool) : Prop := PT X e (tT X.K cm W f)
abbrev ZW (X : Cx) (cm : Nat → Addr) (W : WX) (e : Expr) (f : Rho → R Bool) : Prop := PW X e (tT X.K cm W f)

/-! ### combinators -/
def cK (d : D) : Rho → R D := fun _ => .ok d
def cVar (i : Nat) : Rho → R D := fun r => match r[i]? with
  | some (.sh d) => .ok d
  | _ => .no
def cVarC (i : Nat) : Rho → R D := fun r => match r[i]? with
  | some (.sh d) => .ok d
  | some (.ow ds) => .ok (.list ds)
  | _ => .no
def cB1 (F : D → R D) (f : Rho → R D) : Rho → R D := fun r => (f r).bind F
def cB2 (F : D → D → R D) (f g : Rho → R D) : Rho → R D := fun r => (f r).bind fun x => (g r).bind fun y => F x y
def cB3 (F : D → D → D → R D) (f g h : Rho → R D) : Rho → R D := fun r => (f r).bind fun x => (g r).bind fun y => (h r).bind fun z => F x y z
def cT1 (F : D → R Bool) (f : Rho → R D) : Rho → R Bool := fun r => (f r).bind F
def cT2 (F : D → D → R Bool) (f g : Rho → R D) : Rho → R Bool := fun r => (f r).bind fun x => (g r).bind fun y => F x y
def cBl (f : Rho → R Bool) : Rho → R D := fun r => (f r).bind fun b => .ok (.bool b)
def cL (f : Rho → R (List D)) : Rho → R D := fun r => (f r).bind fun ds => .ok (.list ds)
def cNil : Rho → R (List D) := fun _ => .ok []
def cCons (f : Rho → R D) (g : Rho → R (List D)) : Rho → R (List D) := fun r => (f r).bind fun x => (g r).bind fun xs => .ok (x :: xs)
def sizeD (ds : List D) : R (List D) := if ds.length ≤ sizeLine then .ok ds else .no
def cTup (f : Rho → R (List D)) : Rho → R D := fun r => (f r).bind fun ds => (sizeD ds).bind fun ds => .ok (.tuple ds)
def cLst (f : Rho → R (List D)) : Rho → R (List D) := fun r => (f r).bind fun ds => sizeD ds
def cIf (t : Rho → R Bool) (f g : Rho → R D) : Rho → R D := fun r => (t r).bind fun b => if b then f r else g r
def cNot (t : Rho → R Bool) : Rho → R Bool := fun r => (t r).bind fun b => .ok (!b)
def cAnd (t u : Rho → R Bool) : Rho → R Bool := fun r => (t r).bind fun b => if b then u r else .ok false
def cOr (t u : Rho → R Bool) : Rho → R Bool := fun r => (t r).bind fun b => if b then .ok true else u r
def boolD : D → R Bool
  | .bool b => .ok b
  | _ => .no
def cAndV (f g : Rho → R D) : Rho → R D := fun r => (f r).bind fun x => (boolD x).bind fun b => if b then g r else .ok (.bool false)
def cOrV (f g : Rho → R D) : Rho → R D := fun r => (f r).bind fun x => (boolD x).bind fun b => if b then .ok (.bool true) else g r

section
variable {X : Cx} {cm : Nat → Addr} {W : WX} {k : Nat} {e a b c : Expr} {f g h : Rho → R D} {pos : Pos}

/-! ### general steps -/
theorem then1 {K : PySem.W.Frag} {F : D → R D} {kk : V → Hp → VK → Prop} (hk : ∀ σ H B x d Q, NB B H → RpC K H B x d → Res K cm W σ B H (F d) Q → kk x H Q) :
    ∀ σ H Q, tE K cm W (cB1 F f) σ H Q → tC K cm W f σ H fun x H1 => kk x H1 Q := fun σ H Q ⟨C, r, E, q⟩ =>
  ⟨C, r, E, pst_imp (pst_bind q) fun d q v H1 s1 r1 => hk σ H1 _ v d Q (E.nb.go s1) r1 (pst_imp (pst_go q s1) fun _ q v2 H2 s2 => q v2 H2 (s1.trans s2))⟩
theorem then1V {K : PySem.W.Frag} {F : D → R D} {kk : V → Hp → VK → Prop} (hk : ∀ σ H B x d Q, NB B H → Rp K H B x d → Res K cm W σ B H (F d) Q → kk x H Q) :
    ∀ σ H Q, tE K cm W (cB1 F f) σ H Q → tE K cm W f σ H fun x H1 => kk x H1 Q := fun σ H Q ⟨C, r, E, q⟩ =>
  ⟨C, r, E, pst_imp (pst_bind q) fun d q v H1 s1 r1 => hk σ H1 _ v d Q (E.nb.go s1) r1 (pst_imp (pst_go q s1) fun _ q v2 H2 s2 => q v2 H2 (s1.trans s2))⟩
theorem then1F {K : PySem.W.Frag} {F : D → R (List D)} {kk : V → Hp → VK → Prop} (hk : ∀ σ H B x d Q, NB B H → RpC K H B x d → ResF K cm W σ B H (F d) Q → kk x H Q) :
    ∀ σ H Q, tF K cm W (fun r => (f r).bind F) σ H Q → tC K cm W f σ H fun x H1 => kk x H1 Q := fun σ H Q ⟨C, r, E, q⟩ =>
  ⟨C, r, E, pst_imp (pst_bind q) fun d q v H1 s1 r1 => hk σ H1 _ v d Q (E.nb.go s1) r1 (pst_imp (pst_go q s1) fun _ q p vs H2 s2 np => q p vs H2 (s1.trans s2) (s1.free np))⟩
theorem then1T {K : PySem.W.Frag} {F : D → R Bool} {kk : V → Hp → (Bool → Hp → Prop) → Prop} (hk : ∀ σ H B x d Q, NB B H → RpC K H B x d → ResT cm W σ H (F d) Q → kk x H Q) :
    ∀ σ H Q, tT K cm W (cT1 F f) σ H Q → tC K cm W f σ H fun x H1 => kk x H1 Q := fun σ H Q ⟨C, r, E, q⟩ =>
  ⟨C, r, E, pst_imp (pst_bind q) fun d q v H1 s1 r1 => hk σ H1 _ v d Q (E.nb.go s1) r1 (pst_imp (pst_go q s1) fun _ q H2 s2 => q H2 (s1.trans s2))⟩
theorem then2 {K : PySem.W.Frag} {F : D → D → R D} {kk : V → V → Hp → VK → Prop} (hk : ∀ σ H B x y d e Q, NB B H → RpC K H B x d → RpC K H B y e → Res K cm W σ B H (F d e) Q → kk x y H Q) :
    ∀ σ H Q, tE K cm W (cB2 F f g) σ H Q → tC K cm W f σ H fun x H1 => tC K cm W g σ H1 fun y H2 => kk x y H2 Q := fun σ H Q ⟨C, r, E, q⟩ =>
  ⟨C, r, E, pst_imp (pst_bind q) fun d q v H1 s1 r1 => ⟨C, r, E.go s1, pst_imp (pst_bind (pst_go q s1)) fun e q w H2 s2 r2 =>
    hk σ H2 _ v w d e Q (E.nb.go (s1.trans s2)) (r1.mono s2 (fun _ z => .inl z)) r2 (pst_imp (pst_go q s2) fun _ q v2 H3 s3 => q v2 H3 ((s1.trans s2).trans s3))⟩⟩
theorem then2F {K : PySem.W.Frag} {F : D → D → R (List D)} {kk : V → V → Hp → VK → Prop} (hk : ∀ σ H B x y d e Q, NB B H → RpC K H B x d → RpC K H B y e → ResF K cm W σ B H (F d e) Q → kk x y H Q) :
    ∀ σ H Q, tF K cm W (fun r => (f r).bind fun x => (g r).bind fun y => F x y) σ H Q → tC K cm W f σ H fun x H1 => tC K cm W g σ H1 fun y H2 => kk x y H2 Q := fun σ H Q ⟨C, r, E, q⟩ =>
  ⟨C, r, E, pst_imp (pst_bind q) fun d q v H1 s1 r1 => ⟨C, r, E.go s1, pst_imp (pst_bind (pst_go q s1)) fun e q w H2 s2 r2 =>
    hk σ H2 _ v w d e Q (E.nb.go (s1.trans s2)) (r1.mono s2 (fun _ z => .inl z)) r2 (pst_imp (pst_go q s2) fun _ q p vs H3 s3 np => q p vs H3 ((s1.trans s2).trans s3) ((s1.trans s2).free np))⟩⟩
theorem then2T {K : PySem.W.Frag} {F : D → D → R Bool} {kk : V → V → Hp → (Bool → Hp → Prop) → Prop} (hk : ∀ σ H B x y d e Q, NB B H → RpC K H B x d → RpC K H B y e → ResT cm W σ H (F d e) Q → kk x y H Q) :
    ∀ σ H Q, tT K cm W (cT2 F f g) σ H Q → tC K cm W f σ H fun x H1 => tC K cm W g σ H1 fun y H2 => kk x y H2 Q := fun σ H Q ⟨C, r, E, q⟩ =>
  ⟨C, r, E, pst_imp (pst_bind q) fun d q v H1 s1 r1 => ⟨C, r, E.go s1, pst_imp (pst_bind (pst_go q s1)) fun e q w H2 s2 r2 =>
    hk σ H2 _ v w d e Q (E.nb.go (s1.trans s2)) (r1.mono s2 (fun _ z => .inl z)) r2 (pst_imp (pst_go q s2) fun _ q H3 s3 => q H3 ((s1.trans s2).trans s3))⟩⟩
theorem Res.ok {K : PySem.W.Frag} {σ : St} {B : Addr → Prop} {H : Hp} {d : D} {Q : VK} (h : Res K cm W σ B H (.ok d) Q) {v : V} (r : Rp K H B v d) : Q v H := h v H (Same.refl H) r
theorem same_upd {H : Hp} {p : Addr} {o : HO} (h : H p = none) : Same H (upd H p o) := .of fun b x e => by
  rw [upd_ne (ne_of_none e h)]
  exact e
theorem Res.tup {K : PySem.W.Frag} {σ : St} {B : Addr → Prop} {H : Hp} {ds : List D} {Q : VK} (h : Res K cm W σ B H (.ok (.tuple ds)) Q) {vs : List V} (r : RpAll K H B vs ds) {p : Addr} (hp : H p = none) : Q (.ref p) (upd H p (.tup vs)) :=
  h (.ref p) _ (same_upd hp) (.tup (.inl (.inl upd_same)) (r.mono (same_upd hp)))
theorem Res.lst {K : PySem.W.Frag} {σ : St} {B : Addr → Prop} {H : Hp} {ds : List D} {Q : VK} (hb : NB B H) (h : Res K cm W σ B H (.ok (.list ds)) Q) {vs : List V} (r : RpAll K H B vs ds) {p : Addr} (hp : H p = none) : Q (.ref p) (upd H p (.lst vs)) :=
  h (.ref p) _ (same_upd hp) (.lst (.mk (.inl upd_same) (fun z => hb p z hp)) (r.mono (same_upd hp)))
theorem ResF.lst {K : PySem.W.Frag} {σ : St} {B : Addr → Prop} {H : Hp} {ds : List D} {Q : VK} (h : ResF K cm W σ B H (.ok ds) Q) {vs : List V} (r : RpAll K H B vs ds) {p : Addr} (hp : H p = none) : Q (.ref p) (upd H p (.lst vs)) :=
  h p vs _ (same_upd hp) hp upd_same (r.mono (same_upd hp) fun a z => z.elim .inl fun e => .inr (by rw [e]; exact hp))

/-! ### coercions -/
theorem ze_k (h : ZE X cm W e f) : ZK X cm W e f := PE.imp h fun σ H Q ⟨C, r, E, q⟩ => ⟨C, r, E, pst_imp q fun d q v H1 s1 r1 => q v H1 s1 r1.c⟩
theorem zf_e {f : Rho → R (List D)} (h : ZF X cm W e f) : ZE X cm W e (cL f) := PE.imp h fun σ H Q ⟨C, r, E, q⟩ => ⟨C, r, E, pst_imp (pst_bind q) fun ds q p vs H1 s1 np hp rp =>
  q (.ref p) H1 s1 (.lst (.mk (.inl hp) (fun z => E.bb z np)) (rp.mono (Same.refl _) fun a z => .inl (.inl z)))⟩
theorem zf_k {f : Rho → R (List D)} (h : ZF X cm W e f) : ZK X cm W e (cL f) := ze_k (zf_e h)

/-! ### names and constants -/
theorem ze_var (i : Nat) {x : Str} (hN : X.N[i]? = some x := by rfl) (hv : Vis X.env.scope x := by first | exact Or.inl rfl | exact Or.inr (Or.inl rfl) | exact Or.inr (Or.inr rfl)) (hd : (x == ("__debug__" : Str)) = false := by decide) (hcd : (x == ("__classdict__" : Str)) = false := by decide) :
    ZE X cm W (.Name x pos) (cVar i) := PE.imp (pe_var hN hv hd hcd) fun σ H Q ⟨C, r, E, q⟩ => by
  have q' : pst cm W σ H (cVar i r) fun d => ∀ v H', Same H H' → Rp X.K H' (BB C r σ) v d → Q v H' := q
  unfold cVar at q'
  cases hr : r[i]? with
  | none => rw [hr] at q'; exact q'.elim
  | some s =>
    rw [hr] at q'
    cases s with
    | un => exact q'.elim
    | ow ds => exact q'.elim
    | sh d =>
      obtain ⟨v, e1, r1⟩ := E.sh i d hr
      exact ⟨v, e1, q' v H (Same.refl H) r1⟩
theorem zk_var (i : Nat) {x : Str} (hN : X.N[i]? = some x := by rfl) (hv : Vis X.env.scope x := by first | exact Or.inl rfl | exact Or.inr (Or.inl rfl) | exact Or.inr (Or.inr rfl)) (hd : (x == ("__debug__" : Str)) = false := by decide) (hcd : (x == ("__classdict__" : Str)) = false := by decide) :
    ZK X cm W (.Name x pos) (cVarC i) := PE.imp (pe_var hN hv hd hcd) fun σ H Q ⟨C, r, E, q⟩ => by
  have q' : pst cm W σ H (cVarC i r) fun d => ∀ v H', Same H H' → RpC X.K H' (BB C r σ) v d → Q v H' := q
  unfold cVarC at q'
  cases hr : r[i]? with
  | none => rw [hr] at q'; exact q'.elim
  | some s =>
    rw [hr] at q'
    cases s with
    | un => exact q'.elim
    | ow ds =>
      obtain ⟨a, vs, e1, e2, _, r1⟩ := E.ow i ds hr
      exact ⟨.ref a, e1, q' (.ref a) H (Same.refl H) ⟨a, vs, rfl, .inl (.inl e2), r1⟩⟩
    | sh d =>
      obtain ⟨v, e1, r1⟩ := E.sh i d hr
      exact ⟨v, e1, q' v H (Same.refl H) r1.c⟩
theorem ze_const {v : V} {d : D} (h : PE X e (L2.tC v)) (r : ∀ H B, Rp X.K H B v d) : ZE X cm W e (cK d) := PE.imp h fun σ H Q ⟨C, _, E, q⟩ => (show Res X.K cm W σ _ H (.ok d) Q from q).ok (r H _)
theorem ze_int {i j} : ZE X cm W (.Constant (.int i) j pos) (cK (.int i)) := ze_const pe_int fun _ _ => .int i
theorem ze_str {x j} : ZE X cm W (.Constant (.str x) j pos) (cK (.str x)) := ze_const pe_str fun _ _ => .str x
theorem ze_bl {x j} : ZE X cm W (.Constant (.bool x) j pos) (cK (.bool x)) := ze_const pe_bl fun _ _ => .bl x
theorem ze_non {j} : ZE X cm W (.Constant .none j pos) (cK .none) := ze_const pe_non fun _ _ => .non
/-- a module's constant -/
def GlobD (K : PySem.W.Frag) (mg : Str → Option Value) (x : Str) (d : D) : Prop := ∃ u v, mg x = some u ∧ RelV v u ∧ ∀ H B, Rp K H B v d
theorem ze_glob {x : Str} {d : D} (G : GlobD X.K X.mg x d) (hg : Gl X x := by rfl) (hd : (x == ("__debug__" : Str)) = false := by decide) : ZE X cm W (.Name x pos) (cK d) := by
  obtain ⟨u, v, hm, rv, r⟩ := G
  exact ze_const (pe_glob hg hm rv hd) r

/-! ### operations, apart from how their operands are read -/
structure Op2 (X : Cx) (cm : Nat → Addr) (W : WX) (a b e : Expr) (F : D → D → R D) : Prop where
  ex : ∃ rr : V → V → Hp → VK → Prop, (∀ ta tb : TE, PE X a ta → PE X b tb → PE X e fun σ H Q => ta σ H fun x H1 => tb σ H1 fun y H2 => rr x y H2 Q) ∧
    ∀ (σ : St) (H : Hp) (B : Addr → Prop) (x y : V) (d e : D) (Q : VK), NB B H → RpC X.K H B x d → RpC X.K H B y e → Res X.K cm W σ B H (F d e) Q → rr x y H Q
theorem ze_of2 {e : Expr} {F : D → D → R D} (O : Op2 X cm W a b e F) (ha : ZK X cm W a f) (hb : ZK X cm W b g) : ZE X cm W e (cB2 F f g) := by
  obtain ⟨rr, h1, h2⟩ := O.ex
  exact PE.imp (h1 _ _ ha hb) (then2 h2)
structure Op1 (X : Cx) (cm : Nat → Addr) (W : WX) (a e : Expr) (F : D → R D) : Prop where
  ex : ∃ rr : V → Hp → VK → Prop, (∀ ta : TE, PE X a ta → PE X e fun σ H Q => ta σ H fun x H1 => rr x H1 Q) ∧
    ∀ (σ : St) (H : Hp) (B : Addr → Prop) (x : V) (d : D) (Q : VK), NB B H → RpC X.K H B x d → Res X.K cm W σ B H (F d) Q → rr x H Q
theorem ze_of1 {e : Expr} {F : D → R D} (O : Op1 X cm W a e F) (ha : ZK X cm W a f) : ZE X cm W e (cB1 F f) := by
  obtain ⟨rr, h1, h2⟩ := O.ex
  exact PE.imp (h1 _ ha) (then1 h2)
/-! ### displays, arguments -/
theorem za_nil : ZA X cm W [] cNil := PA.imp pa_nil fun σ H Q ⟨C, r, E, q⟩ => q [] H (Same.refl H) .nil
theorem za_cons {es : List Expr} {g : Rho → R (List D)} (h1 : ZE X cm W e f) (h2 : ZA X cm W es g) (hs : starEach (e :: es) X.env = (false, eval e X.env) :: starEach es X.env := by rfl) : ZA X cm W (e :: es) (cCons f g) :=
  PA.imp (pa_cons h1 h2 hs) fun σ H Q ⟨C, r, E, q⟩ => ⟨C, r, E, pst_imp (pst_bind q) fun d q v H1 s1 r1 => ⟨C, r, E.go s1, pst_imp (pst_bind (pst_go q s1)) fun ds q vs H2 s2 r2 =>
    q (v :: vs) H2 (s1.trans s2) (.cons (r1.mono s2) r2)⟩⟩
def starD : D → R (List D)
  | .list ds => .ok ds
  | .tuple ds => .ok ds
  | _ => .no
def cStar (f : Rho → R D) (g : Rho → R (List D)) : Rho → R (List D) := fun r => (f r).bind fun x => (starD x).bind fun xs => (g r).bind fun ys => .ok (xs ++ ys)
theorem za_star {es : List Expr} {p : Pos} {g : Rho → R (List D)} (h1 : ZK X cm W e f) (h2 : ZA X cm W es g) (hs : starEach (.Starred e p :: es) X.env = (true, eval e X.env) :: starEach es X.env := by rfl) : ZA X cm W (.Starred e p :: es) (cStar f g) :=
  PA.imp (StX.pa_star h1 h2 hs) fun σ H Q ⟨C, r, E, q⟩ => ⟨C, r, E, pst_imp (pst_bind q) fun d q v H1 s1 r1 => by
    have key : ∀ (p : Addr) (xs : List V) (ds : List D), v = .ref p → (SqT X.K H1 p xs ∨ SqL X.K H1 p xs) → RpAll X.K H1 (BB C r σ) xs ds → pst cm W σ H ((g r).bind fun ys => R.ok (ds ++ ys)) (fun ds => ∀ vs H', Same H H' → RpAll X.K H' (BB C r σ) vs ds → Q vs H') →
        ∃ p xs, v = V.ref p ∧ (SqT X.K H1 p xs ∨ SqL X.K H1 p xs) ∧ tA X.K cm W g σ H1 fun ys H2 => Q (xs ++ ys) H2 := fun p xs ds e hq rx q =>
      ⟨p, xs, e, hq, C, r, E.go s1, pst_imp (pst_bind (pst_go q s1)) fun es q ys H2 s2 r2 => q (xs ++ ys) H2 (s1.trans s2) ((rx.mono s2).append r2)⟩
    cases d with
    | list ds =>
      obtain ⟨a, xs, e, hq, rx⟩ := r1
      exact key a xs ds e (.inr hq) rx q
    | tuple ds =>
      have r1' : Rp X.K H1 (BB C r σ) v (.tuple ds) := r1
      cases r1' with
      | tup hq rx => exact key _ _ ds rfl (.inl hq) rx q
    | _ => exact (show False from q).elim⟩
theorem ze_tup {es : List Expr} {x1} {f : Rho → R (List D)} (h : ZA X cm W es f) : ZE X cm W (.Tuple es x1 pos) (cTup f) := PE.imp (pe_tup h) fun σ H Q ⟨C, r, E, q⟩ => ⟨C, r, E, pst_imp (pst_bind q) fun ds q vs H1 s1 r1 => by
  have l := r1.length
  unfold sizeD at q
  split at q
  · rename_i hz
    exact ⟨by rw [l]; exact hz, fun p hp => Res.tup (show Res X.K cm W σ (BB C r σ) H1 (.ok (.tuple ds)) Q from fun v H2 s2 => q v H2 (s1.trans s2)) r1 hp⟩
  · exact (show False from q).elim⟩
theorem zf_lst {es : List Expr} {f : Rho → R (List D)} (h : ZA X cm W es f) : ZF X cm W (.List es pos) (cLst f) := PE.imp (pe_lst h) fun σ H Q ⟨C, r, E, q⟩ => ⟨C, r, E, pst_imp (pst_bind q) fun ds q vs H1 s1 r1 => by
  have l := r1.length
  unfold sizeD at q
  split at q
  · rename_i hz
    exact ⟨by rw [l]; exact hz, fun p hp => ResF.lst (show ResF X.K cm W σ (BB C r σ) H1 (.ok ds) Q from fun p vs H2 s2 np => q p vs H2 (s1.trans s2) (s1.free np)) r1 hp⟩
  · exact (show False from q).elim⟩
end
end Z


set_option Elab.async false
set_option linter.all false
set_option maxRecDepth 100000
set_option maxHeartbeats 4000000
namespace Z
open PySem PySem.Spec PyProof.Rows L2

/-! ### operations on data -/
def addD : D → D → R D
  | .int i, .int j => .ok (.int (i + j))
  | .str x, .str y => if x.length + y.length ≤ sizeLine then .ok (.str (x ++ y)) else .no
  | .list xs, .list ys => if xs.length + ys.length ≤ sizeLine then .ok (.list (xs ++ ys)) else .no
  | .tuple xs, .tuple ys => if xs.length + ys.length ≤ sizeLine then .ok (.tuple (xs ++ ys)) else .no
  | _, _ => .no
def subD : D → D → R D
  | .int i, .int j => .ok (.int (i - j))
  | _, _ => .no
def mulD : D → D → R D
  | .int i, .int j => if i.natAbs.log2 + j.natAbs.log2 < 1000000 then .ok (.int (i * j)) else .no
  | _, _ => .no
def fdivD : D → D → R D
  | .int i, .int j => if 0 < j ∧ j.natAbs.log2 < 9000 then .ok (.int (i / j)) else if j ≠ 0 ∧ j.natAbs < 1073741824 then .ok (.int (i.fdiv j)) else .no
  | _, _ => .no
def modD : D → D → R D
  | .int i, .int j => if 0 < j then .ok (.int (i % j)) else if j ≠ 0 then .ok (.int (i.fmod j)) else .no
  | _, _ => .no
def powD : D → D → R D
  | .int i, .int j => if 0 ≤ j ∧ j ≤ 1000000 ∧ i.natAbs < 2 ^ 64 then .ok (.int (i ^ j.toNat)) else .no
  | _, _ => .no
def shlD : D → D → R D
  | .int i, .int j => if 0 ≤ j ∧ j ≤ 1000000 ∧ i.natAbs < 2 ^ 64 then .ok (.int (i * 2 ^ j.toNat)) else .no
  | _, _ => .no
def negD : D → R D
  | .int i => .ok (.int (-i))
  | _ => .no
def eqD (x y : D) : R Bool := if SeqAt.shaped x && SeqAt.shaped y then .ok (PyData.eqv x y) else .no
def neD (x y : D) : R Bool := if SeqAt.shaped x && SeqAt.shaped y then .ok (!PyData.eqv x y) else .no
def ltD : D → D → R Bool
  | .int i, .int j => .ok (decide (i < j))
  | .str i, .str j => .ok (decide (i.cps.toList < j.cps.toList))
  | _, _ => .no
def leD : D → D → R Bool
  | .int i, .int j => .ok (decide (i ≤ j))
  | .str i, .str j => .ok (!decide (j.cps.toList < i.cps.toList))
  | _, _ => .no
def gtD : D → D → R Bool
  | .int i, .int j => .ok (decide (j < i))
  | .str i, .str j => .ok (decide (j.cps.toList < i.cps.toList))
  | _, _ => .no
def geD : D → D → R Bool
  | .int i, .int j => .ok (decide (j ≤ i))
  | .str i, .str j => .ok (!decide (i.cps.toList < j.cps.toList))
  | _, _ => .no
def isND : D → R Bool
  | .none => .ok true
  | _ => .ok false
def notND : D → R Bool
  | .none => .ok false
  | _ => .ok true
def memD (x w : D) (ys : List D) : R Bool := if SeqAt.shaped x && SeqAt.shaped w then .ok (ys.any fun z => PyData.eqv z x) else .no
def sgnD (z : Str) : D → R Bool
  | .str y => match y.cps.toList with
    | [c] => .ok (decide (c ∈ z.cps.toList))
    | _ => .no
  | _ => .no
def inD (x : D) : D → R Bool
  | .list ys => memD x (.list ys) ys
  | .tuple ys => memD x (.tuple ys) ys
  | .str z => sgnD z x
  | _ => .no
def notInD (x y : D) : R Bool := (inD x y).bind fun b => .ok (!b)
def truD : D → R Bool
  | .none => .ok false
  | .bool b => .ok b
  | .int i => .ok (i != 0)
  | .str y => if y.length ≤ sizeLine then .ok ((y.length : Int) != 0) else .no
  | .list xs => .ok (!xs.isEmpty)
  | .tuple xs => .ok (!xs.isEmpty)
  | .dict _ => .no

section
variable {X : Cx} {cm : Nat → Addr} {W : WX} {k : Nat} {e a b c : Expr} {f g h : Rho → R D} {pos : Pos}

theorem RpC.tup {K : PySem.W.Frag} {H : Hp} {B : Addr → Prop} {v : V} {ds : List D} (h : RpC K H B v (.tuple ds)) : ∃ a xs, v = .ref a ∧ SqT K H a xs ∧ RpAll K H B xs ds := by
  have h' : Rp K H B v (.tuple ds) := h
  cases h' with
  | tup hs ha => exact ⟨_, _, rfl, hs, ha⟩
theorem RpC.int {K : PySem.W.Frag} {H : Hp} {B : Addr → Prop} {v : V} {i : Int} (h : RpC K H B v (.int i)) : v = .int i := by
  have h' : Rp K H B v (.int i) := h
  cases h'
  rfl
theorem RpC.str {K : PySem.W.Frag} {H : Hp} {B : Addr → Prop} {v : V} {i : Str} (h : RpC K H B v (.str i)) : v = .str i := by
  have h' : Rp K H B v (.str i) := h
  cases h'
  rfl
theorem RpC.bl {K : PySem.W.Frag} {H : Hp} {B : Addr → Prop} {v : V} {i : Bool} (h : RpC K H B v (.bool i)) : v = .bl i := by
  have h' : Rp K H B v (.bool i) := h
  cases h'
  rfl
theorem RpC.non {K : PySem.W.Frag} {H : Hp} {B : Addr → Prop} {v : V} (h : RpC K H B v .none) : v = .non := by
  have h' : Rp K H B v .none := h
  cases h'
  rfl
theorem RpC.dictE {K : PySem.W.Frag} {H : Hp} {B : Addr → Prop} {v : V} {x} (h : RpC K H B v (.dict x)) : ∃ f, v = .ref f := by
  have h' : Rp K H B v (.dict x) := h
  cases h' with
  | fn h1 h2 => exact ⟨_, rfl⟩
  | lam h1 => exact ⟨_, rfl⟩
  | tok => exact ⟨_, rfl⟩
theorem RpC.lstE {K : PySem.W.Frag} {H : Hp} {B : Addr → Prop} {v : V} {ds : List D} (h : RpC K H B v (.list ds)) : ∃ a xs, v = .ref a ∧ SqL K H a xs ∧ RpAll K H B xs ds := h

theorem res_ite {K : PySem.W.Frag} {σ : St} {B : Addr → Prop} {H : Hp} {Q : VK} {p : Prop} [Decidable p] {x : R D} (h : Res K cm W σ B H (if p then x else .no) Q) : p ∧ Res K cm W σ B H x Q := by
  by_cases hp : p
  · rw [if_pos hp] at h
    exact ⟨hp, h⟩
  · rw [if_neg hp] at h
    exact (show False from h).elim
theorem res_ite2 {K : PySem.W.Frag} {σ : St} {B : Addr → Prop} {H : Hp} {Q : VK} {p : Prop} [Decidable p] {x y : R D} (h : Res K cm W σ B H (if p then x else y) Q) : (p ∧ Res K cm W σ B H x Q) ∨ Res K cm W σ B H y Q := by
  by_cases hp : p
  · rw [if_pos hp] at h
    exact .inl ⟨hp, h⟩
  · rw [if_neg hp] at h
    exact .inr h
theorem rs_ite {α : Type} {p : Prop} [Decidable p] {x : R α} {t : α} (h : (if p then x else .no) = .ok t) : p ∧ x = .ok t := by
  by_cases hp : p
  · rw [if_pos hp] at h
    exact ⟨hp, h⟩
  · rw [if_neg hp] at h
    cases h

/-- list + list, whatever holds them -/
def rCatS (K : PySem.W.Frag) : R2 := fun x y H Q => ∃ l b xs zs, x = .ref l ∧ y = .ref b ∧ SqL K H l xs ∧ SqL K H b zs ∧ xs.length + zs.length ≤ sizeLine ∧ ∀ p, H p = none → Q (.ref p) (upd H p (.lst (xs ++ zs)))
theorem op_catS : OpR X (binaryOp .Add) (rCatS X.K) := by
  intro pins s σ H x y v u Q I rx ry h
  obtain ⟨l, b, xs, zs, rfl, rfl, hH, hB, hz, q⟩ := h
  cases rx
  cases ry
  obtain ⟨its, r, pl, _⟩ := I.list hH
  obtain ⟨its2, r2, pl2, _⟩ := I.list hB
  obtain ⟨⟨cls, dd, data, sl⟩, ho, hc, n, hd⟩ := id pl.isList
  obtain ⟨⟨cls2, dd2, data2, sl2⟩, ho2, hc2, n2, hd2⟩ := id pl2.isList
  simp only at hc hd hc2 hd2
  subst hc hd hc2 hd2
  have el := r.length
  have el2 := r2.length
  have ea : its.toArray ++ its2.toArray = (its ++ its2).toArray := by simp
  refine concat_meets ⟨_, ho, rfl⟩ ⟨_, ho2, rfl⟩ noFill_list_add seq_list_add PySem.F.slot_list_add PySem.F.entry_list_add (PySem.F.args_list_add_2 _ _) (list_addW l b its.toArray its2.toArray n n2 dd dd2 sl sl2 (by simp; omega)) ⟨ho, ho2, ?_⟩
  rw [ea]
  exact ⟨.ref _, _, I.lnew (t' := s.toks) (r.append r2) (by rw [List.length_append]; omega), rfl, q _ I.fresh⟩

theorem op2_add : Op2 X cm W a b (.BinOp a .Add b pos) addD :=
  ⟨_, fun _ _ ha hb => pe_op (op_add.or (op_add_str.or (op_catS.or op_catA))) ha hb, fun σ H B x y d e Q hb rx ry q => by
    cases d with
    | int i =>
      cases e with
      | int j => exact .inl ⟨i, j, rx.int, ry.int, q.ok (.int _)⟩
      | _ => exact (show False from q).elim
    | str i =>
      cases e with
      | str j =>
        obtain ⟨hz, q⟩ := res_ite q
        exact .inr (.inl ⟨i, j, rx.str, ry.str, hz, q.ok (.str _)⟩)
      | _ => exact (show False from q).elim
    | list xs =>
      cases e with
      | list ys =>
        obtain ⟨hz, q⟩ := res_ite q
        obtain ⟨a, vs, rfl, h1, r1⟩ := rx.lstE
        obtain ⟨b, ws, rfl, h2, r2⟩ := ry.lstE
        exact .inr (.inr (.inl ⟨a, b, vs, ws, rfl, rfl, h1, h2, by rw [r1.length, r2.length]; exact hz, fun p hp => q.lst hb (r1.append r2) hp⟩))
      | _ => exact (show False from q).elim
    | tuple xs =>
      cases e with
      | tuple ys =>
        obtain ⟨hz, q⟩ := res_ite q
        obtain ⟨a, vs, rfl, h1, r1⟩ := rx.tup
        obtain ⟨b, ws, rfl, h2, r2⟩ := ry.tup
        refine .inr (.inr (.inr ⟨a, b, vs, ws, rfl, rfl, h1, h2, by rw [r1.length, r2.length]; exact hz, fun e => ?_, fun _ e => ?_, fun _ _ p hp => q.tup (r1.append r2) hp⟩))
        · subst e
          cases r1
          exact q.ok (.tup h2 r2)
        · subst e
          cases r2
          rw [List.append_nil] at q
          exact q.ok (.tup h1 r1)
      | _ => exact (show False from q).elim
    | none => cases e <;> exact (show False from q).elim
    | bool i => cases e <;> exact (show False from q).elim
    | dict i => cases e <;> exact (show False from q).elim⟩
theorem ze_add (ha : ZK X cm W a f) (hb : ZK X cm W b g) : ZE X cm W (.BinOp a .Add b pos) (cB2 addD f g) := ze_of2 (op2_add) ha hb
/-- an operation upon two ints -/
theorem bin_int {op : Operator} {C : Int → Int → Prop} {gg : Int → Int → Int} {F : D → D → R D} (ho : OpR X (binaryOp op) (rI C fun i j => .int (gg i j)))
    (hF : ∀ (σ : St) (H : Hp) (B : Addr → Prop) (x y : D) (Q : VK), Res X.K cm W σ B H (F x y) Q → ∃ i j, x = .int i ∧ y = .int j ∧ C i j ∧ Q (.int (gg i j)) H) (ha : ZK X cm W a f) (hb : ZK X cm W b g) : ZE X cm W (.BinOp a op b pos) (cB2 F f g) :=
  PE.imp (pe_op ho ha hb) (then2 fun σ H B x y d e Q hb rx ry q => by
    obtain ⟨i, j, rfl, rfl, c, q⟩ := hF σ H B d e Q q
    exact ⟨i, j, rx.int, ry.int, c, q⟩)
theorem bin_int2 {op : Operator} {C : Int → Int → Prop} {gg : Int → Int → Int} {F : D → D → R D} (ho : OpR X (binaryOp op) (rI C fun i j => .int (gg i j)))
    (hF : ∀ (σ : St) (H : Hp) (B : Addr → Prop) (x y : D) (Q : VK), Res X.K cm W σ B H (F x y) Q → ∃ i j, x = .int i ∧ y = .int j ∧ C i j ∧ Q (.int (gg i j)) H) : Op2 X cm W a b (.BinOp a op b pos) F :=
  ⟨_, fun _ _ ha hb => pe_op ho ha hb, fun σ H B x y d e Q hb rx ry q => by
    obtain ⟨i, j, rfl, rfl, c, q⟩ := hF σ H B d e Q q
    exact ⟨i, j, rx.int, ry.int, c, q⟩⟩
theorem op2_sub : Op2 X cm W a b (.BinOp a .Sub b pos) subD :=
  ⟨_, fun _ _ ha hb => pe_op op_sub ha hb, fun σ H B x y d e Q hb rx ry q => by
    cases d with
    | int i =>
      cases e with
      | int j => exact ⟨i, j, rx.int, ry.int, q.ok (.int _)⟩
      | _ => exact (show False from q).elim
    | _ => cases e <;> exact (show False from q).elim⟩
theorem ze_sub (ha : ZK X cm W a f) (hb : ZK X cm W b g) : ZE X cm W (.BinOp a .Sub b pos) (cB2 subD f g) := ze_of2 (op2_sub) ha hb
theorem op2_mul : Op2 X cm W a b (.BinOp a .Mult b pos) mulD :=
  bin_int2 op_mulW (fun σ H B x y Q q => by
    cases x with
    | int i =>
      cases y with
      | int j =>
        obtain ⟨hz, q⟩ := res_ite q
        exact ⟨i, j, rfl, rfl, hz, q.ok (.int _)⟩
      | _ => exact (show False from q).elim
    | _ => cases y <;> exact (show False from q).elim)
theorem ze_mul (ha : ZK X cm W a f) (hb : ZK X cm W b g) : ZE X cm W (.BinOp a .Mult b pos) (cB2 mulD f g) := ze_of2 op2_mul ha hb
theorem op2_fdiv : Op2 X cm W a b (.BinOp a .FloorDiv b pos) fdivD :=
  ⟨_, fun _ _ ha hb => pe_op (op_fdivW.or op_fdivN) ha hb, fun σ H B x y d e Q hb rx ry q => by
    cases d with
    | int i =>
      cases e with
      | int j =>
        rcases res_ite2 q with ⟨hz, q⟩ | q
        · exact .inl ⟨i, j, rx.int, ry.int, hz, q.ok (.int _)⟩
        · obtain ⟨hz, q⟩ := res_ite q
          exact .inr ⟨i, j, rx.int, ry.int, hz, q.ok (.int _)⟩
      | _ => exact (show False from q).elim
    | _ => cases e <;> exact (show False from q).elim⟩
theorem ze_fdiv (ha : ZK X cm W a f) (hb : ZK X cm W b g) : ZE X cm W (.BinOp a .FloorDiv b pos) (cB2 fdivD f g) := ze_of2 (op2_fdiv) ha hb
theorem op2_mod : Op2 X cm W a b (.BinOp a .Mod b pos) modD :=
  ⟨_, fun _ _ ha hb => pe_op (op_mod.or op_modN) ha hb, fun σ H B x y d e Q hb rx ry q => by
    cases d with
    | int i =>
      cases e with
      | int j =>
        rcases res_ite2 q with ⟨hz, q⟩ | q
        · exact .inl ⟨i, j, rx.int, ry.int, hz, q.ok (.int _)⟩
        · obtain ⟨hz, q⟩ := res_ite q
          exact .inr ⟨i, j, rx.int, ry.int, hz, q.ok (.int _)⟩
      | _ => exact (show False from q).elim
    | _ => cases e <;> exact (show False from q).elim⟩
theorem ze_mod (ha : ZK X cm W a f) (hb : ZK X cm W b g) : ZE X cm W (.BinOp a .Mod b pos) (cB2 modD f g) := ze_of2 (op2_mod) ha hb
theorem op2_pow : Op2 X cm W a b (.BinOp a .Pow b pos) powD :=
  bin_int2 op_pow (fun σ H B x y Q q => by
    cases x with
    | int i =>
      cases y with
      | int j =>
        obtain ⟨hz, q⟩ := res_ite q
        exact ⟨i, j, rfl, rfl, hz, q.ok (.int _)⟩
      | _ => exact (show False from q).elim
    | _ => cases y <;> exact (show False from q).elim)
theorem ze_pow (ha : ZK X cm W a f) (hb : ZK X cm W b g) : ZE X cm W (.BinOp a .Pow b pos) (cB2 powD f g) := ze_of2 op2_pow ha hb
theorem op2_shl : Op2 X cm W a b (.BinOp a .LShift b pos) shlD :=
  bin_int2 op_shl (fun σ H B x y Q q => by
    cases x with
    | int i =>
      cases y with
      | int j =>
        obtain ⟨hz, q⟩ := res_ite q
        exact ⟨i, j, rfl, rfl, hz, q.ok (.int _)⟩
      | _ => exact (show False from q).elim
    | _ => cases y <;> exact (show False from q).elim)
theorem ze_shl (ha : ZK X cm W a f) (hb : ZK X cm W b g) : ZE X cm W (.BinOp a .LShift b pos) (cB2 shlD f g) := ze_of2 op2_shl ha hb
theorem ze_neg (ha : ZK X cm W a f) : ZE X cm W (.UnaryOp .USub a pos) (cB1 negD f) :=
  PE.imp (pe_un un_neg ha) (then1 fun σ H B x d Q hb rx q => by
    cases d with
    | int i => exact ⟨i, rx.int, q.ok (.int _)⟩
    | _ => exact (show False from q).elim)

/-! ### comparisons: the kernel by values -/
/-- a comparison by values, told by F -/
def Cmp (X : Cx) (op : CmpOp) (F : D → D → R Bool) : Prop := ∃ r : R2, OpR X (compareOp op) r ∧ ∀ (H : Hp) (B : Addr → Prop) (x y : V) (d e : D) (Q : VK), RpC X.K H B x d → RpC X.K H B y e → (∃ t, F d e = .ok t ∧ Q (.bl t) H) → r x y H Q
theorem Cmp.or {op : CmpOp} {r : R2} {F G : D → D → R Bool} (ho : OpR X (compareOp op) r) (h1 : ∀ (H : Hp) (B : Addr → Prop) (x y : V) (d e : D) (Q : VK), RpC X.K H B x d → RpC X.K H B y e → (∃ t, F d e = .ok t ∧ Q (.bl t) H) → r x y H Q ∨ ∃ t, G d e = .ok t ∧ Q (.bl t) H)
    (h2 : Cmp X op G) : Cmp X op F := by
  obtain ⟨r2, ho2, k2⟩ := h2
  exact ⟨_, ho.or ho2, fun H B x y d e Q rx ry t => (h1 H B x y d e Q rx ry t).imp id fun t => k2 H B x y d e Q rx ry t⟩
theorem cmp_eq (A : Amb X W k) : Cmp X .Eq eqD := ⟨_, op_eqD A.u64, fun H B x y d e Q rx ry ⟨t, h, q⟩ => by
  obtain ⟨hs, h⟩ := rs_ite h
  rw [Bool.and_eq_true] at hs
  cases h
  exact ⟨d, e, rx.dp hs.1, ry.dp hs.2, hs.1, hs.2, q⟩⟩
theorem cmp_ne (A : Amb X W k) : Cmp X .NotEq neD := ⟨_, op_neD A.u64, fun H B x y d e Q rx ry ⟨t, h, q⟩ => by
  obtain ⟨hs, h⟩ := rs_ite h
  rw [Bool.and_eq_true] at hs
  cases h
  exact ⟨d, e, rx.dp hs.1, ry.dp hs.2, hs.1, hs.2, q⟩⟩
theorem cmp_lt : Cmp X .Lt ltD := ⟨_, op_lt.or op_lt_str, fun H B x y d e Q rx ry ⟨t, h, q⟩ => by
  cases d with
  | int i =>
    cases e with
    | int j => cases h; exact .inl ⟨i, j, rx.int, ry.int, q⟩
    | _ => cases h
  | str i =>
    cases e with
    | str j => cases h; exact .inr ⟨i, j, rx.str, ry.str, q⟩
    | _ => cases h
  | _ => cases e <;> cases h⟩
theorem cmp_le : Cmp X .LtE leD := ⟨_, op_le.or op_le_str, fun H B x y d e Q rx ry ⟨t, h, q⟩ => by
  cases d with
  | int i =>
    cases e with
    | int j => cases h; exact .inl ⟨i, j, rx.int, ry.int, q⟩
    | _ => cases h
  | str i =>
    cases e with
    | str j => cases h; exact .inr ⟨i, j, rx.str, ry.str, q⟩
    | _ => cases h
  | _ => cases e <;> cases h⟩
theorem cmp_gt : Cmp X .Gt gtD := ⟨_, op_gt.or op_gt_str, fun H B x y d e Q rx ry ⟨t, h, q⟩ => by
  cases d with
  | int i =>
    cases e with
    | int j => cases h; exact .inl ⟨i, j, rx.int, ry.int, q⟩
    | _ => cases h
  | str i =>
    cases e with
    | str j => cases h; exact .inr ⟨i, j, rx.str, ry.str, q⟩
    | _ => cases h
  | _ => cases e <;> cases h⟩
theorem cmp_ge : Cmp X .GtE geD := ⟨_, op_ge.or op_ge_str, fun H B x y d e Q rx ry ⟨t, h, q⟩ => by
  cases d with
  | int i =>
    cases e with
    | int j => cases h; exact .inl ⟨i, j, rx.int, ry.int, q⟩
    | _ => cases h
  | str i =>
    cases e with
    | str j => cases h; exact .inr ⟨i, j, rx.str, ry.str, q⟩
    | _ => cases h
  | _ => cases e <;> cases h⟩
def rInT (K : PySem.W.Frag) : R2 := fun x y H Q => ∃ d ds, Dp K H x d ∧ Dp K H y (.tuple ds) ∧ SeqAt.shaped d = true ∧ SeqAt.shaped (.tuple ds) = true ∧ Q (.bl (ds.any fun z => PyData.eqv z d)) H
def rNotInT (K : PySem.W.Frag) : R2 := fun x y H Q => ∃ d ds, Dp K H x d ∧ Dp K H y (.tuple ds) ∧ SeqAt.shaped d = true ∧ SeqAt.shaped (.tuple ds) = true ∧ Q (.bl (!ds.any fun z => PyData.eqv z d)) H
theorem op_inT (hu : X.A.units + 65 < cLine) : OpR X (compareOp .In) (rInT X.K) := by
  intro pins s σ H x y v u Q I rx ry h
  obtain ⟨d, ds, hd, he, sd, se, q⟩ := h
  obtain ⟨as, r1⟩ := Dp.reads I d x v hd rx
  obtain ⟨bs, r2⟩ := Dp.reads I (.tuple ds) y u he ry
  exact SeqAt.in_tuple_reads r2 r1 (SeqAt.canLay_of_shaped se) (SeqAt.canLay_of_shaped sd) (room_in_shaped sd hu) ⟨.bl _, H, I, rfl, q⟩
theorem op_notInT (hu : X.A.units + 65 < cLine) : OpR X (compareOp .NotIn) (rNotInT X.K) := by
  intro pins s σ H x y v u Q I rx ry h
  obtain ⟨d, ds, hd, he, sd, se, q⟩ := h
  obtain ⟨as, r1⟩ := Dp.reads I d x v hd rx
  obtain ⟨bs, r2⟩ := Dp.reads I (.tuple ds) y u he ry
  exact SeqAt.notIn_tuple_reads r2 r1 (SeqAt.canLay_of_shaped se) (SeqAt.canLay_of_shaped sd) (room_in_shaped sd hu) ⟨.bl _, H, I, rfl, q⟩
theorem str_one {y : Str} {c : Nat} (h : y.cps.toList = [c]) : y = ⟨#[c]⟩ := by
  obtain ⟨a⟩ := y
  have : a = #[c] := by
    apply Array.ext'
    simpa using h
  rw [this]
theorem memD_ok {x w : D} {ys : List D} {t : Bool} (h : memD x w ys = .ok t) : SeqAt.shaped x = true ∧ SeqAt.shaped w = true ∧ t = ys.any fun z => PyData.eqv z x := by
  obtain ⟨hs, h⟩ := rs_ite h
  rw [Bool.and_eq_true] at hs
  exact ⟨hs.1, hs.2, (R.ok.inj h).symm⟩
theorem sgnD_ok {z : Str} {x : D} {t : Bool} (h : sgnD z x = .ok t) : ∃ c, x = .str ⟨#[c]⟩ ∧ t = decide (c ∈ z.cps.toList) := by
  cases x with
  | str w =>
    have h' : (match w.cps.toList with
      | [c] => R.ok (decide (c ∈ z.cps.toList))
      | _ => R.no) = .ok t := h
    split at h'
    · rename_i c hc
      exact ⟨c, by rw [str_one hc], (R.ok.inj h').symm⟩
    · cases h'
  | _ => cases h
theorem inD_cases {x y : D} {t : Bool} (h : inD x y = .ok t) :
    (∃ ys, y = .list ys ∧ SeqAt.shaped x = true ∧ SeqAt.shaped (.list ys) = true ∧ t = ys.any fun z => PyData.eqv z x) ∨ (∃ ys, y = .tuple ys ∧ SeqAt.shaped x = true ∧ SeqAt.shaped (.tuple ys) = true ∧ t = ys.any fun z => PyData.eqv z x) ∨
      ∃ z c, y = .str z ∧ x = .str ⟨#[c]⟩ ∧ t = decide (c ∈ z.cps.toList) := by
  cases y with
  | list ys => exact .inl ⟨ys, rfl, memD_ok h⟩
  | tuple ys => exact .inr (.inl ⟨ys, rfl, memD_ok h⟩)
  | str z =>
    obtain ⟨c, e1, e2⟩ := sgnD_ok h
    exact .inr (.inr ⟨z, c, rfl, e1, e2⟩)
  | _ => cases h
theorem cmp_in (A : Amb X W k) : Cmp X .In inD := ⟨_, (op_inD A.u65).or ((op_inT A.u65).or op_in_sign), fun H B x y d e Q rx ry ⟨t, h, q⟩ => by
  rcases inD_cases h with ⟨ys, rfl, h1, h2, rfl⟩ | ⟨ys, rfl, h1, h2, rfl⟩ | ⟨z, c, rfl, rfl, rfl⟩
  · exact .inl ⟨d, ys, rx.dp h1, ry.dp h2, h1, h2, q⟩
  · exact .inr (.inl ⟨d, ys, rx.dp h1, ry.dp h2, h1, h2, q⟩)
  · exact .inr (.inr ⟨c, z, rx.str, ry.str, q⟩)⟩
theorem cmp_notIn (A : Amb X W k) : Cmp X .NotIn notInD := ⟨_, (op_notInD A.u65).or ((op_notInT A.u65).or op_notIn_sign), fun H B x y d e Q rx ry ⟨t, h, q⟩ => by
  unfold notInD at h
  cases hi : inD d e with
  | ok b =>
    rw [hi] at h
    cases h
    rcases inD_cases hi with ⟨ys, rfl, h1, h2, rfl⟩ | ⟨ys, rfl, h1, h2, rfl⟩ | ⟨z, c, rfl, rfl, rfl⟩
    · exact .inl ⟨d, ys, rx.dp h1, ry.dp h2, h1, h2, q⟩
    · exact .inr (.inl ⟨d, ys, rx.dp h1, ry.dp h2, h1, h2, q⟩)
    · exact .inr (.inr ⟨c, z, rx.str, ry.str, q⟩)
  | ex j => rw [hi] at h; cases h
  | no => rw [hi] at h; cases h⟩
theorem resT_ok {σ : St} {H : Hp} {x : R Bool} {Q : Bool → Hp → Prop} (h : ResT cm W σ H x Q) (nx : ∀ j, x ≠ .ex j) : ∃ t, x = .ok t ∧ Q t H := by
  cases x with
  | ok t => exact ⟨t, rfl, h H (Same.refl H)⟩
  | ex j => exact (nx j rfl).elim
  | no => exact (show False from h).elim
theorem cmp_nox {F : D → D → R Bool} {d e : D} {σ : St} {H : Hp} {Q : Bool → Hp → Prop} (h : ResT cm W σ H (F d e) Q) (nx : ∀ d e j, F d e ≠ .ex j) : ∃ t, F d e = .ok t ∧ Q t H := resT_ok h (nx d e)
/-- a op b as a test, as a value -/
theorem zt_cmp {op : CmpOp} {F : D → D → R Bool} (hc : Cmp X op F) (ha : ZK X cm W a f) (hb : ZK X cm W b g) (nx : ∀ d e j, F d e ≠ .ex j) (h1 : behindInMarks op b = false := by first | exact nobehind _ (by decide) (by decide) | rfl) : ZT X cm W (.Compare a [op] [b] pos) (cT2 F f g) := by
  obtain ⟨r, ho, hk⟩ := hc
  refine PT.imp (pt_cmpR ho ha hb h1) (then2T (kk := fun x y H Q => r x y H fun x H' => ∃ k, x = .bl k ∧ Q k H') fun σ H B x y d e Q hb rx ry q => ?_)
  obtain ⟨t, e1, q⟩ := cmp_nox q nx
  exact hk H B x y d e _ rx ry ⟨t, e1, t, rfl, q⟩
theorem ze_cmp {op : CmpOp} {F : D → D → R Bool} (hc : Cmp X op F) (ha : ZK X cm W a f) (hb : ZK X cm W b g) (nx : ∀ d e j, F d e ≠ .ex j) (h1 : behindInMarks op b = false := by first | exact nobehind _ (by decide) (by decide) | rfl) : ZE X cm W (.Compare a [op] [b] pos) (cBl (cT2 F f g)) := by
  obtain ⟨r, ho, hk⟩ := hc
  refine PE.imp (pe_cmpR ho ha hb h1) fun σ H Q ⟨C, r', E, q⟩ => ⟨C, r', E, pst_imp (pst_bind (pst_bind q)) fun d q v H1 s1 r1 => ⟨C, r', E.go s1, pst_imp (pst_bind (pst_go q s1)) fun e q w H2 s2 r2 => ?_⟩⟩
  have q2 : pst cm W σ H1 (F d e) fun b => ∀ v H', Same H H' → Rp X.K H' (BB C r' σ) v (.bool b) → Q v H' := q
  cases hF : F d e with
  | ok t =>
    rw [hF] at q2
    exact hk H2 _ v w d e Q (r1.mono s2 (fun _ z => .inl z)) r2 ⟨t, hF, q2 (.bl t) H2 (s1.trans s2) (.bl t)⟩
  | ex j => exact (nx d e j hF).elim
  | no => rw [hF] at q2; exact (show False from q2).elim
end
end Z


set_option Elab.async false
set_option linter.all false
set_option maxRecDepth 100000
set_option maxHeartbeats 4000000
namespace Z
open PySem PySem.Spec PyProof.Rows L2

/-! ### data -/
def atD (ds : List D) (i : Int) : R D := match atI ds i with
  | some d => .ok d
  | none => .no
def ixD : D → D → R D
  | .list ds, .int i => atD ds i
  | .tuple ds, .int i => atD ds i
  | .str z, .int i => if z.length ≤ sizeLine then (match atI z.cps.toList i with
    | some c => .ok (.str ⟨#[c]⟩)
    | none => .no) else .no
  | _, _ => .no
def cutD (ds : List D) (lo hi : Option Int) : List D := (ds.drop (HT.sIx ds.length 0 lo)).take (HT.sIx ds.length ds.length hi - HT.sIx ds.length 0 lo)
def slD (lo hi : Option Int) : D → R D
  | .list ds => .ok (.list (cutD ds lo hi))
  | .tuple ds => .ok (.tuple (cutD ds lo hi))
  | .str z => if z.length ≤ sizeLine then .ok (.str (cutS z lo hi)) else .no
  | _ => .no
def optD : D → R (Option Int)
  | .int i => .ok (some i)
  | _ => .no
def lenD : D → R D
  | .list ds => .ok (.int ds.length)
  | .tuple ds => .ok (.int ds.length)
  | .str z => if z.length ≤ sizeLine then .ok (.int z.length) else .no
  | _ => .no
def absD : D → R D
  | .int i => .ok (.int (if i < 0 then -i else i))
  | _ => .no
def intS (a : Str) : R D := match PySem.intText? a with
  | some n => if a.length ≤ 640 then .ok (.int n) else .no
  | none => .no
def intD : D → R D
  | .int i => .ok (.int i)
  | .bool b => .ok (.int (if b then 1 else 0))
  | .str a => intS a
  | _ => .no
def strD : D → R D
  | .int i => if i.natAbs.log2 < 1920 then .ok (.str (toString i)) else .no
  | .str a => .ok (.str a)
  | _ => .no
def bools : List D → R (List Bool)
  | [] => .ok []
  | .bool b :: r => (bools r).bind fun bs => .ok (b :: bs)
  | _ :: _ => .no
def allD : D → R D
  | .list ds => (bools ds).bind fun bs => .ok (.bool (bs.all id))
  | _ => .no
def anyD : D → R D
  | .list ds => (bools ds).bind fun bs => .ok (.bool (bs.any id))
  | _ => .no
def intsOf : List D → R (List Int)
  | [] => .ok []
  | .int b :: r => (intsOf r).bind fun bs => .ok (b :: bs)
  | _ :: _ => .no
def strsOf : List D → R (List Str)
  | [] => .ok []
  | .str b :: r => (strsOf r).bind fun bs => .ok (b :: bs)
  | _ :: _ => .no
def sumD : D → R D
  | .list ds => (intsOf ds).bind fun bs => .ok (.int bs.sum)
  | _ => .no
def tupD : D → R D
  | .list ds => .ok (.tuple ds)
  | .tuple ds => .ok (.tuple ds)
  | _ => .no
def listD : D → R (List D)
  | .list ds => .ok ds
  | .tuple ds => .ok ds
  | _ => .no
def kindD : D → String
  | .none => "NoneType"
  | .bool _ => "bool"
  | .int _ => "int"
  | .str _ => "str"
  | .list _ => "list"
  | .tuple _ => "tuple"
  | .dict _ => "dict"
def joinW (a : Str) (ys : List Str) : R D := if (ys.map (·.length)).sum + ys.length * a.length ≤ 16777216 then .ok (.str (Txt.join a ys)) else .no
def strOfD : D → R Str
  | .str a => .ok a
  | _ => .no
def joinD (a : Str) (y : D) : R D := (starD y).bind fun ds => (strsOf ds).bind fun ys => joinW a ys
def splitD (a : Str) : D → R (List D)
  | .str b => if (b.length == 0) = false ∧ a.length + 2 ≤ sizeLine then .ok ((Txt.split a b).map .str) else .no
  | _ => .no
def splitMaxD (a : Str) : D → D → R (List D)
  | .str b, .int n => if (b.length == 0) = false ∧ -(2 ^ 63) ≤ n ∧ n < 2 ^ 63 ∧ a.length + 2 ≤ sizeLine then .ok ((Txt.splitMax a b n).map .str) else .no
  | _, _ => .no
def partD (a : Str) : D → R D
  | .str b => if (b.length == 0) = false ∧ a.length ≤ sizeLine then .ok (.tuple [.str (Txt.partition a b).1, .str (Txt.partition a b).2.1, .str (Txt.partition a b).2.2]) else .no
  | _ => .no
def upperD (a : Str) : R D := if a.length ≤ 5592405 then .ok (.str (Txt.upper a)) else .no
def fmtD : D → R D
  | .str y => if y.length ≤ sizeLine then .ok (.str y) else .no
  | .int i => if i.natAbs.log2 < 1920 then .ok (.str (toString i)) else .no
  | _ => .no
/-! ### further combinators -/
def cM0 (F : Str → R D) (f : Rho → R D) : Rho → R D := fun r => (f r).bind fun x => (strOfD x).bind F
def cM1 (F : Str → D → R D) (f g : Rho → R D) : Rho → R D := fun r => (f r).bind fun x => (strOfD x).bind fun a => (g r).bind fun y => F a y
def cM1F (F : Str → D → R (List D)) (f g : Rho → R D) : Rho → R (List D) := fun r => (f r).bind fun x => (strOfD x).bind fun a => (g r).bind fun y => F a y
def cM2F (F : Str → D → D → R (List D)) (f g h : Rho → R D) : Rho → R (List D) := fun r => (f r).bind fun x => (strOfD x).bind fun a => (g r).bind fun y => (h r).bind fun z => F a y z
def cCh (F G : D → D → R Bool) (f g h : Rho → R D) : Rho → R Bool := fun r => (f r).bind fun x => (g r).bind fun y => (F x y).bind fun b => if b then (h r).bind fun z => G y z else .ok false
abbrev OF := Rho → R (Option Int)
def cO0 : OF := fun _ => .ok none
def cO (f : Rho → R D) : OF := fun r => (f r).bind optD
def cSl (f : Rho → R D) (l h : OF) : Rho → R D := fun r => (f r).bind fun x => (l r).bind fun lo => (h r).bind fun hi => slD lo hi x
def cJ0 : Str → Rho → R Str := fun acc _ => .ok acc
def cJc (f : Rho → R D) (g : Str → Rho → R Str) : Str → Rho → R Str := fun acc r => (f r).bind fun x => (strOfD x).bind fun y => if (acc ++ y).length ≤ sizeLine then g (acc ++ y) r else .no
def cJ (g : Str → Rho → R Str) : Rho → R D := fun r => (g Str.empty r).bind fun s => .ok (.str s)

section
variable {X : Cx} {cm : Nat → Addr} {W : WX} {k : Nat} {e a b c : Expr} {f g h : Rho → R D} {pos : Pos}

theorem res_bind {K : PySem.W.Frag} {σ : St} {B : Addr → Prop} {H : Hp} {Q : VK} {α : Type} {x : R α} {F : α → R D} (nx : ∀ j, x ≠ .ex j) (h : Res K cm W σ B H (x.bind F) Q) : ∃ t, x = .ok t ∧ Res K cm W σ B H (F t) Q := by
  cases x with
  | ok t => exact ⟨t, rfl, h⟩
  | ex j => exact (nx j rfl).elim
  | no => exact (show False from h).elim
theorem resF_bind {K : PySem.W.Frag} {σ : St} {B : Addr → Prop} {H : Hp} {Q : VK} {α : Type} {x : R α} {F : α → R (List D)} (nx : ∀ j, x ≠ .ex j) (h : ResF K cm W σ B H (x.bind F) Q) : ∃ t, x = .ok t ∧ ResF K cm W σ B H (F t) Q := by
  cases x with
  | ok t => exact ⟨t, rfl, h⟩
  | ex j => exact (nx j rfl).elim
  | no => exact (show False from h).elim
theorem bind_nox {α β : Type} {x : R α} {F : α → R β} (h : ∀ j, x ≠ .ex j) (h2 : ∀ a j, F a ≠ .ex j) : ∀ j, x.bind F ≠ .ex j := fun j e => by
  cases x with
  | ok t => exact h2 t j e
  | ex i => exact h i rfl
  | no => cases e
theorem bools_nox : ∀ (ds : List D) j, bools ds ≠ .ex j
  | [], _ => fun e => by cases e
  | .bool b :: r, j => bind_nox (bools_nox r) (fun _ _ e => by cases e) j
  | .none :: _, _ => fun e => by cases e
  | .int _ :: _, _ => fun e => by cases e
  | .str _ :: _, _ => fun e => by cases e
  | .list _ :: _, _ => fun e => by cases e
  | .tuple _ :: _, _ => fun e => by cases e
  | .dict _ :: _, _ => fun e => by cases e
theorem ints_nox : ∀ (ds : List D) j, intsOf ds ≠ .ex j
  | [], _ => fun e => by cases e
  | .int b :: r, j => bind_nox (ints_nox r) (fun _ _ e => by cases e) j
  | .none :: _, _ => fun e => by cases e
  | .bool _ :: _, _ => fun e => by cases e
  | .str _ :: _, _ => fun e => by cases e
  | .list _ :: _, _ => fun e => by cases e
  | .tuple _ :: _, _ => fun e => by cases e
  | .dict _ :: _, _ => fun e => by cases e
theorem strs_nox : ∀ (ds : List D) j, strsOf ds ≠ .ex j
  | [], _ => fun e => by cases e
  | .str b :: r, j => bind_nox (strs_nox r) (fun _ _ e => by cases e) j
  | .none :: _, _ => fun e => by cases e
  | .bool _ :: _, _ => fun e => by cases e
  | .int _ :: _, _ => fun e => by cases e
  | .list _ :: _, _ => fun e => by cases e
  | .tuple _ :: _, _ => fun e => by cases e
  | .dict _ :: _, _ => fun e => by cases e
theorem bind_ok {α β : Type} {x : R α} {F : α → R β} {t : β} (h : x.bind F = .ok t) : ∃ a, x = .ok a ∧ F a = .ok t := by
  cases x with
  | ok a => exact ⟨a, rfl, h⟩
  | ex j => cases h
  | no => cases h
theorem bools_rp {K : PySem.W.Frag} {H : Hp} {B : Addr → Prop} : ∀ {ds : List D} {bs : List Bool} {vs : List V}, bools ds = .ok bs → RpAll K H B vs ds → vs = bs.map V.bl
  | [], _, _, h, r => by cases h; cases r; rfl
  | .bool b :: ds, _, _, h, r => by
    obtain ⟨bs, h1, h2⟩ := bind_ok (show (bools ds).bind (fun bs => R.ok (b :: bs)) = _ from h)
    cases h2
    cases r with
    | cons r1 r2 =>
      cases r1
      rw [bools_rp h1 r2]
      rfl
  | .none :: _, _, _, h, _ => nomatch h
  | .int _ :: _, _, _, h, _ => nomatch h
  | .str _ :: _, _, _, h, _ => nomatch h
  | .list _ :: _, _, _, h, _ => nomatch h
  | .tuple _ :: _, _, _, h, _ => nomatch h
  | .dict _ :: _, _, _, h, _ => nomatch h
theorem ints_rp {K : PySem.W.Frag} {H : Hp} {B : Addr → Prop} : ∀ {ds : List D} {bs : List Int} {vs : List V}, intsOf ds = .ok bs → RpAll K H B vs ds → vs = bs.map V.int
  | [], _, _, h, r => by cases h; cases r; rfl
  | .int b :: ds, _, _, h, r => by
    obtain ⟨bs, h1, h2⟩ := bind_ok (show (intsOf ds).bind (fun bs => R.ok (b :: bs)) = _ from h)
    cases h2
    cases r with
    | cons r1 r2 =>
      cases r1
      rw [ints_rp h1 r2]
      rfl
  | .none :: _, _, _, h, _ => nomatch h
  | .bool _ :: _, _, _, h, _ => nomatch h
  | .str _ :: _, _, _, h, _ => nomatch h
  | .list _ :: _, _, _, h, _ => nomatch h
  | .tuple _ :: _, _, _, h, _ => nomatch h
  | .dict _ :: _, _, _, h, _ => nomatch h
theorem strs_rp {K : PySem.W.Frag} {H : Hp} {B : Addr → Prop} : ∀ {ds : List D} {bs : List Str} {vs : List V}, strsOf ds = .ok bs → RpAll K H B vs ds → vs = bs.map V.str
  | [], _, _, h, r => by cases h; cases r; rfl
  | .str b :: ds, _, _, h, r => by
    obtain ⟨bs, h1, h2⟩ := bind_ok (show (strsOf ds).bind (fun bs => R.ok (b :: bs)) = _ from h)
    cases h2
    cases r with
    | cons r1 r2 =>
      cases r1
      rw [strs_rp h1 r2]
      rfl
  | .none :: _, _, _, h, _ => nomatch h
  | .bool _ :: _, _, _, h, _ => nomatch h
  | .int _ :: _, _, _, h, _ => nomatch h
  | .list _ :: _, _, _, h, _ => nomatch h
  | .tuple _ :: _, _, _, h, _ => nomatch h
  | .dict _ :: _, _, _, h, _ => nomatch h

/-! ### tests -/
theorem isE {α β : Type} {xs : List α} {ys : List β} (h : xs.length = ys.length) : (!xs.isEmpty) = !ys.isEmpty := by
  cases xs <;> cases ys <;> first | rfl | simp at h
theorem zt_of (ha : ZK X cm W a f) (he : ∀ whole, isTrue a X.env whole = (do let v ← whole; standAt a.pos; holding [v] (truthy v)) := by intro _; rfl) : ZT X cm W a (cT1 truD f) :=
  PT.imp (pt_truth ha he) (then1T fun σ H B x d Q hb rx q => by
    cases d with
    | none => rw [rx.non]; exact ⟨false, rfl, q H (Same.refl H)⟩
    | bool t => rw [rx.bl]; exact ⟨t, rfl, q H (Same.refl H)⟩
    | int i => rw [rx.int]; exact ⟨i != 0, rfl, q H (Same.refl H)⟩
    | str y =>
      rw [rx.str]
      obtain ⟨t, e, q⟩ := resT_ok q (fun j e => by
        unfold truD at e
        simp only at e
        split at e <;> cases e)
      obtain ⟨hz, e⟩ := rs_ite e
      cases e
      exact ⟨_, ⟨hz, rfl⟩, q⟩
    | list ds =>
      obtain ⟨p, xs, rfl, hs, r⟩ := rx.lstE
      exact ⟨!ds.isEmpty, .inl ⟨xs, hs, (isE r.length).symm⟩, q H (Same.refl H)⟩
    | tuple ds =>
      obtain ⟨p, xs, rfl, hs, r⟩ := rx.tup
      exact ⟨!ds.isEmpty, .inr (.inl ⟨xs, hs, (isE r.length).symm⟩), q H (Same.refl H)⟩
    | dict _ => exact (show False from q).elim)
theorem zt_not {f : Rho → R Bool} (ha : ZT X cm W a f) : ZT X cm W (.UnaryOp .Not a pos) (cNot f) := PT.imp (pt_not ha) fun σ H Q ⟨C, r, E, q⟩ => ⟨C, r, E, pst_bind q⟩
theorem zw_and1 {f : Rho → R Bool} (ha : ZT X cm W a f) : ZW X cm W (.BoolOp .And [a] pos) f := pw_and1 ha
theorem zw_or1 {f : Rho → R Bool} (ha : ZT X cm W a f) : ZW X cm W (.BoolOp .Or [a] pos) f := pw_or1 ha
theorem zw_and {rest : List Expr} {f g : Rho → R Bool} (ha : ZT X cm W a f) (hb : ZW X cm W (.BoolOp .And (b :: rest) pos) g) : ZW X cm W (.BoolOp .And (a :: b :: rest) pos) (cAnd f g) := PW.imp (pw_and ha hb) fun σ H Q ⟨C, r, E, q⟩ =>
  ⟨C, r, E, pst_imp (pst_bind q) fun t q H1 s1 => by
    cases t with
    | true => exact ⟨C, r, E.go s1, pst_imp (pst_go q s1) fun t q H2 s2 => q H2 (s1.trans s2)⟩
    | false => exact q H1 s1⟩
theorem zw_or {rest : List Expr} {f g : Rho → R Bool} (ha : ZT X cm W a f) (hb : ZW X cm W (.BoolOp .Or (b :: rest) pos) g) : ZW X cm W (.BoolOp .Or (a :: b :: rest) pos) (cOr f g) := PW.imp (pw_or ha hb) fun σ H Q ⟨C, r, E, q⟩ =>
  ⟨C, r, E, pst_imp (pst_bind q) fun t q H1 s1 => by
    cases t with
    | false => exact ⟨C, r, E.go s1, pst_imp (pst_go q s1) fun t q H2 s2 => q H2 (s1.trans s2)⟩
    | true => exact q H1 s1⟩
theorem zt_w {f : Rho → R Bool} (h : ZW X cm W e f) : ZT X cm W e f := h.pt
theorem ze_one {op} (h : ZE X cm W a f) : ZE X cm W (.BoolOp op [a] pos) f := pe_one h
theorem ze_and {rest : List Expr} (ha : ZE X cm W a f) (hb : ZE X cm W (.BoolOp .And (b :: rest) pos) g) : ZE X cm W (.BoolOp .And (a :: b :: rest) pos) (cAndV f g) := PE.imp (pe_and ha hb) fun σ H Q ⟨C, r, E, q⟩ =>
  ⟨C, r, E, pst_imp (pst_bind q) fun d q v H1 s1 r1 => by
    cases d with
    | bool t =>
      cases r1
      refine ⟨t, rfl, ?_⟩
      cases t with
      | true => exact ⟨C, r, E.go s1, pst_imp (pst_go q s1) fun t q v H2 s2 => q v H2 (s1.trans s2)⟩
      | false => exact q (.bl false) H1 s1 (.bl false)
    | _ => exact (show False from q).elim⟩
theorem ze_or {rest : List Expr} (ha : ZE X cm W a f) (hb : ZE X cm W (.BoolOp .Or (b :: rest) pos) g) : ZE X cm W (.BoolOp .Or (a :: b :: rest) pos) (cOrV f g) := PE.imp (pe_or ha hb) fun σ H Q ⟨C, r, E, q⟩ =>
  ⟨C, r, E, pst_imp (pst_bind q) fun d q v H1 s1 r1 => by
    cases d with
    | bool t =>
      cases r1
      refine ⟨t, rfl, ?_⟩
      cases t with
      | false => exact ⟨C, r, E.go s1, pst_imp (pst_go q s1) fun t q v H2 s2 => q v H2 (s1.trans s2)⟩
      | true => exact q (.bl true) H1 s1 (.bl true)
    | _ => exact (show False from q).elim⟩
def cNotV (f : Rho → R D) : Rho → R D := fun r => (f r).bind fun x => (boolD x).bind fun b => .ok (.bool (!b))
theorem ze_not (ha : ZE X cm W a f) : ZE X cm W (.UnaryOp .Not a pos) (cNotV f) := PE.imp (pe_not ha) fun σ H Q ⟨C, r, E, q⟩ =>
  ⟨C, r, E, pst_imp (pst_bind q) fun d q v H1 s1 r1 => by
    cases d with
    | bool t =>
      cases r1
      exact ⟨t, rfl, q (.bl (!t)) H1 s1 (.bl (!t))⟩
    | _ => exact (show False from q).elim⟩
theorem ze_if {t : Rho → R Bool} (hc : ZT X cm W c t) (ha : ZE X cm W a f) (hb : ZE X cm W b g) : ZE X cm W (.IfExp c a b pos) (cIf t f g) := PE.imp (pe_ifExp hc ha hb) fun σ H Q ⟨C, r, E, q⟩ =>
  ⟨C, r, E, pst_imp (pst_bind q) fun t q H1 s1 => by
    cases t with
    | true => exact ⟨C, r, E.go s1, pst_imp (pst_go q s1) fun t q v H2 s2 => q v H2 (s1.trans s2)⟩
    | false => exact ⟨C, r, E.go s1, pst_imp (pst_go q s1) fun t q v H2 s2 => q v H2 (s1.trans s2)⟩⟩
theorem zt_chain {op op' : CmpOp} {F G : D → D → R Bool} (h1 : Cmp X op F) (h2 : Cmp X op' G) (ha : ZK X cm W a f) (hb : ZK X cm W b g) (hc : ZK X cm W c h) (n1 : ∀ d e j, F d e ≠ .ex j) (n2 : ∀ d e j, G d e ≠ .ex j)
    (hm : lastMarks [op, op'] [b, c] = false := by with_unfolding_all rfl) : ZT X cm W (.Compare a [op, op'] [b, c] pos) (cCh F G f g h) := by
  obtain ⟨r1, o1, k1⟩ := h1
  obtain ⟨r2, o2, k2⟩ := h2
  refine PT.imp (pt_chain o1 o2 ha hb hc hm) fun σ H Q ⟨C, r, E, q⟩ => ⟨C, r, E, pst_imp (pst_bind q) fun d q v H1 s1 rv => ⟨C, r, E.go s1, pst_imp (pst_bind (pst_go q s1)) fun e q w H2 s2 rw' => ?_⟩⟩
  have q2 : pst cm W σ H1 ((F d e).bind fun b => if b then (h r).bind fun z => G e z else .ok false) fun b => ∀ H', Same H H' → Q b H' := q
  cases hF : F d e with
  | ex j => exact (n1 d e j hF).elim
  | no => rw [hF] at q2; exact (show False from q2).elim
  | ok t =>
    rw [hF] at q2
    refine k1 H2 _ v w d e _ (rv.mono s2 (fun _ z => .inl z)) rw' ⟨t, hF, t, rfl, ?_⟩
    cases t with
    | false => exact ⟨false, rfl, q2 H2 (s1.trans s2)⟩
    | true =>
      refine ⟨C, r, E.go (s1.trans s2), pst_imp (pst_bind (pst_go q2 s2)) fun z q3 y H3 s3 ry => ?_⟩
      cases hG : G e z with
      | ex j => exact (n2 e z j hG).elim
      | no =>
        have q4 : pst cm W σ H2 (G e z) fun b => ∀ H', Same H H' → Q b H' := q3
        rw [hG] at q4
        exact (show False from q4).elim
      | ok t =>
        have q4 : pst cm W σ H2 (G e z) fun b => ∀ H', Same H H' → Q b H' := q3
        rw [hG] at q4
        exact k2 H3 _ w y e z _ (rw'.mono s3 (fun _ z => .inl z)) ry ⟨t, hG, t, rfl, q4 H3 ((s1.trans s2).trans s3)⟩

/-! ### subscripts -/
theorem atI_rp {K : PySem.W.Frag} {H : Hp} {B : Addr → Prop} {vs : List V} {ds : List D} {i : Int} {d : D} (r : RpAll K H B vs ds) (h : atI ds i = some d) : ∃ v, atI vs i = some v ∧ Rp K H B v d := by
  unfold atI at h ⊢
  rw [r.length]
  cases hj : ixN ds.length i with
  | none => rw [hj] at h; cases h
  | some j =>
    rw [hj] at h
    exact r.get' h
theorem atD_ok {ds : List D} {i : Int} {σ : St} {K : PySem.W.Frag} {B : Addr → Prop} {H : Hp} {Q : VK} (h : Res K cm W σ B H (atD ds i) Q) : ∃ d, atI ds i = some d ∧ Res K cm W σ B H (.ok d) Q := by
  unfold atD at h
  cases e : atI ds i with
  | none => rw [e] at h; exact (show False from h).elim
  | some d => rw [e] at h; exact ⟨d, rfl, h⟩
theorem Rp.ofAll {K : PySem.W.Frag} {H : Hp} {B : Addr → Prop} : True := trivial
theorem op2_ix (hs : PlainIx b := by exact fun _ _ => rfl) : Op2 X cm W a b (.Subscript a b pos) ixD :=
  ⟨_, fun _ _ ha hb => pe_ix ix_seq ha hb hs, fun σ H B x y d e Q hb rx ry q => by
    cases e with
    | int i =>
      cases d with
      | list ds =>
        obtain ⟨p, xs, rfl, h1, r1⟩ := rx.lstE
        obtain ⟨d, hd, q⟩ := atD_ok (show Res X.K cm W σ B H (atD ds i) Q from q)
        obtain ⟨v, hv, rv⟩ := atI_rp r1 hd
        exact .inl ⟨p, xs, i, v, rfl, ry.int, h1, hv, q.ok rv⟩
      | tuple ds =>
        obtain ⟨p, xs, rfl, h1, r1⟩ := rx.tup
        obtain ⟨d, hd, q⟩ := atD_ok (show Res X.K cm W σ B H (atD ds i) Q from q)
        obtain ⟨v, hv, rv⟩ := atI_rp r1 hd
        exact .inr (.inl ⟨p, xs, i, v, rfl, ry.int, h1, hv, q.ok rv⟩)
      | str z =>
        obtain ⟨hz, q⟩ := res_ite q
        cases hc : atI z.cps.toList i with
        | none => rw [hc] at q; exact (show False from q).elim
        | some c =>
          rw [hc] at q
          exact .inr (.inr ⟨z, i, c, rx.str, ry.int, hz, hc, q.ok (.str _)⟩)
      | _ => exact (show False from q).elim
    | _ => cases d <;> exact (show False from q).elim⟩
theorem ze_ix (ha : ZK X cm W a f) (hb : ZK X cm W b g) (hs : PlainIx b := by exact fun _ _ => rfl) : ZE X cm W (.Subscript a b pos) (cB2 ixD f g) := ze_of2 (op2_ix hs) ha hb
theorem cut_rp {K : PySem.W.Frag} {H : Hp} {B : Addr → Prop} {vs : List V} {ds : List D} (r : RpAll K H B vs ds) (lo hi : Option Int) : RpAll K H B (cutV vs lo hi) (cutD ds lo hi) := by
  unfold cutV cutD
  rw [r.length]
  exact (r.drop _).take _
/-- an end of a slice -/
def tO (K : PySem.W.Frag) (cm : Nat → Addr) (W : WX) (f : OF) : TO := fun σ H Q => ∃ C r, EnvOk K C H r σ ∧ pst cm W σ H (f r) fun o => ∀ H', Same H H' → Q o H'
abbrev ZO (X : Cx) (cm : Nat → Addr) (W : WX) (e : Option Expr) (f : OF) : Prop := PO X e (tO X.K cm W f)
theorem PO.imp {e : Option Expr} {t t' : TO} (h : PO X e t) (i : ∀ σ H Q, t' σ H Q → t σ H Q) : PO X e t' := ⟨fun pins s σ H Q I q => h.run pins s σ H Q I (i σ H Q q)⟩
theorem zo_none : ZO X cm W none cO0 := PO.imp po_none fun σ H Q ⟨C, r, E, q⟩ => q H (Same.refl H)
theorem zo_some (ha : ZE X cm W a f) : ZO X cm W (some a) (cO f) := PO.imp (po_some ha) fun σ H Q ⟨C, r, E, q⟩ => ⟨C, r, E, pst_imp (pst_bind q) fun d q v H1 s1 r1 => by
  cases d with
  | int i => cases r1; exact ⟨i, rfl, q H1 s1⟩
  | _ => exact (show False from q).elim⟩
theorem ze_sl {lo hi : Option Expr} {p2 : Pos} {l u : OF} (ha : ZK X cm W a f) (hl : ZO X cm W lo l) (hu : ZO X cm W hi u) : ZE X cm W (.Subscript a (.Slice lo hi none p2) pos) (cSl f l u) :=
  PE.imp (pe_slice (sl_list.or (sl_str.or sl_tupA)) ha hl hu) fun σ H Q ⟨C, r, E, q⟩ => ⟨C, r, E, pst_imp (pst_bind q) fun d q v H1 s1 r1 => ⟨C, r, E.go s1, pst_imp (pst_bind (pst_go q s1)) fun lo q H2 s2 => ⟨C, r, E.go (s1.trans s2), pst_imp (pst_bind (pst_go q s2)) fun hi q H3 s3 => by
    have rx := r1.mono (B' := BB C r σ) (s2.trans s3) (fun _ z => .inl z)
    have hb := E.nb.go ((s1.trans s2).trans s3)
    have q : Res X.K cm W σ (BB C r σ) H3 (slD lo hi d) Q := pst_imp (pst_go q s3) fun d q v H4 s4 => q v H4 (((s1.trans s2).trans s3).trans s4)
    cases d with
    | list ds =>
      obtain ⟨p, xs, rfl, h1, r1⟩ := rx.lstE
      exact .inl ⟨p, xs, rfl, h1, fun p hp => q.lst hb (cut_rp r1 lo hi) hp⟩
    | str z =>
      obtain ⟨hz, q⟩ := res_ite q
      exact .inr (.inl ⟨z, rx.str, hz, q.ok (.str _)⟩)
    | tuple ds =>
      obtain ⟨p, xs, rfl, h1, r1⟩ := rx.tup
      refine .inr (.inr ⟨p, xs, rfl, h1, fun hw => ?_, fun _ p hp => q.tup (cut_rp r1 lo hi) hp⟩)
      have e : cutD ds lo hi = ds := by
        unfold cutD
        rw [← r1.length, hw.1, hw.2, List.drop_zero, Nat.sub_zero, r1.length, List.take_length]
      have q' : Res X.K cm W σ (BB C r σ) H3 (.ok (.tuple (cutD ds lo hi))) Q := q
      rw [e] at q'
      exact q'.ok (.tup h1 r1)
    | _ => exact (show False from q).elim⟩⟩⟩

/-! ### builtins by name -/
theorem CallR.or {ff : Value} {r r' : List V → Hp → VK → Prop} (h : CallR X ff r) (h' : CallR X ff r') : CallR X ff (fun xs H Q => r xs H Q ∨ r' xs H Q) := by
  intro pins s σ H xs us Q I rv q
  rcases q with q | q
  · exact h pins s σ H xs us Q I rv q
  · exact h' pins s σ H xs us Q I rv q
section
variable {x : Str} {p : Pos} {id T : String} {rr : List V → Hp → VK → Prop}
theorem ze_b1 {F : D → R D} (hc : CallR X (.builtin id) rr) (hk : ∀ σ H B x d Q, NB B H → RpC X.K H B x d → Res X.K cm W σ B H (F d) Q → rr [x] H Q) (hv : bootBuiltins x = some (.builtin id)) (ha : ZK X cm W a f) (hm : X.mg x = none) (hg : Gl X x := by rfl)
    (hn : x ≠ "__name__" := by decide) (hdb : (x == ("__debug__" : Str)) = false := by decide) (he : starEach (a :: []) X.env = (false, eval a X.env) :: starEach [] X.env := by rfl) (hpl : (backTo pos (starEach [] X.env)).any (·.1) = false := by rfl) :
    ZE X cm W (.Call (.Name x p) [a] [] pos) (cB1 F f) := PE.imp (pe_callB hc hg hm hv (pa_cons ha pa_nil he) hn hdb he hpl) (then1 (kk := fun x H Q => rr [x] H Q) hk)
theorem ze_t1 {F : D → R D} (hc : CallR X (.type T) rr) (hk : ∀ σ H B x d Q, NB B H → RpC X.K H B x d → Res X.K cm W σ B H (F d) Q → rr [x] H Q) (hv : bootBuiltins x = some (.type T)) (ha : ZK X cm W a f) (hm : X.mg x = none) (hg : Gl X x := by rfl)
    (hn : x ≠ "__name__" := by decide) (hdb : (x == ("__debug__" : Str)) = false := by decide) (he : starEach (a :: []) X.env = (false, eval a X.env) :: starEach [] X.env := by rfl) (hpl : (backTo pos (starEach [] X.env)).any (·.1) = false := by rfl) :
    ZE X cm W (.Call (.Name x p) [a] [] pos) (cB1 F f) := PE.imp (pe_callTy hc hg hm hv (pa_cons ha pa_nil he) hn hdb he hpl) (then1 (kk := fun x H Q => rr [x] H Q) hk)
theorem op1_b1 {F : D → R D} (hc : CallR X (.builtin id) rr) (hk : ∀ σ H B x d Q, NB B H → RpC X.K H B x d → Res X.K cm W σ B H (F d) Q → rr [x] H Q) (hv : bootBuiltins x = some (.builtin id)) (hm : X.mg x = none) (hg : Gl X x := by rfl)
    (hn : x ≠ "__name__" := by decide) (hdb : (x == ("__debug__" : Str)) = false := by decide) (he : starEach (a :: []) X.env = (false, eval a X.env) :: starEach [] X.env := by rfl) (hpl : (backTo pos (starEach [] X.env)).any (·.1) = false := by rfl) :
    Op1 X cm W a (.Call (.Name x p) [a] [] pos) F := ⟨fun x H Q => rr [x] H Q, fun _ ha => pe_callB hc hg hm hv (pa_cons ha pa_nil he) hn hdb he hpl, hk⟩
theorem op1_t1 {F : D → R D} (hc : CallR X (.type T) rr) (hk : ∀ σ H B x d Q, NB B H → RpC X.K H B x d → Res X.K cm W σ B H (F d) Q → rr [x] H Q) (hv : bootBuiltins x = some (.type T)) (hm : X.mg x = none) (hg : Gl X x := by rfl)
    (hn : x ≠ "__name__" := by decide) (hdb : (x == ("__debug__" : Str)) = false := by decide) (he : starEach (a :: []) X.env = (false, eval a X.env) :: starEach [] X.env := by rfl) (hpl : (backTo pos (starEach [] X.env)).any (·.1) = false := by rfl) :
    Op1 X cm W a (.Call (.Name x p) [a] [] pos) F := ⟨fun x H Q => rr [x] H Q, fun _ ha => pe_callTy hc hg hm hv (pa_cons ha pa_nil he) hn hdb he hpl, hk⟩
theorem zf_t1 {F : D → R (List D)} (hc : CallR X (.type T) rr) (hk : ∀ σ H B x d Q, NB B H → RpC X.K H B x d → ResF X.K cm W σ B H (F d) Q → rr [x] H Q) (hv : bootBuiltins x = some (.type T)) (ha : ZK X cm W a f) (hm : X.mg x = none) (hg : Gl X x := by rfl)
    (hn : x ≠ "__name__" := by decide) (hdb : (x == ("__debug__" : Str)) = false := by decide) (he : starEach (a :: []) X.env = (false, eval a X.env) :: starEach [] X.env := by rfl) (hpl : (backTo pos (starEach [] X.env)).any (·.1) = false := by rfl) :
    ZF X cm W (.Call (.Name x p) [a] [] pos) (fun r => (f r).bind F) := PE.imp (pe_callTy hc hg hm hv (pa_cons ha pa_nil he) hn hdb he hpl) (then1F (kk := fun x H Q => rr [x] H Q) hk)
end
section
variable {p : Pos} (ha : ZK X cm W a f)
theorem op1_len (hm : X.mg "len" = none) (hg : Gl X "len" := by rfl) (he : starEach (a :: []) X.env = (false, eval a X.env) :: starEach [] X.env := by rfl) : Op1 X cm W a (.Call (.Name "len" p) [a] [] pos) lenD :=
  op1_b1 (CallR.or call_len_seq call_len_str) (fun σ H B x d Q hb rx q => by
    cases d with
    | list ds =>
      obtain ⟨p, xs, rfl, h1, r1⟩ := rx.lstE
      have q : Q (.int (ds.length : Int)) H := (show Res X.K cm W σ B H (.ok (.int ds.length)) Q from q).ok (.int _)
      rw [← r1.length] at q
      exact .inl ⟨p, xs, rfl, .inl h1, q⟩
    | tuple ds =>
      obtain ⟨p, xs, rfl, h1, r1⟩ := rx.tup
      have q : Q (.int (ds.length : Int)) H := (show Res X.K cm W σ B H (.ok (.int ds.length)) Q from q).ok (.int _)
      rw [← r1.length] at q
      exact .inl ⟨p, xs, rfl, .inr h1, q⟩
    | str z =>
      obtain ⟨hz, q⟩ := res_ite q
      exact .inr ⟨z, by rw [rx.str], hz, q.ok (.int _)⟩
    | _ => exact (show False from q).elim) PySem.boot_len hm hg (by decide) (by decide) he rfl
theorem ze_len (ha : ZK X cm W a f) (hm : X.mg "len" = none) (hg : Gl X "len" := by rfl) (he : starEach (a :: []) X.env = (false, eval a X.env) :: starEach [] X.env := by rfl) : ZE X cm W (.Call (.Name "len" p) [a] [] pos) (cB1 lenD f) := ze_of1 (op1_len hm hg he) ha
theorem op1_abs (hm : X.mg "abs" = none) (hg : Gl X "abs" := by rfl) (he : starEach (a :: []) X.env = (false, eval a X.env) :: starEach [] X.env := by rfl) : Op1 X cm W a (.Call (.Name "abs" p) [a] [] pos) absD :=
  op1_b1 call_abs (fun σ H B x d Q hb rx q => by
    cases d with
    | int i => exact ⟨i, by rw [rx.int], (show Res X.K cm W σ B H (.ok (.int (if i < 0 then -i else i))) Q from q).ok (.int _)⟩
    | _ => exact (show False from q).elim) (by decide +kernel) hm hg (by decide) (by decide) he rfl
theorem ze_abs (ha : ZK X cm W a f) (hm : X.mg "abs" = none) (hg : Gl X "abs" := by rfl) (he : starEach (a :: []) X.env = (false, eval a X.env) :: starEach [] X.env := by rfl) : ZE X cm W (.Call (.Name "abs" p) [a] [] pos) (cB1 absD f) := ze_of1 (op1_abs hm hg he) ha
theorem op1_toint (hm : X.mg "int" = none) (hg : Gl X "int" := by rfl) (he : starEach (a :: []) X.env = (false, eval a X.env) :: starEach [] X.env := by rfl) : Op1 X cm W a (.Call (.Name "int" p) [a] [] pos) intD :=
  op1_t1 (CallR.or call_int1 call_int_str) (fun σ H B x d Q hb rx q => by
    cases d with
    | int i => exact .inl (.inl ⟨i, by rw [rx.int], (show Res X.K cm W σ B H (.ok (.int i)) Q from q).ok (.int _)⟩)
    | bool i => exact .inl (.inr ⟨i, by rw [rx.bl], (show Res X.K cm W σ B H (.ok (.int (if i then 1 else 0))) Q from q).ok (.int _)⟩)
    | str z =>
      have q' : Res X.K cm W σ B H (intS z) Q := q
      unfold intS at q'
      cases e : PySem.intText? z with
      | none => rw [e] at q'; exact (show False from q').elim
      | some n =>
        rw [e] at q'
        obtain ⟨hz, q'⟩ := res_ite q'
        exact .inr ⟨z, n, by rw [rx.str], e, hz, q'.ok (.int _)⟩
    | _ => exact (show False from q).elim) (by decide +kernel) hm hg (by decide) (by decide) he rfl
theorem ze_toint (ha : ZK X cm W a f) (hm : X.mg "int" = none) (hg : Gl X "int" := by rfl) (he : starEach (a :: []) X.env = (false, eval a X.env) :: starEach [] X.env := by rfl) : ZE X cm W (.Call (.Name "int" p) [a] [] pos) (cB1 intD f) := ze_of1 (op1_toint hm hg he) ha
theorem op1_tostr (hm : X.mg "str" = none) (hg : Gl X "str" := by rfl) (he : starEach (a :: []) X.env = (false, eval a X.env) :: starEach [] X.env := by rfl) : Op1 X cm W a (.Call (.Name "str" p) [a] [] pos) strD :=
  op1_t1 (CallR.or call_str_int SkE.call_str_str) (fun σ H B x d Q hb rx q => by
    cases d with
    | int i =>
      obtain ⟨hz, q⟩ := res_ite q
      exact .inl ⟨i, by rw [rx.int], hz, q.ok (.str _)⟩
    | str i => exact .inr ⟨i, by rw [rx.str], (show Res X.K cm W σ B H (.ok (.str i)) Q from q).ok (.str _)⟩
    | _ => exact (show False from q).elim) (by decide +kernel) hm hg (by decide) (by decide) he rfl
theorem ze_tostr (ha : ZK X cm W a f) (hm : X.mg "str" = none) (hg : Gl X "str" := by rfl) (he : starEach (a :: []) X.env = (false, eval a X.env) :: starEach [] X.env := by rfl) : ZE X cm W (.Call (.Name "str" p) [a] [] pos) (cB1 strD f) := ze_of1 (op1_tostr hm hg he) ha
theorem op1_all (A : Amb X W k) (hm : X.mg "all" = none) (hg : Gl X "all" := by rfl) (he : starEach (a :: []) X.env = (false, eval a X.env) :: starEach [] X.env := by rfl) : Op1 X cm W a (.Call (.Name "all" p) [a] [] pos) allD :=
  op1_b1 (cr_all A.calm) (fun σ H B x d Q hb rx q => by
    cases d with
    | list ds =>
      obtain ⟨p, xs, rfl, h1, r1⟩ := rx.lstE
      obtain ⟨bs, e, q⟩ := res_bind (bools_nox ds) (show Res X.K cm W σ B H ((bools ds).bind fun bs => .ok (.bool (bs.all id))) Q from q)
      exact ⟨p, bs, rfl, by rw [← bools_rp e r1]; exact h1, q.ok (.bl _)⟩
    | _ => exact (show False from q).elim) (by decide +kernel) hm hg (by decide) (by decide) he rfl
theorem ze_all (A : Amb X W k) (ha : ZK X cm W a f) (hm : X.mg "all" = none) (hg : Gl X "all" := by rfl) (he : starEach (a :: []) X.env = (false, eval a X.env) :: starEach [] X.env := by rfl) : ZE X cm W (.Call (.Name "all" p) [a] [] pos) (cB1 allD f) := ze_of1 (op1_all A hm hg he) ha
theorem op1_any (A : Amb X W k) (hm : X.mg "any" = none) (hg : Gl X "any" := by rfl) (he : starEach (a :: []) X.env = (false, eval a X.env) :: starEach [] X.env := by rfl) : Op1 X cm W a (.Call (.Name "any" p) [a] [] pos) anyD :=
  op1_b1 (cr_any A.calm) (fun σ H B x d Q hb rx q => by
    cases d with
    | list ds =>
      obtain ⟨p, xs, rfl, h1, r1⟩ := rx.lstE
      obtain ⟨bs, e, q⟩ := res_bind (bools_nox ds) (show Res X.K cm W σ B H ((bools ds).bind fun bs => .ok (.bool (bs.any id))) Q from q)
      exact ⟨p, bs, rfl, by rw [← bools_rp e r1]; exact h1, q.ok (.bl _)⟩
    | _ => exact (show False from q).elim) (by decide +kernel) hm hg (by decide) (by decide) he rfl
theorem ze_any (A : Amb X W k) (ha : ZK X cm W a f) (hm : X.mg "any" = none) (hg : Gl X "any" := by rfl) (he : starEach (a :: []) X.env = (false, eval a X.env) :: starEach [] X.env := by rfl) : ZE X cm W (.Call (.Name "any" p) [a] [] pos) (cB1 anyD f) := ze_of1 (op1_any A hm hg he) ha
theorem op1_sum (A : Amb X W k) (hm : X.mg "sum" = none) (hg : Gl X "sum" := by rfl) (he : starEach (a :: []) X.env = (false, eval a X.env) :: starEach [] X.env := by rfl) : Op1 X cm W a (.Call (.Name "sum" p) [a] [] pos) sumD :=
  op1_b1 (cr_sum A.calm) (fun σ H B x d Q hb rx q => by
    cases d with
    | list ds =>
      obtain ⟨p, xs, rfl, h1, r1⟩ := rx.lstE
      obtain ⟨bs, e, q⟩ := res_bind (ints_nox ds) (show Res X.K cm W σ B H ((intsOf ds).bind fun bs => .ok (.int bs.sum)) Q from q)
      exact ⟨p, bs, rfl, by rw [← ints_rp e r1]; exact h1, q.ok (.int _)⟩
    | _ => exact (show False from q).elim) (by decide +kernel) hm hg (by decide) (by decide) he rfl
theorem ze_sum (A : Amb X W k) (ha : ZK X cm W a f) (hm : X.mg "sum" = none) (hg : Gl X "sum" := by rfl) (he : starEach (a :: []) X.env = (false, eval a X.env) :: starEach [] X.env := by rfl) : ZE X cm W (.Call (.Name "sum" p) [a] [] pos) (cB1 sumD f) := ze_of1 (op1_sum A hm hg he) ha
theorem op1_tuple (hm : X.mg "tuple" = none) (hg : Gl X "tuple" := by rfl) (he : starEach (a :: []) X.env = (false, eval a X.env) :: starEach [] X.env := by rfl) : Op1 X cm W a (.Call (.Name "tuple" p) [a] [] pos) tupD :=
  op1_t1 call_tuple_of (fun σ H B x d Q hb rx q => by
    cases d with
    | list ds =>
      obtain ⟨p, xs, rfl, h1, r1⟩ := rx.lstE
      exact ⟨p, xs, rfl, .inl ⟨h1, fun l hl => (show Res X.K cm W σ B H (.ok (.tuple ds)) Q from q).tup r1 hl⟩⟩
    | tuple ds =>
      obtain ⟨p, xs, rfl, h1, r1⟩ := rx.tup
      exact ⟨p, xs, rfl, .inr ⟨h1, (show Res X.K cm W σ B H (.ok (.tuple ds)) Q from q).ok (.tup h1 r1)⟩⟩
    | _ => exact (show False from q).elim) (by decide +kernel) hm hg (by decide) (by decide) he rfl
theorem ze_tuple (ha : ZK X cm W a f) (hm : X.mg "tuple" = none) (hg : Gl X "tuple" := by rfl) (he : starEach (a :: []) X.env = (false, eval a X.env) :: starEach [] X.env := by rfl) : ZE X cm W (.Call (.Name "tuple" p) [a] [] pos) (cB1 tupD f) := ze_of1 (op1_tuple hm hg he) ha
theorem zf_list (ha : ZK X cm W a f) (hm : X.mg "list" = none) (hg : Gl X "list" := by rfl) (he : starEach (a :: []) X.env = (false, eval a X.env) :: starEach [] X.env := by rfl) : ZF X cm W (.Call (.Name "list" p) [a] [] pos) (fun r => (f r).bind listD) :=
  zf_t1 call_list_of (fun σ H B x d Q hb rx q => by
    cases d with
    | list ds =>
      obtain ⟨p, xs, rfl, h1, r1⟩ := rx.lstE
      exact ⟨p, xs, rfl, .inl h1, fun l hl => (show ResF X.K cm W σ B H (.ok ds) Q from q).lst r1 hl⟩
    | tuple ds =>
      obtain ⟨p, xs, rfl, h1, r1⟩ := rx.tup
      exact ⟨p, xs, rfl, .inr h1, fun l hl => (show ResF X.K cm W σ B H (.ok ds) Q from q).lst r1 hl⟩
    | _ => exact (show False from q).elim) (by decide +kernel) ha hm hg (by decide) (by decide) he rfl
end

/-! ### methods of texts -/
theorem pst_str {σ : St} {H : Hp} {β : Type} {d : D} {F : Str → R β} {p : β → Prop} (h : pst cm W σ H ((strOfD d).bind F) p) : ∃ a, d = .str a ∧ pst cm W σ H (F a) p := by
  cases d with
  | str a => exact ⟨a, rfl, h⟩
  | _ => exact (show False from h).elim
theorem pst_ite {σ : St} {H : Hp} {β : Type} {c : Prop} [Decidable c] {x : R β} {p : β → Prop} (h : pst cm W σ H (if c then x else .no) p) : c ∧ pst cm W σ H x p := by
  by_cases hp : c
  · rw [if_pos hp] at h
    exact ⟨hp, h⟩
  · rw [if_neg hp] at h
    exact (show False from h).elim
section
variable {o : Expr} {apos cpos : Pos}
theorem zf_split (ho : ZK X cm W o f) (he : ZK X cm W e g) (hs : starEach [e] X.env = [(false, eval e X.env)] := by rfl) (hbase : attributeBase o "split" X.env (eval o X.env) = eval o X.env := by rfl) (hline : (apos.endLine == pos.line) = true := by rfl) :
    ZF X cm W (.Call (.Attribute o "split" apos) [e] [] pos) (cM1F splitD f g) :=
  PE.imp (pe_split ho he hs hbase hline) fun σ H Q ⟨C, r, E, q⟩ => ⟨C, r, E, pst_imp (pst_bind q) fun d q v H1 s1 r1 => by
    obtain ⟨z, rfl, q⟩ := pst_str q
    refine ⟨⟨z, r1.str⟩, C, r, E.go s1, pst_imp (pst_bind (pst_go q s1)) fun d q w H2 s2 r2 => ?_⟩
    cases d with
    | str y =>
      obtain ⟨hc, q⟩ := pst_ite q
      exact ⟨z, y, r1.str, by rw [r2.str], hc.1, hc.2, fun p hp => q p _ _ ((s1.trans s2).trans (same_upd hp)) ((s1.trans s2).free hp) upd_same (.strs _)⟩
    | _ => exact (show False from q).elim⟩
theorem ze_part (ho : ZK X cm W o f) (he : ZK X cm W e g) (hs : starEach [e] X.env = [(false, eval e X.env)] := by rfl) (hbase : attributeBase o "partition" X.env (eval o X.env) = eval o X.env := by rfl) (hline : (apos.endLine == pos.line) = true := by rfl) :
    ZE X cm W (.Call (.Attribute o "partition" apos) [e] [] pos) (cM1 partD f g) :=
  PE.imp (pe_partition ho he hs hbase hline) fun σ H Q ⟨C, r, E, q⟩ => ⟨C, r, E, pst_imp (pst_bind q) fun d q v H1 s1 r1 => by
    obtain ⟨z, rfl, q⟩ := pst_str q
    refine ⟨⟨z, r1.str⟩, C, r, E.go s1, pst_imp (pst_bind (pst_go q s1)) fun d q w H2 s2 r2 => ?_⟩
    cases d with
    | str y =>
      obtain ⟨hc, q⟩ := pst_ite q
      exact ⟨z, y, r1.str, by rw [r2.str], hc.1, hc.2, fun p hp => q (.ref p) _ ((s1.trans s2).trans (same_upd hp)) (.tup (.inl (.inl upd_same)) (.cons (.str _) (.cons (.str _) (.cons (.str _) .nil))))⟩
    | _ => exact (show False from q).elim⟩
theorem pst_nox {σ : St} {H : Hp} {α β : Type} {x : R α} {F : α → R β} {p : β → Prop} (nx : ∀ j, x ≠ .ex j) (h : pst cm W σ H (x.bind F) p) : ∃ t, x = .ok t ∧ pst cm W σ H (F t) p := by
  cases x with
  | ok t => exact ⟨t, rfl, h⟩
  | ex j => exact (nx j rfl).elim
  | no => exact (show False from h).elim
theorem starD_rp {K : PySem.W.Frag} {H : Hp} {B : Addr → Prop} {v : V} {d : D} {ds : List D} (h : starD d = .ok ds) (r : RpC K H B v d) : ∃ p xs, v = .ref p ∧ (SqL K H p xs ∨ SqT K H p xs) ∧ RpAll K H B xs ds := by
  cases d with
  | list es =>
    cases h
    obtain ⟨p, xs, e, h1, r1⟩ := r.lstE
    exact ⟨p, xs, e, .inl h1, r1⟩
  | tuple es =>
    cases h
    obtain ⟨p, xs, e, h1, r1⟩ := r.tup
    exact ⟨p, xs, e, .inr h1, r1⟩
  | _ => cases h
theorem starD_nox : ∀ (d : D) j, starD d ≠ .ex j := fun d j e => by cases d <;> cases e
theorem ze_join (ho : ZK X cm W o f) (he : ZK X cm W e g) (hs : starEach [e] X.env = [(false, eval e X.env)] := by rfl) (hbase : attributeBase o "join" X.env (eval o X.env) = eval o X.env := by rfl) (hline : (apos.endLine == pos.line) = true := by rfl) :
    ZE X cm W (.Call (.Attribute o "join" apos) [e] [] pos) (cM1 joinD f g) :=
  PE.imp (pe_join ho he hs hbase hline) fun σ H Q ⟨C, r, E, q⟩ => ⟨C, r, E, pst_imp (pst_bind q) fun d q v H1 s1 r1 => by
    obtain ⟨z, rfl, q⟩ := pst_str q
    refine ⟨⟨z, r1.str⟩, C, r, E.go s1, pst_imp (pst_bind (pst_go q s1)) fun d q w H2 s2 r2 => ?_⟩
    obtain ⟨ds, h1, q⟩ := pst_nox (starD_nox d) q
    obtain ⟨ys, h2, q⟩ := pst_nox (strs_nox ds) q
    obtain ⟨hz, q⟩ := pst_ite q
    obtain ⟨p, xs, e, hq, rx⟩ := starD_rp h1 r2
    have e2 := strs_rp h2 rx
    subst e2
    exact ⟨z, p, ys, r1.str, by rw [e], hq, hz, q (.str _) H2 (s1.trans s2) (.str _)⟩⟩
theorem ze_upper (ho : ZK X cm W o f) (hbase : attributeBase o "upper" X.env (eval o X.env) = eval o X.env := by rfl) (hline : (apos.endLine == pos.line) = true := by rfl) :
    ZE X cm W (.Call (.Attribute o "upper" apos) [] [] pos) (cM0 upperD f) :=
  PE.imp (pe_upper ho hbase hline) fun σ H Q ⟨C, r, E, q⟩ => ⟨C, r, E, pst_imp (pst_bind q) fun d q v H1 s1 r1 => by
    obtain ⟨z, rfl, q⟩ := pst_str q
    obtain ⟨hz, q⟩ := pst_ite q
    exact ⟨⟨z, r1.str⟩, z, r1.str, rfl, hz, q (.str _) H1 s1 (.str _)⟩⟩
theorem zf_splitMax {e2 : Expr} (ho : ZK X cm W o f) (he : ZK X cm W e g) (he2 : ZK X cm W e2 h)
    (hbase : attributeBase o "split" X.env (eval o X.env) = eval o X.env := by rfl)
    (hfew : ((backTo cpos (starEach (e :: [e2]) X.env)).all (fun x => !x.1) && (backToKw cpos (keywordEach [] X.env)).all (fun x => x.1.isSome)
      && decide ((e :: [e2]).length + ([] : List Keyword).length + (if ([] : List Keyword).isEmpty then 0 else 1) < 30)) = true := by rfl)
    (hline : (apos.endLine == cpos.line) = true := by rfl) (hs : starEach (e :: [e2]) X.env = (false, eval e X.env) :: starEach [e2] X.env := by rfl) (hs2 : starEach (e2 :: []) X.env = (false, eval e2 X.env) :: starEach [] X.env := by rfl) (hplain : (backTo cpos (starEach [e2] X.env)).any (·.1) = false := by rfl) :
    ZF X cm W (.Call (.Attribute o "split" apos) [e, e2] [] cpos) (cM2F splitMaxD f g h) :=
  PE.imp (pe_bm PySem.F.plainAttrs_str PySem.F.slot_str_split PySem.F.type_str_split mt_splitMax ho (pa_cons he (pa_cons he2 pa_nil hs2) hs) hbase hfew hline hs hplain) fun σ H Q ⟨C, r, E, q⟩ => ⟨C, r, E, pst_imp (pst_bind q) fun d q v H1 s1 r1 => by
    obtain ⟨z, rfl, q⟩ := pst_str q
    have ev := r1.str
    subst ev
    refine ⟨rfl, C, r, E.go s1, pst_imp (pst_bind (pst_go q s1)) fun d q w H2 s2 r2 => ⟨C, r, E.go (s1.trans s2), pst_imp (pst_bind (pst_go q s2)) fun d3 q w3 H3 s3 r3 => ?_⟩⟩
    cases d with
    | str y =>
      cases d3 with
      | int n =>
        obtain ⟨hc, q⟩ := pst_ite q
        have s := (s1.trans s2).trans s3
        exact ⟨z, y, n, rfl, by rw [r2.str, r3.int], hc.1, hc.2.1, hc.2.2.1, hc.2.2.2, fun p hp => q p _ _ (s.trans (same_upd hp)) (s.free hp) upd_same (.strs _)⟩
      | _ => exact (show False from q).elim
    | _ => cases d3 <;> exact (show False from q).elim⟩
end

/-! ### f-strings -/
structure ZJ (X : Cx) (cm : Nat → Addr) (W : WX) (es : List Expr) (g : Str → Rho → R Str) : Prop where
  run : ∃ ts, PJ X es ts ∧ ∀ (acc : Str) (σ : St) (H : Hp) (Q : Str → Hp → Prop) (C : ZC) (r : Rho), EnvOk X.K C H r σ → (pst cm W σ H (g acc r) fun out => ∀ H', Same H H' → Q out H') → tJs ts acc σ H Q
theorem zj_nil : ZJ X cm W [] cJ0 := ⟨[], .nil, fun acc σ H Q C r E q => q H (Same.refl H)⟩
theorem zj_cons {es : List Expr} {g : Str → Rho → R Str} (h : ZE X cm W e f) (r : ZJ X cm W es g) : ZJ X cm W (e :: es) (cJc f g) := by
  obtain ⟨ts, h2, k2⟩ := r.run
  refine ⟨_, .cons h h2, fun acc σ H Q C r E q => ⟨C, r, E, pst_imp (pst_bind q) fun d q v H1 s1 r1 => ?_⟩⟩
  obtain ⟨y, rfl, q⟩ := pst_str q
  cases r1
  obtain ⟨hz, q⟩ := pst_ite q
  exact ⟨y, rfl, hz, k2 (acc ++ y) σ H1 Q C r (E.go s1) (pst_imp (pst_go q s1) fun out q H2 s2 => q H2 (s1.trans s2))⟩
theorem ze_fmt (ha : ZE X cm W a f) : ZE X cm W (.FormattedValue a (-1) none pos) (cB1 fmtD f) := PE.imp (pe_fmt ha) (then1V (kk := fun x H Q => (∃ y : Str, x = .str y ∧ y.length ≤ sizeLine ∧ Q (.str y) H) ∨ ∃ i : Int, x = .int i ∧ i.natAbs.log2 < 1920 ∧ Q (.str (toString i)) H) fun σ H B x d Q hb rx q => by
    cases d with
    | str y =>
      cases rx
      obtain ⟨hz, q⟩ := res_ite q
      exact .inl ⟨y, rfl, hz, q.ok (.str _)⟩
    | int y =>
      cases rx
      obtain ⟨hz, q⟩ := res_ite q
      exact .inr ⟨y, rfl, hz, q.ok (.str _)⟩
    | _ => exact (show False from q).elim)
theorem ze_joined {v1 v2 : Expr} {rest : List Expr} {g : Str → Rho → R Str} (h : ZJ X cm W (v1 :: v2 :: rest) g) : ZE X cm W (.JoinedStr (v1 :: v2 :: rest) pos) (cJ g) := by
  obtain ⟨ts, h1, k1⟩ := h.run
  exact PE.imp (pe_joined h1) fun σ H Q ⟨C, r, E, q⟩ => k1 Str.empty σ H _ C r E (pst_imp (pst_bind q) fun out q H1 s1 => q (.str out) H1 s1 (.str out))
theorem ze_joined1 (h : ZE X cm W a f) : ZE X cm W (.JoinedStr [a] pos) f := pe_joined1 h
end
end Z


set_option Elab.async false
set_option linter.all false
set_option maxRecDepth 100000
set_option maxHeartbeats 4000000
namespace Z
open PySem PySem.Spec PyProof.Rows L2

/-! ### statements -/
inductive Out where
  | nx (r : Rho)
  | rt (d : D) (r : Rho)
  | bk (r : Rho)
  | ct (r : Rho)
  | xx (k : Nat) (r : Rho)
  | no
abbrev SF := Rho → Out
def onE {α : Type} (x : R α) (r : Rho) (g : α → Out) : Out := match x with
  | .ok a => g a
  | .ex k => .xx k r
  | .no => .no
def pso (K : PySem.W.Frag) (cm : Nat → Addr) (W : WX) (C : ZC) (Dn : Ends) : Out → Prop
  | .nx r => ∀ σ H, EnvOk K C H r σ → Dn.nx σ H
  | .rt d r => ∀ v σ H, EnvOk K C H r σ → Rp K H (BB C r σ) v d → Dn.rt v H
  | .bk r => ∀ σ H, EnvOk K C H r σ → Dn.bk σ H
  | .ct r => ∀ σ H, EnvOk K C H r σ → Dn.ct σ H
  | .xx k r => ∀ σ H, EnvOk K C H r σ → W (.ref (cm k)) none σ H
  | .no => False
def tS (K : PySem.W.Frag) (cm : Nat → Addr) (W : WX) (F : SF) : TS := fun Dn σ H => ∃ C r, EnvOk K C H r σ ∧ pso K cm W C Dn (F r)
abbrev ZS (X : Cx) (cm : Nat → Addr) (W : WX) (s : Stmt) (F : SF) : Prop := PS X s (tS X.K cm W F)
abbrev ZSs (X : Cx) (cm : Nat → Addr) (W : WX) (s : List Stmt) (F : SF) : Prop := PSs X s (tS X.K cm W F)
def sNil : SF := fun r => .nx r
def sSeq (F G : SF) : SF := fun r => match F r with
  | .nx r' => G r'
  | o => o
def sBrk : SF := fun r => .bk r
def sCt : SF := fun r => .ct r
def sEx (f : Rho → R D) : SF := fun r => onE (f r) r fun _ => .nx r
def sRet (f : Rho → R D) : SF := fun r => onE (f r) r fun d => .rt d r
def sRetN : SF := fun r => .rt .none r
def sIf (t : Rho → R Bool) (F G : SF) : SF := fun r => onE (t r) r fun b => if b then F r else G r
def sSet (i : Nat) (f : Rho → R D) : SF := fun r => onE (f r) r fun d => .nx (r.set i (.sh d))
def sOwn (i : Nat) (f : Rho → R (List D)) : SF := fun r => onE (f r) r fun ds => if i < r.length ∧ i ≠ 0 then .nx (r.set i (.ow ds)) else .no
def sRel (i : Nat) (F : SF) : SF := fun r => match r[i]? with
  | some (.ow ds) => F (r.set i (.sh (.list ds)))
  | _ => F r
def sApp (i : Nat) (f : Rho → R D) : SF := fun r => match r[i]? with
  | some (.ow ds) => onE (f r) r fun d => if ds.length < sizeLine then .nx (r.set i (.ow (ds ++ [d]))) else .no
  | _ => .no
def sPut (i : Nat) (j f : Rho → R D) : SF := fun r => onE (f r) r fun d => match r[i]? with
  | some (.ow ds) => onE (j r) r fun n => match n with
    | .int n => match ixN ds.length n with
      | some m => .nx (r.set i (.ow (ds.set m d)))
      | none => .no
    | _ => .no
  | _ => .no
def sAsg (G : D → Rho → Option Rho) (f : Rho → R D) : SF := fun r => onE (f r) r fun d => match G d r with
  | some r' => .nx r'
  | none => .no
def sPar (i j : Nat) (f g : Rho → R D) : SF := fun r => onE (f r) r fun x => onE (g r) r fun y => .nx ((r.set i (.sh x)).set j (.sh y))
def sAug (i : Nat) (F : D → D → R D) (f : Rho → R D) : SF := fun r => match r[i]? with
  | some (.sh x) => onE (f r) r fun y => onE (F x y) r fun z => .nx (r.set i (.sh z))
  | _ => .no
def forL (G : D → Rho → Option Rho) (F : SF) : List D → SF
  | [], r => .nx r
  | d :: ds, r => match G d r with
    | none => .no
    | some r1 => match F r1 with
      | .nx r2 => forL G F ds r2
      | .ct r2 => forL G F ds r2
      | .bk r2 => .nx r2
      | o => o
def sFor (fi : Rho → R (List D)) (G : D → Rho → Option Rho) (F : SF) : SF := fun r => onE (fi r) r fun ds => forL G F ds r
def whileL (t : Rho → R Bool) (F : SF) : Nat → SF
  | 0, _ => .no
  | n + 1, r => onE (t r) r fun b => if b then (match F r with
    | .nx r2 => whileL t F n r2
    | .ct r2 => whileL t F n r2
    | .bk r2 => .nx r2
    | o => o) else .nx r
def sRaise (k : Nat) : SF := fun r => .xx k r
def sTry (F : SF) (hs : Nat → Option SF) : SF := fun r => match F r with
  | .xx k r' => match hs k with
    | some G => G r'
    | none => .xx k r'
  | o => o
def runS (F : SF) (r : Rho) : R D := match F r with
  | .nx _ => .ok .none
  | .rt d _ => .ok d
  | .xx k _ => .ex k
  | _ => .no
def gNm (i : Nat) : D → Rho → Option Rho := fun d r => some (r.set i (.sh d))
def gsNil : List D → Rho → Option Rho
  | [], r => some r
  | _ :: _, _ => none
def gsCons (g : D → Rho → Option Rho) (gs : List D → Rho → Option Rho) : List D → Rho → Option Rho
  | [], _ => none
  | d :: ds, r => (g d r).bind fun r' => gs ds r'
def gTp (gs : List D → Rho → Option Rho) : D → Rho → Option Rho
  | .tuple ds, r => gs ds r
  | .list ds, r => gs ds r
  | _, _ => none

section
variable {X : Cx} {cm : Nat → Addr} {W : WX} {k : Nat} {s : Stmt} {ss : List Stmt} {F G : SF} {e a b c : Expr} {f g h : Rho → R D} {pos : Pos}

theorem pso_of {K : PySem.W.Frag} {C : ZC} {Dn : Ends} {r : Rho} {σ : St} {H : Hp} {α : Type} {x : R α} {g : α → Out} (E : EnvOk K C H r σ) (h : pso K cm W C Dn (onE x r g)) : pst cm W σ H x fun a => pso K cm W C Dn (g a) := by
  cases x with
  | ok a => exact h
  | ex k => exact fun H' s => h σ H' (E.go s)
  | no => exact h
theorem zss_nil : ZSs X cm W [] sNil := PSs.imp pss_nil fun Dn σ H ⟨C, r, E, q⟩ => q σ H E
theorem zss_cons (h1 : ZS X cm W s F) (h2 : ZSs X cm W ss G) : ZSs X cm W (s :: ss) (sSeq F G) := PSs.imp (pss_cons h1 h2) fun Dn σ H ⟨C, r, E, q⟩ => ⟨C, r, E, by
  unfold sSeq at q
  cases hF : F r with
  | nx r' =>
    rw [hF] at q
    exact fun σ' H' E' => ⟨C, r', E', q⟩
  | rt d r9 => rw [hF] at q; exact q
  | bk r' => rw [hF] at q; exact q
  | ct r' => rw [hF] at q; exact q
  | xx k r' => rw [hF] at q; exact q
  | no => rw [hF] at q; exact q⟩
theorem zss_one (h1 : ZS X cm W s F) : ZSs X cm W [s] F := pss_one h1
theorem zs_pass : ZS X cm W (.Pass pos) sNil := PS.imp ps_pass fun Dn σ H ⟨C, r, E, q⟩ => q σ H E
theorem zs_break : ZS X cm W (.Break pos) sBrk := PS.imp ps_break fun Dn σ H ⟨C, r, E, q⟩ => q σ H E
theorem zs_continue : ZS X cm W (.Continue pos) sCt := PS.imp ps_continue fun Dn σ H ⟨C, r, E, q⟩ => q σ H E
theorem zs_expr (he : ZE X cm W e f) (hs : swapsWith e none pos.line X.env = pure false := by rfl) : ZS X cm W (.Expr e pos) (sEx f) := PS.imp (ps_expr he hs) fun Dn σ H ⟨C, r, E, q⟩ =>
  ⟨C, r, E, pst_imp (pso_of E q) fun d q v H1 s1 r1 => q σ H1 (E.go s1)⟩
theorem zs_ret (he : ZE X cm W e f) : ZS X cm W (.Return (some e) pos) (sRet f) := PS.imp (ps_ret he) fun Dn σ H ⟨C, r, E, q⟩ =>
  ⟨C, r, E, pst_imp (pso_of E q) fun d q v H1 s1 r1 => q v σ H1 (E.go s1) r1⟩
theorem zs_retN : ZS X cm W (.Return none pos) sRetN := PS.imp ps_retN fun Dn σ H ⟨C, r, E, q⟩ => q .non σ H E .non
theorem zs_if {t : Rho → R Bool} {A B : List Stmt} (hc : ZT X cm W c t) (ha : ZSs X cm W A F) (hb : ZSs X cm W B G) : ZS X cm W (.If c A B pos) (sIf t F G) := PS.imp (ps_if hc ha hb) fun Dn σ H ⟨C, r, E, q⟩ =>
  ⟨C, r, E, pst_imp (pso_of E q) fun d q H1 s1 => by
    cases d with
    | true => exact ⟨C, r, E.go s1, q⟩
    | false => exact ⟨C, r, E.go s1, q⟩⟩
theorem zs_set (i : Nat) {x : Str} {pos' : Pos} (A : Amb X W k) (he : ZE X cm W e f) (hi : X.N[i]? = some x := by rfl) (hx : Loc X.env.scope x := by first | exact Or.inl rfl | exact Or.inr rfl) (hs : swapsWith e (some (.Name x pos')) pos.line X.env = pure false := by rfl)
    (hf : X.fn x = true ∨ X.env.scope.names.lookup x = some .local := by first | exact .inl rfl | exact .inr rfl | assumption) : ZS X cm W (.Assign [.Name x pos'] e pos) (sSet i f) := PS.imp (ps_set A.nd hi hx he hs hf) fun Dn σ H ⟨C, r, E, q⟩ =>
  ⟨C, r, E, pst_imp (pso_of E q) fun d q v H1 s1 r1 => q _ H1 ((E.go s1).set_sh r1)⟩
theorem zs_own (i : Nat) {x : Str} {pos' : Pos} {f : Rho → R (List D)} (A : Amb X W k) (he : ZF X cm W e f) (hi : X.N[i]? = some x := by rfl) (hx : Loc X.env.scope x := by first | exact Or.inl rfl | exact Or.inr rfl) (hs : swapsWith e (some (.Name x pos')) pos.line X.env = pure false := by rfl)
    (hf : X.fn x = true ∨ X.env.scope.names.lookup x = some .local := by first | exact .inl rfl | exact .inr rfl | assumption) : ZS X cm W (.Assign [.Name x pos'] e pos) (sOwn i f) := PS.imp (ps_set A.nd hi hx he hs hf) fun Dn σ H ⟨C, r, E, q⟩ =>
  ⟨C, r, E, pst_imp (pso_of E q) fun ds q p vs H1 s1 np hp rp => by
    by_cases hl : i < r.length ∧ i ≠ 0
    · rw [if_pos hl] at q
      exact q _ H1 (E.set_ow np s1 hp rp hl.1 hl.2)
    · rw [if_neg hl] at q
      exact (show False from q).elim⟩
theorem zss_rel (i : Nat) (h : ZSs X cm W ss F) : ZSs X cm W ss (sRel i F) := PSs.imp h fun Dn σ H ⟨C, r, E, q⟩ => by
  unfold sRel at q
  split at q
  · rename_i ds hr
    exact ⟨C, _, E.rel hr, q⟩
  · exact ⟨C, r, E, q⟩
theorem zs_app (i : Nat) {x : Str} {px apos cpos : Pos} (A : Amb X W k) (he : ZE X cm W e f) (hN : X.N[i]? = some x := by rfl) (hv : Vis X.env.scope x := by first | exact Or.inl rfl | exact Or.inr (Or.inl rfl) | exact Or.inr (Or.inr rfl)) (hd : (x == ("__debug__" : Str)) = false := by decide) (hcd : (x == ("__classdict__" : Str)) = false := by decide)
    (hs : swapsWith (.Call (.Attribute (.Name x px) "append" apos) [e] [] cpos) none pos.line X.env = pure false := by rfl)
    (hfew : ((backTo cpos (starEach (e :: []) X.env)).all (fun x => !x.1) && (backToKw cpos (keywordEach [] X.env)).all (fun x => x.1.isSome)
      && decide ((e :: []).length + ([] : List Keyword).length + (if ([] : List Keyword).isEmpty then 0 else 1) < 30)) = true := by rfl)
    (hline : (apos.endLine == cpos.line) = true := by rfl) (hst : starEach (e :: []) X.env = (false, eval e X.env) :: starEach [] X.env := by rfl) :
    ZS X cm W (.Expr (.Call (.Attribute (.Name x px) "append" apos) [e] [] cpos) pos) (sApp i f) :=
  PS.imp (ps_expr (pe_bm PySem.F.plainAttrs_list PySem.F.slot_list_append PySem.F.type_list_append mt_append (pe_var hN hv hd hcd) (pa_cons he pa_nil hst) rfl hfew hline hst rfl) hs) fun Dn σ H ⟨C, r, E, q⟩ => by
    unfold sApp at q
    split at q
    · rename_i ds hr
      obtain ⟨a, vs, e1, e2, e0, rv⟩ := E.ow i ds hr
      refine ⟨.ref a, e1, .inl ⟨rfl, vs, .inl (.inl e2)⟩, C, r, E, pst_imp (pso_of E q) fun d q v H1 s1 r1 => ?_⟩
      by_cases hz : ds.length < sizeLine
      · rw [if_pos hz] at q
        refine ⟨a, vs, v, rfl, rfl, s1.at e2, by rw [rv.length]; exact hz, ?_⟩
        exact q σ _ ((E.go s1).upd_ow hr e1 ((rv.mono s1).append (.cons r1 .nil)))
      · rw [if_neg hz] at q
        exact (show False from q).elim
    · exact (show False from q).elim
theorem zs_put (i : Nat) {x : Str} {px spos : Pos} {j : Expr} {fj : Rho → R D} (he : ZE X cm W e f) (hj : ZE X cm W j fj) (hN : X.N[i]? = some x := by rfl) (hv : Vis X.env.scope x := by first | exact Or.inl rfl | exact Or.inr (Or.inl rfl) | exact Or.inr (Or.inr rfl)) (hd : (x == ("__debug__" : Str)) = false := by decide) (hcd : (x == ("__classdict__" : Str)) = false := by decide)
    (ha : ∀ v, assign (.Subscript (.Name x px) j spos) X.env v = (do
      let ov ← holding [v] (eval (.Name x px) X.env)
      let iv ← holding [v, ov] (eval j X.env)
      standAt spos
      holding [v, ov, iv] (setItem ov iv v)
      release [v, ov, iv] []) := by intro _; rfl)
    (hs : swapsWithSole [.Subscript (.Name x px) j spos] e pos.line X.env = pure false := by rfl) (hw : swappedStores [.Subscript (.Name x px) j spos] e X.env = pure none := by rfl)
    (h1 : (assignEach [.Subscript (.Name x px) j spos] X.env).map (·.2) = [assign (.Subscript (.Name x px) j spos) X.env] := by rfl) : ZS X cm W (.Assign [.Subscript (.Name x px) j spos] e pos) (sPut i fj f) :=
  PS.imp (ps_asg he (pg_sub (pe_var hN hv hd hcd) hj set_list ha) hs hw h1) fun Dn σ H ⟨C, r, E, q⟩ => ⟨C, r, E, pst_imp (pso_of E q) fun d q v H1 s1 r1 => by
    split at q
    · rename_i ds hr
      have E1 := E.go s1
      obtain ⟨a, vs, e1, e2, e0, rv⟩ := E1.ow i ds hr
      refine ⟨.ref a, e1, C, r, E1, pst_imp (pso_of E1 q) fun n q w H2 s2 r2 => ?_⟩
      cases n with
      | int n =>
        cases r2
        cases hm : ixN ds.length n with
        | none =>
          have q' : pso X.K cm W C Dn (match ixN ds.length n with
            | some m => Out.nx (r.set i (.ow (ds.set m d)))
            | none => .no) := q
          rw [hm] at q'
          exact (show False from q').elim
        | some m =>
          have q' : pso X.K cm W C Dn (match ixN ds.length n with
            | some m => Out.nx (r.set i (.ow (ds.set m d)))
            | none => .no) := q
          rw [hm] at q'
          refine ⟨a, vs, n, m, rfl, rfl, s2.at e2, by rw [rv.length]; exact hm, ?_⟩
          exact q' σ _ ((E1.go s2).upd_ow hr e1 (RpAll.set (r1.mono s2) m (rv.mono s2)))
      | _ => exact (show False from q).elim
    · exact (show False from q).elim⟩

/-! ### targets -/
theorem PG.imp {tg : Expr} {t t' : TG} (h : PG X tg t) (i : ∀ v σ H Q, t' v σ H Q → t v σ H Q) : PG X tg t' := ⟨fun pins s σ H v u Q I r q => h.run pins s σ H v u Q I r (i v σ H Q q)⟩
theorem PGs.imp {tg : List Expr} {t t' : TGs} (h : PGs X tg t) (i : ∀ v σ H Q, t' v σ H Q → t v σ H Q) : PGs X tg t' := ⟨fun pins s σ H v u Q I r q => h.run pins s σ H v u Q I r (i v σ H Q q)⟩
def tG (K : PySem.W.Frag) (is : List Nat) (G : D → Rho → Option Rho) : TG := fun v σ H Q => ∃ C r r' d, EnvOk K C H r σ ∧ Rp K H (BB C r σ) v d ∧ G d r = some r' ∧
  ∀ σ', EnvOk K C H r' σ' → (∀ a, BB C r' σ' a → BB C r σ a) → (∀ j, j ∉ is → σ'[j]? = σ[j]?) → Q σ' H
def tGs (K : PySem.W.Frag) (is : List Nat) (G : List D → Rho → Option Rho) : TGs := fun vs σ H Q => ∃ C r r' ds, EnvOk K C H r σ ∧ RpAll K H (BB C r σ) vs ds ∧ G ds r = some r' ∧
  ∀ σ', EnvOk K C H r' σ' → (∀ a, BB C r' σ' a → BB C r σ a) → (∀ j, j ∉ is → σ'[j]? = σ[j]?) → Q σ' H
structure ZG (X : Cx) (tg : Expr) (is : List Nat) (G : D → Rho → Option Rho) : Prop where
  pg : PG X tg (tG X.K is G)
  keep : ∀ d r r', G d r = some r' → ∀ j, j ∉ is → r'[j]? = r[j]?
  size : ∀ d r r', G d r = some r' → r'.length = r.length
theorem zg_name (i : Nat) {x : Str} (nd : X.N.Nodup) (hi : X.N[i]? = some x := by rfl) (hx : Loc X.env.scope x := by first | exact Or.inl rfl | exact Or.inr rfl) (hf : X.fn x = true ∨ X.env.scope.names.lookup x = some .local := by first | exact .inl rfl | exact .inr rfl | assumption) :
    ZG X (.Name x pos) [i] (gNm i) := by
  refine ⟨PG.imp (pg_name nd hi hx hf) fun v σ H Q ⟨C, r, r', d, E, rv, h, k⟩ => ?_, fun d r r' h j hj => ?_, fun d r r' h => by cases h; exact List.length_set⟩
  · cases h
    exact k _ (E.set_sh rv) (fun a z => z.elim .inl fun z => .inr (own_set (fun ds e => by cases e) z)) fun j hj => List.getElem?_set_ne (fun e => hj (by rw [e]; exact List.mem_singleton_self _))
  · cases h
    exact List.getElem?_set_ne (fun e => hj (by rw [e]; exact List.mem_singleton_self _))
structure ZGs (X : Cx) (ts : List Expr) (n : Nat) (is : List Nat) (G : List D → Rho → Option Rho) : Prop where
  pg : PGs X ts (tGs X.K is G)
  keep : ∀ d r r', G d r = some r' → ∀ j, j ∉ is → r'[j]? = r[j]?
  size : ∀ d r r', G d r = some r' → r'.length = r.length
  len : ∀ ds r r', G ds r = some r' → ds.length = n
theorem zgs_nil : ZGs X [] 0 [] gsNil := by
  refine ⟨PGs.imp pgs_nil fun vs σ H Q ⟨C, r, r', ds, E, rv, h, k⟩ => ?_, fun d r r' h j hj => ?_, fun d r r' h => by cases d <;> cases h; rfl, fun ds r r' h => ?_⟩
  · cases ds with
    | nil =>
      cases rv
      cases h
      exact ⟨rfl, k σ E (fun _ z => z) fun _ _ => rfl⟩
    | cons d ds => cases h
  · cases d with
    | nil => cases h; rfl
    | cons d ds => cases h
  · cases ds with
    | nil => rfl
    | cons d ds => cases h
theorem zgs_cons {t : Expr} {ts : List Expr} {n : Nat} {is js : List Nat} {g : D → Rho → Option Rho} {gs : List D → Rho → Option Rho} (h1 : ZG X t is g) (h2 : ZGs X ts n js gs) (hs : (assignEach (t :: ts) X.env).map (·.2) = assign t X.env :: (assignEach ts X.env).map (·.2) := by rfl) :
    ZGs X (t :: ts) (n + 1) (is ++ js) (gsCons g gs) := by
  obtain ⟨p1, e1, z1⟩ := h1
  obtain ⟨p2, e2, z2, l2⟩ := h2
  have inv : ∀ {ds : List D} {r r' : Rho}, gsCons g gs ds r = some r' → ∃ d es r1, ds = d :: es ∧ g d r = some r1 ∧ gs es r1 = some r' := fun {ds r r'} h => by
    cases ds with
    | nil => cases h
    | cons d es =>
      have h' : (g d r).bind (fun r' => gs es r') = some r' := h
      cases hg : g d r with
      | none => rw [hg] at h'; cases h'
      | some r1 =>
        rw [hg] at h'
        exact ⟨d, es, r1, rfl, hg, h'⟩
  refine ⟨PGs.imp (pgs_cons p1 p2 hs) fun vs σ H Q ⟨C, r, r', ds, E, rv, h, k⟩ => ?_, fun d r r' h j hj => ?_, fun d r r' h => ?_, fun ds r r' h => ?_⟩
  · obtain ⟨d, es, r1, rfl, h1, h2⟩ := inv h
    cases rv with
    | cons ra rb =>
      refine ⟨_, _, rfl, C, r, r1, d, E, ra, h1, fun σ1 E1 b1 s1 => ⟨C, r1, r', es, E1, rb.mono (Same.refl H) (fun a z => .inl (b1 a z)), h2, fun σ2 E2 b2 s2 => k σ2 E2 (fun a z => b1 a (b2 a z)) fun j hj => ?_⟩⟩
      rw [List.mem_append, not_or] at hj
      exact (s2 j hj.2).trans (s1 j hj.1)
  · obtain ⟨d, es, r1, rfl, h1, h2⟩ := inv h
    rw [List.mem_append, not_or] at hj
    exact (e2 _ _ _ h2 j hj.2).trans (e1 _ _ _ h1 j hj.1)
  · obtain ⟨d, es, r1, rfl, h1, h2⟩ := inv h
    exact (z2 _ _ _ h2).trans (z1 _ _ _ h1)
  · obtain ⟨d, es, r1, rfl, h1, h2⟩ := inv h
    rw [List.length_cons, l2 _ _ _ h2]
theorem PG.or {tg : Expr} {t t' : TG} (h : PG X tg t) (h' : PG X tg t') : PG X tg (fun v σ H Q => t v σ H Q ∨ t' v σ H Q) := ⟨fun pins s σ H v u Q I r q => q.elim (h.run pins s σ H v u Q I r) (h'.run pins s σ H v u Q I r)⟩
theorem zg_tup {es : List Expr} {k n : Nat} {is : List Nat} {gs : List D → Rho → Option Rho} (hc : X.calm = true) (h : ZGs X es n is gs) (hn : (assignEach es X.env).length = n := by rfl) (hst : (assignEach es X.env).findIdx? (·.1) = none := by rfl) : ZG X (.Tuple es k pos) is (gTp gs) := by
  obtain ⟨p1, e1, z1, l1⟩ := h
  refine ⟨PG.imp (PG.or (pg_tup hc p1 hn hst) (pg_lst hc p1 hn hst)) fun v σ H Q ⟨C, r, r', d, E, rv, h, k⟩ => ?_, fun d r r' h j hj => ?_, fun d r r' h => ?_⟩
  · cases d with
    | tuple ds =>
      cases rv with
      | tup hs ra => exact .inl ⟨_, _, rfl, hs, by rw [ra.length]; exact l1 ds r r' h, C, r, r', ds, E, ra, h, k⟩
    | list ds =>
      cases rv with
      | lst hs ra => exact .inr ⟨_, _, rfl, hs.sq, by rw [ra.length]; exact l1 ds r r' h, C, r, r', ds, E, ra, h, k⟩
    | _ => cases h
  · cases d with
    | tuple ds => exact e1 ds r r' h j hj
    | list ds => exact e1 ds r r' h j hj
    | _ => cases h
  · cases d with
    | tuple ds => exact z1 ds r r' h
    | list ds => exact z1 ds r r' h
    | _ => cases h
theorem zs_asg {tg : Expr} {is : List Nat} {G : D → Rho → Option Rho} (he : ZE X cm W e f) (hg : ZG X tg is G) (hs : swapsWithSole [tg] e pos.line X.env = pure false := by rfl) (hw : swappedStores [tg] e X.env = pure none := by rfl)
    (h1 : (assignEach [tg] X.env).map (·.2) = [assign tg X.env] := by rfl) : ZS X cm W (.Assign [tg] e pos) (sAsg G f) := by
  refine PS.imp (ps_asg he hg.pg hs hw h1) fun Dn σ H ⟨C, r, E, q⟩ => ⟨C, r, E, pst_imp (pso_of E q) fun d q v H1 s1 r1 => ?_⟩
  cases hG : G d r with
  | none => rw [hG] at q; exact (show False from q).elim
  | some r' =>
    rw [hG] at q
    exact ⟨C, r, r', d, E.go s1, r1, hG, fun σ' E' _ _ => q σ' H1 E'⟩
theorem zs_par (i j : Nat) {x y : Str} {px py pt : Pos} {kt k2 pt2} (A : Amb X W k) (ha : ZE X cm W a f) (hb : ZE X cm W b g) (hw : swappedStores [.Tuple [.Name x px, .Name y py] kt pt] (.Tuple [a, b] k2 pt2) X.env = pure (some [x, y]) := by rfl) (hij : i ≠ j := by decide) (hi : X.N[i]? = some x := by rfl) (hj : X.N[j]? = some y := by rfl)
    (hx : X.env.scope.names.lookup x = some .local := by rfl) (hy : X.env.scope.names.lookup y = some .local := by rfl) (hs1 : starEach (a :: [b]) X.env = (false, eval a X.env) :: starEach [b] X.env := by rfl) (hs2 : starEach (b :: []) X.env = (false, eval b X.env) :: starEach [] X.env := by rfl)
    (hs : swapsWithSole [.Tuple [.Name x px, .Name y py] kt pt] (.Tuple [a, b] k2 pt2) pos.line X.env = pure false := by rfl) :
    ZS X cm W (.Assign [.Tuple [.Name x px, .Name y py] kt pt] (.Tuple [a, b] k2 pt2) pos) (sPar i j f g) :=
  PS.imp (ps_par A.calm A.nd hi hj hij hx hy (pa_cons ha (pa_cons hb pa_nil hs2) hs1) hw hs) fun Dn σ H ⟨C, r, E, q⟩ => ⟨C, r, E, pst_imp (pso_of E q) fun d q v H1 s1 r1 => ⟨C, r, E.go s1, pst_imp (pso_of (E.go s1) q) fun e q w H2 s2 r2 =>
    ⟨v, w, rfl, q _ H2 (((E.go s1).go s2).set_sh (r1.mono s2) |>.set_sh (r2.mono (Same.refl _) fun a z => .inl (z.elim .inl fun z => .inr (own_set (fun ds e => by cases e) z))))⟩⟩⟩
theorem zs_aug (i : Nat) {x : Str} {op : Operator} {pos' : Pos} {rr : TIp} {F : D → D → R D} (A : Amb X W k) (ho : PIp X op rr) (hk : ∀ σ H B x y d e Q, NB B H → RpC X.K H B x d → RpC X.K H B y e → Res X.K cm W σ B H (F d e) Q → rr x y H Q) (he : ZE X cm W e f)
    (hi : X.N[i]? = some x := by rfl) (hx : Loc X.env.scope x := by first | exact Or.inl rfl | exact Or.inr rfl) (hf : X.fn x = true ∨ X.env.scope.names.lookup x = some .local := by first | exact .inl rfl | exact .inr rfl | assumption) :
    ZS X cm W (.AugAssign (.Name x pos') op e pos) (sAug i F f) := PS.imp (ps_aug A.nd hi hx he ho hf) fun Dn σ H ⟨C, r, E, q⟩ => by
  unfold sAug at q
  split at q
  · rename_i d hr
    obtain ⟨v, e1, rv⟩ := E.sh i d hr
    refine ⟨v, e1, C, r, E, pst_imp (pso_of E q) fun e q w H1 s1 r1 => ?_⟩
    have q := pso_of (E.go s1) q
    exact hk σ H1 (BB C r σ) v w d e _ (E.nb.go s1) (rv.mono s1).c r1.c (pst_imp q fun z q u H2 s2 r2 => q _ H2 (((E.go s1).go s2).set_sh r2))
  · exact (show False from q).elim
def iaddD : D → D → R D
  | .int i, .int j => .ok (.int (i + j))
  | _, _ => .no
def imulD : D → D → R D
  | .int i, .int j => if (-(2 ^ 64) < i ∧ i < 2 ^ 64) ∨ (-(2 ^ 64) < j ∧ j < 2 ^ 64) then .ok (.int (i * j)) else .no
  | _, _ => .no
theorem zs_augAdd (i : Nat) {x : Str} {pos' : Pos} (A : Amb X W k) (he : ZE X cm W e f) (hi : X.N[i]? = some x := by rfl) (hx : Loc X.env.scope x := by first | exact Or.inl rfl | exact Or.inr rfl) (hf : X.fn x = true ∨ X.env.scope.names.lookup x = some .local := by first | exact .inl rfl | exact .inr rfl | assumption) :
    ZS X cm W (.AugAssign (.Name x pos') .Add e pos) (sAug i iaddD f) := zs_aug i A ip_add (fun σ H B x y d e Q hb rx ry q => by
    cases d with
    | int i =>
      cases e with
      | int j => exact ⟨i, j, rx.int, ry.int, (show Res X.K cm W σ B H (.ok (.int (i + j))) Q from q).ok (.int _)⟩
      | _ => exact (show False from q).elim
    | _ => cases e <;> exact (show False from q).elim) he hi hx hf
theorem zs_augMul (i : Nat) {x : Str} {pos' : Pos} (A : Amb X W k) (he : ZE X cm W e f) (hi : X.N[i]? = some x := by rfl) (hx : Loc X.env.scope x := by first | exact Or.inl rfl | exact Or.inr rfl) (hf : X.fn x = true ∨ X.env.scope.names.lookup x = some .local := by first | exact .inl rfl | exact .inr rfl | assumption) :
    ZS X cm W (.AugAssign (.Name x pos') .Mult e pos) (sAug i imulD f) := zs_aug i A iop_mul (fun σ H B x y d e Q hb rx ry q => by
    cases d with
    | int i =>
      cases e with
      | int j =>
        obtain ⟨hz, q⟩ := res_ite q
        exact ⟨i, j, rx.int, ry.int, hz, q.ok (.int _)⟩
      | _ => exact (show False from q).elim
    | _ => cases e <;> exact (show False from q).elim) he hi hx hf

/-! ### what is walked -/
/-- through J come the items ds, whatever happens meanwhile to what is not of the ground Hb -/
def Yl (K : PySem.W.Frag) (Hb : Hp) (B0 : Addr → Prop) (J : It) (ds : List D) : Prop := ∀ (i : Nat) (H : Hp), Same Hb H → (i < ds.length → J.go i H) ∧ (ds.length ≤ i → J.stop i H) ∧
  ∀ x H', J.yld i H x H' → i < ds.length → Same H H' ∧ ∃ d, ds[i]? = some d ∧ ∀ B : Addr → Prop, (∀ a, B a → B0 a ∨ Hb a = none) → Rp K H' B x d
def tI (K : PySem.W.Frag) (cm : Nat → Addr) (W : WX) (f : Rho → R (List D)) : TI := fun σ H R => ∃ C r, EnvOk K C H r σ ∧ pst cm W σ H (f r) fun ds => ∀ J H1, Same H H1 → Yl K (ground H1 r σ) C.B0 J ds → R J H1
abbrev ZI (X : Cx) (cm : Nat → Addr) (W : WX) (tg iter : Expr) (f : Rho → R (List D)) : Prop := PI X tg iter (tI X.K cm W f)
theorem PI.imp {tg iter : Expr} {t t' : TI} (h : PI X tg iter t) (i : ∀ σ H Q, t' σ H Q → t σ H Q) : PI X tg iter t' := ⟨fun pins s σ H Q I q => h.run pins s σ H Q I (i σ H Q q)⟩
theorem PI.or {tg iter : Expr} {t t' : TI} (h : PI X tg iter t) (h' : PI X tg iter t') : PI X tg iter (fun σ H R => t σ H R ∨ t' σ H R) := ⟨fun pins s σ H Q I q => q.elim (h.run pins s σ H Q I) (h'.run pins s σ H Q I)⟩
def walkD : D → R (List D)
  | .list ds => .ok ds
  | .tuple ds => .ok ds
  | .str z => .ok (z.cps.toList.map fun c => .str ⟨#[c]⟩)
  | _ => .no
def cIt (f : Rho → R D) : Rho → R (List D) := fun r => (f r).bind walkD
theorem up_rp {K : PySem.W.Frag} {Hb H : Hp} {B0 B : Addr → Prop} {v : V} {d : D} (q : Rp K Hb B0 v d) (s : Same Hb H) (hb : ∀ a, B a → B0 a ∨ Hb a = none) : Rp K H B v d := q.mono s hb
theorem zi_seq {tg : Expr} (ha : ZE X cm W e f) : ZI X cm W tg e (cIt f) := PI.imp (PI.or (pi_str ha) (PI.or (pi_list ha) (pi_tup ha))) fun σ H Q ⟨C, r, E, q⟩ => by
  have q := pst_bind q
  have exs : (∃ z, f r = .ok (.str z)) ∨ ¬ ∃ z, f r = .ok (.str z) := Classical.em _
  rcases exs with ⟨z, hf⟩ | hns
  · refine .inl ⟨C, r, E, ?_⟩
    rw [hf] at q ⊢
    intro v H1 s1 r1
    cases r1
    refine ⟨z, rfl, q _ H1 s1 fun i H2 s2 => ?_⟩
    have hl : (z.cps.toList.map fun c => PyData.str ⟨#[c]⟩).length = z.cps.size := by rw [List.length_map, Array.length_toList]
    rw [hl]
    refine ⟨fun hi => hi, fun hi => hi, fun x H3 y hi => ?_⟩
    obtain ⟨e3, c, hc, ev⟩ := y
    subst e3
    subst ev
    refine ⟨Same.refl _, .str ⟨#[c]⟩, ?_, fun B hB => .str _⟩
    rw [List.getElem?_map, Array.getElem?_toList, hc]
    rfl
  refine .inr ?_
  have ex : (∃ ds, f r = .ok (.tuple ds)) ∨ ¬ ∃ ds, f r = .ok (.tuple ds) := Classical.em _
  rcases ex with ⟨ds, hf⟩ | hn
  · refine .inr ⟨C, r, E, ?_⟩
    rw [hf] at q ⊢
    intro v H1 s1 r1
    have E1 := E.go s1
    have r2 := Rp.toAt E1 r1
    cases r2 with
    | tup hs ra =>
      rename_i a xs
      cases r1 with
      | tup hs1 ra1 =>
        refine ⟨a, rfl, ⟨_, hs1⟩, q _ H1 s1 fun i H2 s2 => ⟨fun hi => ?_, fun hi => ?_, fun x H3 y hi => ?_⟩⟩
        · have hx : i < xs.length := by rw [ra.length]; exact hi
          exact ⟨xs, xs[i], sqT_same s2 hs, List.getElem?_eq_getElem hx⟩
        · exact ⟨xs, sqT_same s2 hs, by rw [ra.length]; exact hi⟩
        · obtain ⟨e3, y⟩ := y
          subst e3
          obtain ⟨d, hd, rd⟩ := ra.get (y xs (sqT_same s2 hs))
          exact ⟨Same.refl _, d, hd, fun B hB => rd.mono s2 hB⟩
  · refine .inl ⟨C, r, E, ?_⟩
    cases hf : f r with
    | ex k => rw [hf] at q; exact q
    | no => rw [hf] at q; exact q
    | ok d =>
      rw [hf] at q
      intro v H1 s1 r1
      have E1 := E.go s1
      have r2 := Rp.toAt E1 r1
      cases d with
      | list ds =>
        cases r2 with
        | lst hs ra =>
          rename_i a xs
          cases r1 with
          | lst hs1 ra1 =>
            refine ⟨a, rfl, ⟨_, hs1.sq⟩, q _ H1 s1 fun i H2 s2 => ⟨fun hi => ?_, fun hi => ?_, fun x H3 y hi => ?_⟩⟩
            · have hx : i < xs.length := by rw [ra.length]; exact hi
              exact ⟨xs, xs[i], sqL_same s2 hs.sq, List.getElem?_eq_getElem hx⟩
            · exact ⟨xs, sqL_same s2 hs.sq, by rw [ra.length]; exact hi⟩
            · obtain ⟨e3, y⟩ := y
              subst e3
              obtain ⟨d, hd, rd⟩ := ra.get (y xs (sqL_same s2 hs.sq))
              exact ⟨Same.refl _, d, hd, fun B hB => rd.mono s2 hB⟩
      | tuple ds => exact (hn ⟨ds, hf⟩).elim
      | str z => exact (hns ⟨z, hf⟩).elim
      | _ => exact (show False from q).elim
/-! range -/
def rngL (lo : Int) (n : Nat) : List D := (List.range n).map fun i => .int (lo + (i : Nat))
theorem yl_rng {K : PySem.W.Frag} {Hb : Hp} {B0 : Addr → Prop} (lo : Int) (n : Nat) : Yl K Hb B0 (Itr lo n) (rngL lo n) := fun i H s => by
  have hl : (rngL lo n).length = n := by simp [rngL]
  rw [hl]
  refine ⟨fun h => h, fun h => h, fun x H' y hi => ?_⟩
  obtain ⟨e, y⟩ := y
  subst e
  refine ⟨Same.refl _, .int (lo + i), ?_, fun B hB => ?_⟩
  · unfold rngL
    rw [List.getElem?_map, List.getElem?_range hi]
    rfl
  · rw [y]
    exact .int _
def rng1D : D → R (List D)
  | .int j => if -(2 ^ 62) ≤ j ∧ j < 2 ^ 62 then .ok (rngL 0 j.toNat) else .no
  | _ => .no
def rng2D : D → D → R (List D)
  | .int i, .int j => if -(2 ^ 62) ≤ i ∧ i < 2 ^ 62 ∧ -(2 ^ 62) ≤ j ∧ j < 2 ^ 62 then .ok (rngL i (j - i).toNat) else .no
  | _, _ => .no
def cR1 (f : Rho → R D) : Rho → R (List D) := fun r => (f r).bind rng1D
def cR2 (f g : Rho → R D) : Rho → R (List D) := fun r => (f r).bind fun x => (g r).bind fun y => rng2D x y
theorem zi_range1 {tg : Expr} {p : Pos} (ha : ZE X cm W a f) (hm : X.mg "range" = none) (hg : Gl X "range" := by rfl) (hs1 : starEach (a :: []) X.env = (false, eval a X.env) :: starEach [] X.env := by rfl) (hs : starEach [a] X.env = [(false, eval a X.env)] := by rfl) : ZI X cm W tg (.Call (.Name "range" p) [a] [] pos) (cR1 f) :=
  PI.imp (pi_range1 hg hm (pa_cons ha pa_nil hs1) hs) fun σ H Q ⟨C, r, E, q⟩ => ⟨C, r, E, pst_imp (pst_bind q) fun d q v H1 s1 r1 => by
    cases d with
    | int j =>
      cases r1
      obtain ⟨hc, q⟩ := pst_ite q
      exact ⟨j, rfl, hc.1, hc.2, q _ H1 s1 (yl_rng 0 j.toNat)⟩
    | _ => exact (show False from q).elim⟩
theorem zi_range2 {tg : Expr} {p : Pos} (ha : ZE X cm W a f) (hb : ZE X cm W b g) (hm : X.mg "range" = none) (hg : Gl X "range" := by rfl) (hs1 : starEach (a :: [b]) X.env = (false, eval a X.env) :: starEach [b] X.env := by rfl) (hs2 : starEach (b :: []) X.env = (false, eval b X.env) :: starEach [] X.env := by rfl)
    (hs : starEach [a, b] X.env = [(false, eval a X.env), (false, eval b X.env)] := by rfl) (hs3 : starEach [b] X.env = [(false, eval b X.env)] := by rfl) : ZI X cm W tg (.Call (.Name "range" p) [a, b] [] pos) (cR2 f g) :=
  PI.imp (pi_range2 hg hm (pa_cons ha (pa_cons hb pa_nil hs2) hs1) hs hs3) fun σ H Q ⟨C, r, E, q⟩ => ⟨C, r, E, pst_imp (pst_bind q) fun d q v H1 s1 r1 => ⟨C, r, E.go s1, pst_imp (pst_bind (pst_go q s1)) fun d2 q w H2 s2 r2 => by
    cases d with
    | int i =>
      cases r1
      cases d2 with
      | int j =>
        cases r2
        obtain ⟨hc, q⟩ := pst_ite q
        exact ⟨i, j, rfl, hc, q _ H2 (s1.trans s2) (yl_rng i (j - i).toNat)⟩
      | _ => exact (show False from q).elim
    | _ => cases d2 <;> exact (show False from q).elim⟩⟩
/-- range with a step -/
def rgN (i j c : Int) : Nat := if 0 < c then ((j - i + c - 1) / c).toNat else ((i - j + (-c) - 1) / (-c)).toNat

/-! ### for -/
theorem pso_at {K : PySem.W.Frag} {C : ZC} {H : Hp} {r : Rho} {σ : St} {Dn : Ends} (E : EnvOk K C H r σ) {o : Out} (q : pso K cm W C Dn o) : pso K cm W (C.at H r σ) Dn o := by
  cases o with
  | nx r' => exact fun σ' H' E' => q σ' H' (E.ofAt E')
  | rt d r9 => exact fun v σ' H' E' rv => q v σ' H' (E.ofAt E') rv
  | bk r' => exact fun σ' H' E' => q σ' H' (E.ofAt E')
  | ct r' => exact fun σ' H' E' => q σ' H' (E.ofAt E')
  | xx k r' => exact fun σ' H' E' => q σ' H' (E.ofAt E')
  | no => exact q
theorem drop_at {α : Type} : ∀ {l : List α} {i : Nat} {d : α}, l[i]? = some d → l.drop i = d :: l.drop (i + 1)
  | [], i, d, h => by simp at h
  | a :: l, 0, d, h => by
    have e : a = d := Option.some.inj h
    rw [e]
    rfl
  | a :: l, i + 1, d, h => drop_at (l := l) (i := i) h
theorem for_core {is : List Nat} {G : D → Rho → Option Rho} {C : ZC} {H1 : Hp} {r : Rho} {σ : St} {J : It} {ds : List D} {Dn : Ends} (E1 : EnvOk X.K C H1 r σ) (q : pso X.K cm W C Dn (forL G F ds r)) (yl : Yl X.K (ground H1 r σ) C.B0 J ds) :
    ∃ V : Nat → Nat → St → Hp → Prop, (∃ m, V 0 m σ H1) ∧ ∀ i m σ' H', V i m σ' H' → (J.stop i H' ∧ Dn.nx σ' H') ∨ (J.go i H' ∧ ∃ N : St → Hp → Prop, (∀ σ2 H2, N σ2 H2 → ∃ m', m' < m ∧ V (i + 1) m' σ2 H2) ∧
      ∀ x H2, J.yld i H' x H2 → tG X.K is G x σ' H2 fun σ3 H3 => tS X.K cm W F { Dn with nx := N, ct := N, bk := Dn.nx } σ3 H3) := by
  have q := pso_at (cm := cm) (W := W) E1 q
  refine ⟨fun i m σ' H' => ∃ r', EnvOk X.K (C.at H1 r σ) H' r' σ' ∧ m = ds.length - i ∧ i ≤ ds.length ∧ pso X.K cm W (C.at H1 r σ) Dn (forL G F (ds.drop i) r'),
    ⟨ds.length, r, E1.toAt, by omega, Nat.zero_le _, q⟩, fun i m σ' H' ⟨r', E', em, hl, q'⟩ => ?_⟩
  obtain ⟨y1, y2, y3⟩ := yl i H' E'.same
  by_cases hlt : i < ds.length
  · refine .inr ⟨y1 hlt, fun σ2 H2 => ∃ r2, EnvOk X.K (C.at H1 r σ) H2 r2 σ2 ∧ pso X.K cm W (C.at H1 r σ) Dn (forL G F (ds.drop (i + 1)) r2), fun σ2 H2 ⟨r2, E2, q2⟩ => ⟨m - 1, by omega, r2, E2, by omega, hlt, q2⟩, fun x H2 hy => ?_⟩
    obtain ⟨s2, d, hd, rd⟩ := y3 x H2 hy hlt
    rw [drop_at hd] at q'
    have E2 := E'.go s2
    have rx : Rp X.K H2 (BB (C.at H1 r σ) r' σ') x d := rd _ fun a z => z.elim .inl fun z => .inr (E'.own z).choose_spec.2
    have q' : pso X.K cm W (C.at H1 r σ) Dn (match G d r' with
      | none => .no
      | some r1 => match F r1 with
        | .nx r2 => forL G F (ds.drop (i + 1)) r2
        | .ct r2 => forL G F (ds.drop (i + 1)) r2
        | .bk r2 => .nx r2
        | o => o) := q'
    cases hG : G d r' with
    | none => rw [hG] at q'; exact (show False from q').elim
    | some r1 =>
      rw [hG] at q'
      refine ⟨C.at H1 r σ, r', r1, d, E2, rx, hG, fun σ2 E3 _ _ => ⟨C.at H1 r σ, r1, E3, ?_⟩⟩
      have q' : pso X.K cm W (C.at H1 r σ) Dn (match F r1 with
        | .nx r2 => forL G F (ds.drop (i + 1)) r2
        | .ct r2 => forL G F (ds.drop (i + 1)) r2
        | .bk r2 => .nx r2
        | o => o) := q'
      cases hF : F r1 with
      | nx r2 => rw [hF] at q'; exact fun σ4 H4 E4 => ⟨r2, E4, q'⟩
      | ct r2 => rw [hF] at q'; exact fun σ4 H4 E4 => ⟨r2, E4, q'⟩
      | bk r2 => rw [hF] at q'; exact q'
      | rt d r9 => rw [hF] at q'; exact q'
      | xx k r2 => rw [hF] at q'; exact q'
      | no => rw [hF] at q'; exact q'
  · have e : i = ds.length := by omega
    subst e
    rw [List.drop_length] at q'
    exact .inl ⟨y2 (Nat.le_refl _), q' σ' H' E'⟩
theorem zs_for {tg iter : Expr} {body : List Stmt} {is : List Nat} {fi : Rho → R (List D)} {G : D → Rho → Option Rho} (A : AmbS X W k) (hi : ZI X cm W tg iter fi) (hg : ZG X tg is G) (hb : ZSs X cm W body F) (hs : ∀ x, foldedSetIterable iter X.env x = pure x := by intro _; rfl) :
    ZS X cm W (.For tg iter body [] pos) (sFor fi G F) :=
  PS.imp (ps_for A.po A.calm hi hg.pg hb hs) fun Dn σ H ⟨C, r, E, q⟩ => ⟨C, r, E, pst_imp (pso_of E q) fun ds q J H1 s1 yl => for_core (E.go s1) q yl⟩
theorem zs_while {body : List Stmt} {t : Rho → R Bool} (n : Nat) (A : AmbS X W k) (hc : ZT X cm W c t) (hb : ZSs X cm W body F) : ZS X cm W (.While c body [] pos) (whileL t F n) := by
  refine PS.imp (ps_while A.po hc hb) fun Dn σ H ⟨C, r, E, q⟩ => ⟨fun m σ' H' => ∃ r', EnvOk X.K C H' r' σ' ∧ pso X.K cm W C Dn (whileL t F m r'), ⟨n, r, E, q⟩, fun m σ' H' ⟨r', E', q'⟩ => ?_⟩
  cases m with
  | zero => exact (show False from q').elim
  | succ m =>
    have q' : pso X.K cm W C Dn (onE (t r') r' fun b => if b then (match F r' with
      | .nx r2 => whileL t F m r2
      | .ct r2 => whileL t F m r2
      | .bk r2 => .nx r2
      | o => o) else .nx r') := q'
    refine ⟨C, r', E', pst_imp (pso_of E' q') fun b q2 H2 s2 => ?_⟩
    cases b with
    | false => exact q2 σ' H2 (E'.go s2)
    | true =>
      refine ⟨fun σ3 H3 => ∃ r3, EnvOk X.K C H3 r3 σ3 ∧ pso X.K cm W C Dn (whileL t F m r3), fun σ3 H3 ⟨r3, E3, q3⟩ => ⟨m, Nat.lt_succ_self m, r3, E3, q3⟩, C, r', E'.go s2, ?_⟩
      have q2 : pso X.K cm W C Dn (match F r' with
        | .nx r2 => whileL t F m r2
        | .ct r2 => whileL t F m r2
        | .bk r2 => .nx r2
        | o => o) := q2
      cases hF : F r' with
      | nx r2 => rw [hF] at q2; exact fun σ4 H4 E4 => ⟨r2, E4, q2⟩
      | ct r2 => rw [hF] at q2; exact fun σ4 H4 E4 => ⟨r2, E4, q2⟩
      | bk r2 => rw [hF] at q2; exact q2
      | rt d r9 => rw [hF] at q2; exact q2
      | xx k r2 => rw [hF] at q2; exact q2
      | no => rw [hF] at q2; exact q2
end
end Z


set_option Elab.async false
set_option linter.all false
set_option maxRecDepth 100000
set_option maxHeartbeats 4000000
namespace Z
open PySem PySem.Spec PyProof.Rows L2

/-! ### comprehensions -/
abbrev W0 : WX := fun _ _ _ _ => False
def wipeR (r : Rho) : List Nat → Rho
  | [] => r
  | v :: vs => (wipeR r vs).set v .un
def noOw (r : Rho) (vs : List Nat) : Bool := vs.all fun i => match r[i]? with
  | some (.ow _) => false
  | _ => true
def compL (G : D → Rho → Option Rho) (T : Rho → R Bool) (f : Rho → R D) (r0 : Rho) : List D → List D → R (List D)
  | acc, [] => .ok acc
  | acc, d :: ds => match G d r0 with
    | none => .no
    | some r1 => match T r1 with
      | .ok true => (match f r1 with
        | .ok x => if acc.length < sizeLine then compL G T f r0 (acc ++ [x]) ds else .no
        | .ex k => .ex k
        | .no => .no)
      | .ok false => compL G T f r0 acc ds
      | _ => .no
def cLc (vs : List Nat) (fi : Rho → R (List D)) (G : D → Rho → Option Rho) (T : Rho → R Bool) (f : Rho → R D) : Rho → R (List D) := fun r => if noOw r vs = true then (fi r).bind fun ds => compL G T f (wipeR r vs) [] ds else .no
def cYes : Rho → R Bool := fun _ => .ok true
section
variable {K : PySem.W.Frag} {C : ZC} {H H' : Hp} {r : Rho} {σ : St}
theorem EnvOk.wipe (E : EnvOk K C H r σ) : ∀ vs : List Nat, EnvOk K C H (wipeR r vs) (wipe σ vs)
  | [] => E
  | v :: vs => (EnvOk.wipe E vs).set_un
theorem wipeR_out {i : Nat} : ∀ {vs : List Nat}, i ∉ vs → (wipeR r vs)[i]? = r[i]?
  | [], _ => rfl
  | v :: vs, h => by
    rw [List.mem_cons, not_or] at h
    unfold wipeR
    rw [List.getElem?_set_ne (fun e => h.1 e.symm)]
    exact wipeR_out h.2
theorem wipeR_length : ∀ vs : List Nat, (wipeR r vs).length = r.length
  | [] => rfl
  | v :: vs => by unfold wipeR; rw [List.length_set, wipeR_length vs]
theorem wipe_out' {i : Nat} : ∀ {vs : List Nat}, i ∉ vs → (wipe σ vs)[i]? = σ[i]?
  | [], _ => rfl
  | v :: vs, h => by
    rw [List.mem_cons, not_or] at h
    unfold wipe
    rw [List.getElem?_set_ne (fun e => h.1 e.symm)]
    exact wipe_out' h.2
theorem wipe_in {i : Nat} {a b : St} (hl : a.length = b.length) : ∀ {vs : List Nat}, i ∈ vs → (wipe a vs)[i]? = (wipe b vs)[i]?
  | v :: vs, h => by
    unfold wipe
    by_cases e : v = i
    · subst e
      have la := wipe_length a vs
      have lb := wipe_length b vs
      by_cases hv : v < a.length
      · rw [List.getElem?_set_self (by rw [la]; exact hv), List.getElem?_set_self (by rw [lb, ← hl]; exact hv)]
      · rw [List.getElem?_eq_none (by rw [List.length_set, la]; omega), List.getElem?_eq_none (by rw [List.length_set, lb]; omega)]
    · rw [List.getElem?_set_ne e, List.getElem?_set_ne e]
      rcases List.mem_cons.mp h with q | q
      · exact absurd q.symm e
      · exact wipe_in hl q
theorem wipe_eq {a b : St} {vs : List Nat} (hl : a.length = b.length) (h : ∀ i, i ∉ vs → a[i]? = b[i]?) : wipe a vs = wipe b vs := by
  apply List.ext_getElem?
  intro i
  by_cases hi : i ∈ vs
  · exact wipe_in hl hi
  · rw [wipe_out' hi, wipe_out' hi, h i hi]
theorem EnvOk.plus (E : EnvOk K C H r σ) {p : Addr} (np : H p = none) (s : Same H H') (hp : H' p ≠ none) : EnvOk K ⟨C.H0, fun a => C.B0 a ∨ a = p, C.p0⟩ H' r σ := by
  have bb : ∀ a, BB ⟨C.H0, fun a => C.B0 a ∨ a = p, C.p0⟩ r σ a → BB C r σ a ∨ H a = none := fun a z => by
    rcases z with (z | z) | z
    · exact .inl (.inl z)
    · exact .inr (by rw [z]; exact np)
    · exact .inl (.inr z)
  refine ⟨E.len, E.same.trans s, fun a h => ?_, fun i d h => ?_, fun i ds h => ?_, E.inj, E.pin, E.tb.go s⟩
  · rcases h with h | h
    · exact ⟨fun z => (E.b0 a h).1 (s.free z), (E.b0 a h).2⟩
    · refine ⟨by rw [h]; exact hp, fun z => ?_⟩
      obtain ⟨vs, e, _⟩ := E.own z
      rw [h, np] at e
      cases e
  · obtain ⟨v, e, q⟩ := E.sh i d h
    exact ⟨v, e, q.mono s bb⟩
  · obtain ⟨a, vs, e1, e2, e3, q⟩ := E.ow i ds h
    exact ⟨a, vs, e1, s.at e2, e3, q.mono s bb⟩
/-- a list of which nothing else knows is changed -/
theorem RpAll.updB {B : Addr → Prop} {p : Addr} {vs ws : List V} {ds : List D} {o : HO} (q : RpAll K H B vs ds) (hb : B p) (hp : H p = some (.lst ws)) : RpAll K (upd H p o) B vs ds := by
  refine Rp.stepAll ⟨fun b xs rd nb => ⟨?_, nb⟩, fun b xs t => ?_, fun b φ t => by rw [upd_ne fun z => by rw [z, hp] at t; exact nomatch t]; exact t⟩ ds vs q
  · have ne : b ≠ p := fun z => nb (by rw [z]; exact hb)
    rcases rd with rd | ⟨o, rd⟩
    · exact .inl (by rw [upd_ne ne]; exact rd)
    · exact .inr ⟨o, by rw [upd_ne ne]; exact rd⟩
  · rcases t with t | t
    · rcases t with t | ⟨o, t⟩
      · have ne : b ≠ p := fun z => by rw [z, hp] at t; cases t
        exact .inl (.inl (by rw [upd_ne ne]; exact t))
      · have ne : b ≠ p := fun z => by rw [z, hp] at t; cases t
        exact .inl (.inr ⟨o, by rw [upd_ne ne]; exact t⟩)
    · exact .inr t
theorem Rp.updB {B : Addr → Prop} {p : Addr} {ws : List V} {v : V} {d : D} {o : HO} (q : Rp K H B v d) (hb : B p) (hp : H p = some (.lst ws)) : Rp K (upd H p o) B v d := by
  have h := RpAll.updB (o := o) (RpAll.cons q .nil) hb hp
  cases h with
  | cons a b => exact a
end
section
variable {X : Cx} {cm : Nat → Addr} {W : WX} {k : Nat} {e a b c : Expr} {f g h : Rho → R D} {pos : Pos}
abbrev ZTs (X : Cx) (cm : Nat → Addr) (W : WX) (es : List Expr) (f : Rho → R Bool) : Prop := PTs X es (tT X.K cm W f)
theorem zts_nil : ZTs X cm W [] cYes := by
  refine ⟨fun pins s σ H Q I ⟨C, r, E, q⟩ => pts_nil.run pins s σ H Q I ?_⟩
  exact q H (Same.refl H)
theorem zts_one {T : Rho → R Bool} (h : ZT X cm W e T) : ZTs X cm W [e] T := pts_one h
theorem Amb.blk (A : Amb X W k) (s : Shared) (H : Hp) (scope : Scope) (C : Addr) (cl : List (Str × Addr)) (fp : List Addr) : Amb (X.blk s H scope (compEnvC scope cl C X.env) fp) W0 k :=
  ⟨A.calm, A.nd, fun u s' ⟨_, _, _, _, _, _, _, _, _, _, _, _, _, _, _, _, w⟩ => w.elim, let ⟨e0, out, L, h1, h2, h3⟩ := A.tp.ex; ⟨⟨e0, out, L, h1, h2, h3⟩⟩, A.hr, A.gd⟩
theorem Amb.blkX (A : Amb X W k) (s : Shared) (H : Hp) (scope : Scope) (C : Addr) (cl : List (Str × Addr)) (fp : List Addr) (pl : List (Addr × Obj)) (xe : Value → Shared → Prop) (Wb : WX) (tf : TakesF ((X.blk s H scope (compEnvC scope cl C X.env) fp).tr pl xe) Wb) :
    Amb ((X.blk s H scope (compEnvC scope cl C X.env) fp).tr pl xe) Wb k := ⟨A.calm, A.nd, tf, let ⟨e0, out, L, h1, h2, h3⟩ := A.tp.ex; ⟨⟨e0, out, L, h1, h2, h3⟩⟩, A.hr, A.gd⟩
theorem compL_step {G : D → Rho → Option Rho} {T : Rho → R Bool} {r0 : Rho} {d : D} {ds acc : List D} {res : R (List D)} (h : compL G T f r0 acc (d :: ds) = res) (hn : res ≠ .no) :
    ∃ r1 t, G d r0 = some r1 ∧ T r1 = .ok t ∧ (t = false → compL G T f r0 acc ds = res) ∧ (t = true → (∃ x, f r1 = .ok x ∧ acc.length < sizeLine ∧ compL G T f r0 (acc ++ [x]) ds = res) ∨ ∃ j, f r1 = .ex j ∧ res = .ex j) := by
  unfold compL at h
  cases hG : G d r0 with
  | none => rw [hG] at h; exact absurd h.symm hn
  | some r1 =>
    rw [hG] at h
    cases hT : T r1 with
    | ex i => simp only [hT] at h; exact absurd h.symm hn
    | no => simp only [hT] at h; exact absurd h.symm hn
    | ok t =>
      refine ⟨r1, t, rfl, hT, fun e => ?_, fun e => ?_⟩
      · subst e
        simp only [hT] at h
        exact h
      · subst e
        simp only [hT] at h
        cases hf : f r1 with
        | no => simp only [hf] at h; exact absurd h.symm hn
        | ex i => simp only [hf] at h; exact .inr ⟨i, rfl, h.symm⟩
        | ok x =>
          simp only [hf] at h
          by_cases hz : acc.length < sizeLine
          · rw [if_pos hz] at h
            exact .inl ⟨x, rfl, hz, h⟩
          · rw [if_neg hz] at h
            exact absurd h.symm hn
theorem lc_reads {K : PySem.W.Frag} {is vs : List Nat} {fi : Rho → R (List D)} {G : D → Rho → Option Rho} {T : Rho → R Bool} (hk : ∀ d r r', G d r = some r' → ∀ j, j ∉ is → r'[j]? = r[j]?) (hz' : ∀ d r r', G d r = some r' → r'.length = r.length) (hv : ∀ i ∈ is, i ∈ vs) :
    ∀ σ H Q, tF K cm W (cLc vs fi G T f) σ H Q → tLcX W (tI K cm W fi) (tG K is G) (tT K cm W0 T) (fun Wb => tE K cm Wb f) vs σ H Q := fun σ H Q ⟨C, r, E, q⟩ => by
  obtain ⟨hno, q⟩ := pst_ite q
  refine ⟨C, r, E, pst_imp (pst_bind q) fun ds q J H1 s1 yl D hD => ?_⟩
  have E1 := E.go s1
  obtain ⟨res, hc⟩ : ∃ res, compL G T f (wipeR r vs) [] ds = res := ⟨_, rfl⟩
  rw [hc] at q
  have hn : res ≠ .no := fun e => by rw [e] at q; exact q
  have notow : ∀ i ds, r[i]? = some (.ow ds) → i ∉ vs := fun i ds hr hi => by
    have z := List.all_eq_true.mp hno i hi
    rw [hr] at z
    cases z
  have qok : ∀ es, res = .ok es → ∀ p vs' H', Same H H' → H p = none → H' p = some (.lst vs') → RpAll K H' (fun a => BB C r σ a ∨ a = p) vs' es → Q (.ref p) H' := fun es e => by rw [e] at q; exact q
  have qex : ∀ j, res = .ex j → ∀ H', Same H H' → W (.ref (cm j)) none σ H' := fun j e => by rw [e] at q; exact q
  refine ⟨fun i m H' => ∃ acc dacc, m = ds.length - i ∧ i ≤ ds.length ∧ Same H1 H' ∧ H' D = some (.lst acc) ∧ RpAll K H' (fun a => BB C r σ a ∨ a = D) acc dacc ∧ compL G T f (wipeR r vs) dacc (ds.drop i) = res,
    ⟨ds.length, [], [], by omega, Nat.zero_le _, same_upd hD, upd_same, .nil, hc⟩, fun i m H' ⟨acc, dacc, em, hl, s2, hD', ra, hcc⟩ => ?_⟩
  have sg : Same (ground H1 r σ) H' := ground_same.trans s2
  obtain ⟨y1, y2, y3⟩ := yl i H' sg
  by_cases hlt : i < ds.length
  · refine .inr ⟨y1 hlt, fun H4 => ∃ acc dacc, Same H1 H4 ∧ H4 D = some (.lst acc) ∧ RpAll K H4 (fun a => BB C r σ a ∨ a = D) acc dacc ∧ compL G T f (wipeR r vs) dacc (ds.drop (i + 1)) = res,
      fun H4 ⟨acc, dacc, h1, h2, h3, h4⟩ => ⟨m - 1, by omega, acc, dacc, by omega, hlt, h1, h2, h3, h4⟩, fun x H2 hy => ?_⟩
    obtain ⟨s3, d, hd, rd⟩ := y3 x H2 hy hlt
    rw [drop_at hd] at hcc
    obtain ⟨r1, t, hG, hT, hf, ht⟩ := compL_step hcc hn
    have s4 : Same H1 H2 := s2.trans s3
    have hD2 : H2 D = some (.lst acc) := s3.at hD'
    have ra2 := ra.mono (B' := fun a => BB C r σ a ∨ a = D) s3 (fun _ z => .inl z)
    have E2 : EnvOk K ⟨C.H0, fun a => C.B0 a ∨ a = D, C.p0⟩ H2 (wipeR r vs) (wipe σ vs) := (E1.plus hD s4 (by rw [hD2]; exact fun z => nomatch z)).wipe vs
    have ownw : ∀ a, OwnA (wipeR r vs) (wipe σ vs) a → OwnA r σ a := fun a ⟨j, es, h1, h2⟩ => by
      by_cases hj : j ∈ vs
      · exfalso
        obtain ⟨e, _⟩ := wipe_some (show (wipe σ vs)[j]? = some (some (V.ref a)) from h2)
        exact (wipe_some (show (wipe σ vs)[j]? = some (some (V.ref a)) from h2)).2 hj
      · rw [wipeR_out hj] at h1
        rw [wipe_out' hj] at h2
        exact ⟨j, es, h1, h2⟩
    have rx : Rp K H2 (BB ⟨C.H0, fun a => C.B0 a ∨ a = D, C.p0⟩ (wipeR r vs) (wipe σ vs)) x d := rd _ fun a z => by
      rcases z with (z | z) | z
      · exact .inl z
      · refine .inr ?_
        rw [z]
        exact ground_same.free hD
      · exact .inr (ground_own (ownw a z))
    refine ⟨⟨C.H0, fun a => C.B0 a ∨ a = D, C.p0⟩, wipeR r vs, r1, d, E2, rx, hG, fun σ2 E3 bb hσ => ⟨?_, ?_⟩⟩
    · refine wipe_eq ?_ fun i hi => ?_
      · have l1 := E3.len
        have l2 := E1.len
        have l3 : (wipeR r vs).length = r.length := wipeR_length vs
        rw [← l1, ← l2, hz' d _ _ hG, l3]
      · exact (hσ i fun z => hi (hv i z)).trans (wipe_out' hi)
    · refine ⟨_, r1, E3, ?_⟩
      rw [hT]
      intro H5 s5
      have s6 := s4.trans s5
      have hD5 : H5 D = some (.lst acc) := s5.at hD2
      have ra5 := ra2.mono (B' := fun a => BB C r σ a ∨ a = D) s5 (fun _ z => .inl z)
      cases t with
      | false =>
        rw [if_neg Bool.false_ne_true]
        exact ⟨acc, dacc, s6, hD5, ra5, hf rfl⟩
      | true =>
        rw [if_pos rfl]
        refine ⟨_, r1, E3.go s5, ?_⟩
        rcases ht rfl with ⟨y, hy, hz, hc2⟩ | ⟨j, hy, hres⟩
        rotate_left
        · rw [hy]
          exact fun H6 s7 => qex j hres H6 (s1.trans (s6.trans s7))
        rw [hy]
        intro v H6 s7 rv
        have hD6 : H6 D = some (.lst acc) := s7.at hD5
        have ra6 := ra5.mono (B' := fun a => BB C r σ a ∨ a = D) s7 (fun _ z => .inl z)
        have rv6 : Rp K H6 (fun a => BB C r σ a ∨ a = D) v y := rv.mono (Same.refl _) fun a z => .inl (by
          rcases z with (z | ⟨j, es, h1, h2⟩) | z
          · exact .inl (.inl z)
          · have hj := notow j es h1
            refine .inr ⟨j, es, ?_, ?_⟩
            · rw [hk d _ _ hG j fun z => hj (hv j z), wipeR_out hj]
              exact h1
            · rw [hσ j fun z => hj (hv j z), wipe_out' hj]
              exact h2
          · exact .inl (.inr z))
        exact ⟨acc, hD6, by rw [ra.length]; exact hz, acc ++ [v], dacc ++ [y], (s6.trans s7).new hD hD6, upd_same, (ra6.updB (.inr rfl) hD6).append (.cons (rv6.updB (.inr rfl) hD6) .nil), hc2⟩
  · have e : i = ds.length := by omega
    subst e
    rw [List.drop_length] at hcc
    exact .inl ⟨y2 (Nat.le_refl _), qok dacc hcc.symm D acc H' (s1.trans s2) (s1.free hD) hD' ra⟩
section
variable {elt tg iter : Expr} {ifs : List Expr} {scope : Scope} {own : List (Str × Nat)} {is : List Nat} {fi : Rho → R (List D)} {G : D → Rho → Option Rho} {T : Rho → R Bool}
/-- name = [..] on one line, the element may raise -/
theorem ps_setLcX {i : Nat} {y : Str} {py spos : Pos} {wi : TI} {g : TG} {tt : TT} {te : WX → TE} (A : Amb X W k) (hy : X.N[i]? = some y) (hyl : X.env.scope.names.lookup y = some .local)
    (hsw : swapsWith (.ListComp elt [⟨tg, iter, ifs, 0⟩] scope pos) (some (.Name y py)) spos.line X.env = pure true) (hi : PI X tg iter wi) (ok : BlkOk X.N X.env.scope scope own)
    (hg : ∀ (s : Shared) (H : Hp) (C : Addr) (cl : List (Str × Addr)) (fp : List Addr), PG (X.blk s H scope (compEnvC scope cl C X.env) fp) tg g) (ht : ∀ (s : Shared) (H : Hp) (C : Addr) (cl : List (Str × Addr)) (fp : List Addr), PTs (X.blk s H scope (compEnvC scope cl C X.env) fp) ifs tt)
    (he : ∀ (s : Shared) (H : Hp) (C : Addr) (cl : List (Str × Addr)) (fp : List Addr) (pl : List (Addr × Obj)) (xe : Value → Shared → Prop) (Wb : WX), TakesF ((X.blk s H scope (compEnvC scope cl C X.env) fp).tr pl xe) Wb → PE ((X.blk s H scope (compEnvC scope cl C X.env) fp).tr pl xe) elt (te Wb))
    (hs : ∀ x, foldedSetIterable iter X.env x = pure x := by intro _; rfl) : PS X (.Assign [.Name y py] (.ListComp elt [⟨tg, iter, ifs, 0⟩] scope pos) spos) (tAsg (tLcX W wi g tt te (own.map (·.2))) (gName i)) := by
  refine ⟨fun pins s σ H Dn I want => ?_⟩
  rw [exec_Assign_Name_used _ _ _ _ hsw]
  refine wpAny_bind (wpAny_standAt (wpAny_bind ?_))
  show wpAny _ X.A (do
    let _ ← comprehension (.ListComp elt [⟨tg, iter, ifs, 0⟩] scope pos) scope X.env (firstIterPos [⟨tg, iter, ifs, 0⟩] pos) (newList []) false (eval iter X.env) (some (assign (.Name y py) X.env))) _ _ s
  have want : tLcX W wi g tt te (own.map (·.2)) σ H (fun x H1 => gName i x σ H1 Dn.nx) := want
  refine wpAny_bind (thn (lc_coreX (Ok := Calm) (Qf := fun _ t => SP X pins Dn .next t) (fun _ _ _ _ _ _ => A.calm) A.nd A.tf A.tp I (.of hi) ok hg ht he hs want fun L ce t m H' J q n f => ?_) fun _ t z => wpAny_pure (wpAny_pure z))
  show wpAny _ _ (assign (.Name y py) X.env (.ref L)) _ _ _
  refine wpAny_assign_Name (store_ok2 (v := V.ref L) J A.nd hy (.inl hyl) rfl (fun t2 J2 ⟨a, sb, ha⟩ => ?_) (.inr hyl))
  obtain ⟨f0, f1, f2, f3, f4, f5⟩ := f
  have off : ce.locals ≠ a := ha.elim (fun z => by rw [z]; exact f1) fun z e => f4 y a z e.symm
  exact ⟨m, n.sameBut sb off, fun h3 sb3 => ⟨_, H', J2.turned (t' := t2.toks) (fun b o n z => (sb3.2 b n).trans z) f0 f1 f3 f4 f5, q⟩⟩
theorem zf_lc (own : List (Str × Nat)) (A : Amb X W k) (hi : ZI X cm W tg iter fi) (ok : BlkOk X.N X.env.scope scope own) (hg : ∀ (s : Shared) (H : Hp) (C : Addr) (cl : List (Str × Addr)) (fp : List Addr), ZG (X.blk s H scope (compEnvC scope cl C X.env) fp) tg is G)
    (ht : ∀ (s : Shared) (H : Hp) (C : Addr) (cl : List (Str × Addr)) (fp : List Addr), Amb (X.blk s H scope (compEnvC scope cl C X.env) fp) W0 k → ZTs (X.blk s H scope (compEnvC scope cl C X.env) fp) cm W0 ifs T)
    (he : ∀ (s : Shared) (H : Hp) (C : Addr) (cl : List (Str × Addr)) (fp : List Addr) (pl : List (Addr × Obj)) (xe : Value → Shared → Prop) (Wb : WX), Amb ((X.blk s H scope (compEnvC scope cl C X.env) fp).tr pl xe) Wb k → ZE ((X.blk s H scope (compEnvC scope cl C X.env) fp).tr pl xe) cm Wb elt f)
    (hv : ∀ i ∈ is, i ∈ own.map (·.2) := by decide) (hs : ∀ x, foldedSetIterable iter X.env x = pure x := by intro _; rfl) :
    ZF X cm W (.ListComp elt [⟨tg, iter, ifs, 0⟩] scope pos) (cLc (own.map (·.2)) fi G T f) :=
  PE.imp (pe_lcX (g := tG X.K is G) (tt := tT X.K cm W0 T) (te := fun Wb => tE X.K cm Wb f) (Ok := Calm) (fun _ _ _ _ _ _ _ _ => A.calm) A.nd A.tf A.tp (.of hi) ok (fun s H C cl fp => (hg s H C cl fp).pg) (fun s H C cl fp => ht s H C cl fp (A.blk s H scope C cl fp)) (fun s H C cl fp pl xe Wb tf => he s H C cl fp pl xe Wb (A.blkX s H scope C cl fp pl xe Wb tf)) hs)
    (lc_reads (hg X.s_0 X.H_0 0 [] []).keep (hg X.s_0 X.H_0 0 [] []).size hv)
theorem zs_setLc (i : Nat) {y : Str} {py spos : Pos} (own : List (Str × Nat)) (A : Amb X W k) (hi : ZI X cm W tg iter fi) (ok : BlkOk X.N X.env.scope scope own) (hg : ∀ (s : Shared) (H : Hp) (C : Addr) (cl : List (Str × Addr)) (fp : List Addr), ZG (X.blk s H scope (compEnvC scope cl C X.env) fp) tg is G)
    (ht : ∀ (s : Shared) (H : Hp) (C : Addr) (cl : List (Str × Addr)) (fp : List Addr), Amb (X.blk s H scope (compEnvC scope cl C X.env) fp) W0 k → ZTs (X.blk s H scope (compEnvC scope cl C X.env) fp) cm W0 ifs T)
    (he : ∀ (s : Shared) (H : Hp) (C : Addr) (cl : List (Str × Addr)) (fp : List Addr) (pl : List (Addr × Obj)) (xe : Value → Shared → Prop) (Wb : WX), Amb ((X.blk s H scope (compEnvC scope cl C X.env) fp).tr pl xe) Wb k → ZE ((X.blk s H scope (compEnvC scope cl C X.env) fp).tr pl xe) cm Wb elt f)
    (hsw : swapsWith (.ListComp elt [⟨tg, iter, ifs, 0⟩] scope pos) (some (.Name y py)) spos.line X.env = pure true) (hv : ∀ i ∈ is, i ∈ own.map (·.2) := by decide) (hs : ∀ x, foldedSetIterable iter X.env x = pure x := by intro _; rfl)
    (hy : X.N[i]? = some y := by rfl) (hyl : X.env.scope.names.lookup y = some .local := by rfl) :
    ZS X cm W (.Assign [.Name y py] (.ListComp elt [⟨tg, iter, ifs, 0⟩] scope pos) spos) (sSet i (cL (cLc (own.map (·.2)) fi G T f))) :=
  PS.imp (ps_setLcX (g := tG X.K is G) (tt := tT X.K cm W0 T) (te := fun Wb => tE X.K cm Wb f) A hy hyl hsw hi ok (fun s H C cl fp => (hg s H C cl fp).pg) (fun s H C cl fp => ht s H C cl fp (A.blk s H scope C cl fp)) (fun s H C cl fp pl xe Wb tf => he s H C cl fp pl xe Wb (A.blkX s H scope C cl fp pl xe Wb tf)) hs) fun Dn σ H ⟨C, r, E, q⟩ =>
    lc_reads (K := X.K) (cm := cm) (W := W) (f := f) (hg X.s_0 X.H_0 0 [] []).keep (hg X.s_0 X.H_0 0 [] []).size hv σ H (fun x H1 => Dn.nx (σ.set i (some x)) H1) ⟨C, r, E, pst_imp (pst_bind (pso_of E q)) fun ds q p vs H1 s1 np hp rp =>
      q _ H1 ((E.go s1).set_sh (.lst (.mk (.inl hp) (fun z => E.bb z np)) (rp.mono (Same.refl _) fun a z => .inl (.inl z))))⟩
theorem zs_ownLc (i : Nat) {y : Str} {py spos : Pos} (own : List (Str × Nat)) (A : Amb X W k) (hi : ZI X cm W tg iter fi) (ok : BlkOk X.N X.env.scope scope own) (hg : ∀ (s : Shared) (H : Hp) (C : Addr) (cl : List (Str × Addr)) (fp : List Addr), ZG (X.blk s H scope (compEnvC scope cl C X.env) fp) tg is G)
    (ht : ∀ (s : Shared) (H : Hp) (C : Addr) (cl : List (Str × Addr)) (fp : List Addr), Amb (X.blk s H scope (compEnvC scope cl C X.env) fp) W0 k → ZTs (X.blk s H scope (compEnvC scope cl C X.env) fp) cm W0 ifs T)
    (he : ∀ (s : Shared) (H : Hp) (C : Addr) (cl : List (Str × Addr)) (fp : List Addr) (pl : List (Addr × Obj)) (xe : Value → Shared → Prop) (Wb : WX), Amb ((X.blk s H scope (compEnvC scope cl C X.env) fp).tr pl xe) Wb k → ZE ((X.blk s H scope (compEnvC scope cl C X.env) fp).tr pl xe) cm Wb elt f)
    (hsw : swapsWith (.ListComp elt [⟨tg, iter, ifs, 0⟩] scope pos) (some (.Name y py)) spos.line X.env = pure true) (hv : ∀ i ∈ is, i ∈ own.map (·.2) := by decide) (hs : ∀ x, foldedSetIterable iter X.env x = pure x := by intro _; rfl)
    (hy : X.N[i]? = some y := by rfl) (hyl : X.env.scope.names.lookup y = some .local := by rfl) :
    ZS X cm W (.Assign [.Name y py] (.ListComp elt [⟨tg, iter, ifs, 0⟩] scope pos) spos) (sOwn i (cLc (own.map (·.2)) fi G T f)) :=
  PS.imp (ps_setLcX (g := tG X.K is G) (tt := tT X.K cm W0 T) (te := fun Wb => tE X.K cm Wb f) A hy hyl hsw hi ok (fun s H C cl fp => (hg s H C cl fp).pg) (fun s H C cl fp => ht s H C cl fp (A.blk s H scope C cl fp)) (fun s H C cl fp pl xe Wb tf => he s H C cl fp pl xe Wb (A.blkX s H scope C cl fp pl xe Wb tf)) hs) fun Dn σ H ⟨C, r, E, q⟩ =>
    lc_reads (K := X.K) (cm := cm) (W := W) (f := f) (hg X.s_0 X.H_0 0 [] []).keep (hg X.s_0 X.H_0 0 [] []).size hv σ H (fun x H1 => Dn.nx (σ.set i (some x)) H1) ⟨C, r, E, pst_imp (pso_of E q) fun ds q p vs H1 s1 np hp rp => by
      by_cases hl : i < r.length ∧ i ≠ 0
      · rw [if_pos hl] at q
        exact q _ H1 (E.set_ow np s1 hp rp hl.1 hl.2)
      · rw [if_neg hl] at q
        exact (show False from q).elim⟩
end

/-! ### defs: run where nothing is under way that repr would look at -/
structure FnG (P : Program) (w : World) (K : PySem.W.Frag) (mg : Str → Option Value) (base : Heap) (CX : CXT) (k : Nat) (f : Addr) (fd : FuncData) (ps : List Str) (sp : Sp) : Prop where
  len : ∀ vs H Q E, sp vs H Q E → vs.length = ps.length
  run : ∀ {A : Around} {outer : List Env} {s : Shared} {H : Hp} {args : Args} {us : List Value} {vs : List V} {Q : VK} {E : XK}, Room k A → A.guards = some [] → Env0 P w K mg base A outer s H → BindsTo s fd args (ps.zip us) → Vals vs us →
    sp vs H Q E → codeAny (model P w) A (.call (.ref f) args) (CR CX outer P w H s Q E) s
theorem FnG.mono {P : Program} {w : World} {K : PySem.W.Frag} {mg : Str → Option Value} {base : Heap} {CX : CXT} {i j : Nat} {f : Addr} {fd : FuncData} {ps : List Str} {sp : Sp} (F : FnG P w K mg base CX i f fd ps sp) (h : i ≤ j) : FnG P w K mg base CX j f fd ps sp :=
  ⟨F.len, fun hr => F.run (hr.mono h)⟩
theorem FnG.imp {P : Program} {w : World} {K : PySem.W.Frag} {mg : Str → Option Value} {base : Heap} {CX : CXT} {i : Nat} {f : Addr} {fd : FuncData} {ps : List Str} {sp sp' : Sp} (F : FnG P w K mg base CX i f fd ps sp) (h : ∀ vs H Q E, sp' vs H Q E → sp vs H Q E) : FnG P w K mg base CX i f fd ps sp' :=
  ⟨fun vs H Q E q => F.len vs H Q E (h _ _ _ _ q), fun hr hg e0 hb hv hs => F.run hr hg e0 hb hv (h _ _ _ _ hs)⟩
/-- a def of the text, by its body -/
theorem fnG_of {P : Program} {w : World} {K : PySem.W.Frag} {mg : Str → Option Value} {base : Heap} {CX : CXT} {k : Nat} {x qual : Str} {st : Stmt} {f : Addr} {fd : FuncData} {N ps : List Str} {sp : Sp} (Fn : Fun K x qual st f fd) (S : FnScope N ps (defScope st)) (len : ∀ vs H Q E, sp vs H Q E → vs.length = ps.length)
    (body : ∀ (cdv : Value) (A : Around) (outer : List Env) (s : Shared) (H : Hp) (vs : List V) (Q : VK) (E : XK), Room k (A.deeper (envOfC qual (defScope st) s.heap.objs.size f cdv)) → A.guards = some [] → fd.code = cdv → sp vs H Q E →
      ∃ t, PSs (cxOf CX P w K mg base N qual (defScope st) f cdv A outer s H E) (defBody st) t ∧ t { nx := fun _ H' => Q .non H', rt := Q } (start N vs) H) : FnG P w K mg base CX (k + 1) f fd ps sp := by
  obtain ⟨oc, od, kV, doc, pm, an, cdv, ct, osl, rfl, lk, hcd⟩ := Fn.ex
  exact ⟨len, fun hr hg e0 hb r hsp => LamX.run_ofS lk hcd S hr e0 hb r (len _ _ _ _ hsp) fun hr' => body cdv _ _ _ _ _ _ _ hr' hg rfl hsp⟩
section
variable {X : Cx} {CX : CXT} {k : Nat} {f : Addr} {fd : FuncData} {ps : List Str} {sp : Sp} {E : St → XK} {x : Str} {p pos : Pos} {e : Expr} {es : List Expr} {t : TA}
theorem run_fnG {pins : List (Addr × Obj)} {σ : St} {H : Hp} {s : Shared} {Q : VK} {us : List Value} {vs : List V} {Ex : XK} (F : FnG X.prog X.w X.K X.mg X.base CX k f fd ps sp) (hr : Room k X.A) (hg : X.A.guards = some []) (hb : Binds X.K fd ps []) (px : PassesAt CX X σ Ex) (I : Inv X pins σ H s) (rv : Vals vs us)
    (hsp : sp vs H Q Ex) : wpAny (model X.prog X.w) X.A (call (.ref f) us) (EP X pins σ Q) X.xe s := by
  have hl : us.length = ps.length := rv.length.symm.trans (F.len _ _ _ _ hsp)
  have b := hb s us I.kIn (by simpa using hl)
  rw [List.append_nil] at b
  refine wpAny_call (codeAny_mono (F.run hr hg I.env0 b rv hsp) fun res s' z => ?_)
  match res, z with
  | .error u, z => exact px pins H s u s' I z
  | .ok (.ret u), z => exact I.after z
theorem pe_callG (F : FnG X.prog X.w X.K X.mg X.base CX k f fd ps sp) (hr : Room k X.A) (hgd : X.A.guards = some []) (hg : Gl X x) (hm : X.mg x = some (.ref f)) (hk : PySem.W.keepIn X.K (.ref f) = true) (hb : Binds X.K fd ps []) (px : ∀ σ, PassesAt CX X σ (E σ))
    (ha : PA X (e :: es) t) (hdb : (x == ("__debug__" : Str)) = false := by decide) (he : starEach (e :: es) X.env = (false, eval e X.env) :: starEach es X.env := by rfl) (hpl : (backTo pos (starEach es X.env)).any (·.1) = false := by rfl) :
    PE X (.Call (.Name x p) (e :: es) [] pos) (tCallS sp E t) := ⟨fun pins s σ H Q I q =>
  wpAny_Call_Name_kw (ld_glob I hg hm (PySem.W.callWith_K (h₀ := X.base) I.ok.mod.kin hk (thn (ha.run pos pins s σ H _ I q) fun us s1 ⟨vs, H1, I1, rv, hsp⟩ => ⟨I1.kIn, run_fnG F hr hgd hb (px σ) I1 rv hsp⟩) he hpl) hdb)⟩
end
/-- the promise of a def that computes Gd -/
def spZ (K : PySem.W.Frag) (cm : Nat → Addr) (Gd : List D → R D) : Sp := fun vs H Q E => ∃ (B : Addr → Prop) (ds : List D), NB B H ∧ TabsK K H ∧ RpAll K H B vs ds ∧ match Gd ds with
  | .ok d => ∀ v H', Same H H' → Rp K H' B v d → Q v H'
  | .ex k => ∀ H', Same H H' → E (.ref (cm k)) none H'
  | .no => False
structure ZFn (P : Program) (w : World) (K : PySem.W.Frag) (mg : Str → Option Value) (base : Heap) (cm : Nat → Addr) (x : Str) (k : Nat) (Gd : List D → R D) : Prop where
  ex : ∃ (f : Addr) (fd : FuncData) (ps : List Str), mg x = some (.ref f) ∧ PySem.W.keepIn K (.ref f) = true ∧ Binds K fd ps [] ∧ FnG P w K mg base (L2N.CX P w) k f fd ps (spZ K cm Gd)
def startR (n : Nat) (ds : List D) : Rho := ds.map .sh ++ List.replicate (n - ds.length) .un
def runF (n m : Nat) (F : SF) (ds : List D) : R D := if ds.length = m then runS F (startR n ds) else .no
theorem ZFn.imp {P : Program} {w : World} {K : PySem.W.Frag} {mg : Str → Option Value} {base : Heap} {x : Str} {Gd Gd' : List D → R D} (Y : ZFn P w K mg base cm x k Gd) (h : ∀ ds, Gd' ds = .no ∨ Gd ds = Gd' ds) : ZFn P w K mg base cm x k Gd' := by
  obtain ⟨f, fd, ps, h1, h2, h3, h4⟩ := Y.ex
  refine ⟨f, fd, ps, h1, h2, h3, h4.imp fun vs H Q E ⟨B, ds, nb, tb, r, q⟩ => ⟨B, ds, nb, tb, r, ?_⟩⟩
  rcases h ds with e | e
  · rw [e] at q; exact (show False from q).elim
  · rw [e]; exact q
theorem ZFn.up {P : Program} {w : World} {K : PySem.W.Frag} {mg : Str → Option Value} {base : Heap} {x : Str} {j : Nat} {Gd : List D → R D} (Y : ZFn P w K mg base cm x j Gd) (h : j ≤ k) : ZFn P w K mg base cm x k Gd := by
  obtain ⟨f, fd, ps, h1, h2, h3, h4⟩ := Y.ex
  exact ⟨f, fd, ps, h1, h2, h3, h4.mono h⟩
def cCall (Gd : List D → R D) (fa : Rho → R (List D)) : Rho → R D := fun r => (fa r).bind Gd
theorem call_reads {K : PySem.W.Frag} {Gd : List D → R D} {fa : Rho → R (List D)} : ∀ σ H Q, tE K cm W (cCall Gd fa) σ H Q → tCallS (spZ K cm Gd) (WE W) (tA K cm W fa) σ H Q := fun σ H Q ⟨C, r, E, q⟩ =>
  ⟨C, r, E, pst_imp (pst_bind q) fun ds q vs H1 s1 rv => ⟨BB C r σ, ds, E.nb.go s1, E.tb.go s1, rv, by
    cases hG : Gd ds with
    | ok d => rw [hG] at q; exact fun v H2 s2 rd => q v H2 (s1.trans s2) rd
    | ex k => rw [hG] at q; exact fun H2 s2 => q H2 (s1.trans s2)
    | no => rw [hG] at q; exact q⟩⟩
theorem ze_call {x : Str} {p : Pos} {es : List Expr} {j : Nat} {Gd : List D → R D} {fa : Rho → R (List D)} (Y : ZFn X.prog X.w X.K X.mg X.base cm x j Gd) (A : Amb X W k) (hj : j ≤ k) (ha : ZA X cm W (e :: es) fa) (hg : Gl X x := by rfl)
    (hdb : (x == ("__debug__" : Str)) = false := by decide) (he : starEach (e :: es) X.env = (false, eval e X.env) :: starEach es X.env := by rfl) (hpl : (backTo pos (starEach es X.env)).any (·.1) = false := by rfl) :
    ZE X cm W (.Call (.Name x p) (e :: es) [] pos) (cCall Gd fa) := by
  obtain ⟨f, fd, ps, h1, h2, h3, h4⟩ := (Y.up hj).ex
  exact PE.imp (pe_callG (E := WE W) h4 A.hr A.gd hg h1 h2 h3 (fun σ => passAtF A.tf σ) ha hdb he hpl) call_reads
theorem ze_call0 {x : Str} {p : Pos} {j : Nat} {Gd : List D → R D} (Y : ZFn X.prog X.w X.K X.mg X.base cm x j Gd) (A : Amb X W k) (hj : j ≤ k) (hg : Gl X x := by rfl) (hdb : (x == ("__debug__" : Str)) = false := by decide) :
    ZE X cm W (.Call (.Name x p) [] [] pos) (cCall Gd cNil) := by
  obtain ⟨f, fd, ps, h1, h2, h3, h4⟩ := (Y.up hj).ex
  refine ⟨fun pins s σ H Q I h => ?_⟩
  refine wpAny_Call_Name_kw (ld_glob I hg h1 ?_ hdb)
  refine PySem.W.callWith_K0 I.kIn h2 (run_fnG (us := []) (vs := []) h4 A.hr A.gd h3 (passAtF A.tf σ) I .nil ?_)
  have q := call_reads (fa := cNil) σ H Q h
  obtain ⟨C, r, E, q⟩ := q
  exact q [] H (Same.refl H) .nil
theorem start_env {K : PySem.W.Frag} {H : Hp} {B : Addr → Prop} {N : List Str} {vs : List V} {ds : List D} (nb : NB B H) (tb : TabsK K H) (r : RpAll K H B vs ds) : EnvOk K ⟨H, B, none⟩ H (startR N.length ds) (L2.start N vs) := by
  have l := r.length
  have noow : ∀ (i : Nat) es, (startR N.length ds)[i]? ≠ some (.ow es) := fun i es e => by
    unfold startR at e
    by_cases hi : i < ds.length
    · rw [List.getElem?_append_left (by simpa using hi), List.getElem?_map] at e
      cases h : ds[i]? with
      | none => rw [h] at e; cases e
      | some d => rw [h] at e; cases e
    · rw [List.getElem?_append_right (by simpa using hi), List.getElem?_replicate] at e
      split at e <;> cases e
  have noown : ∀ a, ¬ OwnA (startR N.length ds) (L2.start N vs) a := fun a ⟨i, es, h, _⟩ => noow i es h
  refine ⟨?_, Same.refl H, fun a h => ⟨nb a h, noown a⟩, fun i d h => ?_, fun i es h => (noow i es h).elim, fun i j es _ _ h => (noow i es h).elim, (fun _ _ h => nomatch h), tb⟩
  · unfold startR L2.start
    simp only [List.length_append, List.length_map, List.length_replicate, l]
  · have hi : i < ds.length := by
      by_cases hi : i < ds.length
      · exact hi
      · unfold startR at h
        rw [List.getElem?_append_right (by simpa using hi), List.getElem?_replicate] at h
        split at h <;> cases h
    unfold startR at h
    rw [List.getElem?_append_left (by simpa using hi), List.getElem?_map] at h
    cases hd : ds[i]? with
    | none => rw [hd] at h; cases h
    | some d' =>
      rw [hd] at h
      cases h
      obtain ⟨v, hv, rv⟩ := r.get' hd
      refine ⟨v, ?_, rv.mono (Same.refl H) fun a z => .inl (z.elim id fun z => (noown a z).elim)⟩
      unfold L2.start
      rw [List.getElem?_append_left (by rw [List.length_map, l]; exact hi), List.getElem?_map, hv]
      rfl
theorem zfn_ok {P : Program} {w : World} {K : PySem.W.Frag} {mg : Str → Option Value} {base : Heap} {x : Str} {st : Stmt} {f : Addr} {fd : FuncData} {N ps : List Str} {F : SF} (Fn : Fun K x x st f fd) (S : FnScope N ps (defScope st)) 
    (body : ∀ (cdv : Value) (A : Around) (outer : List Env) (s : Shared) (H : Hp) (E : XK), AmbS (cxOf (L2N.CX P w) P w K mg base N x (defScope st) f cdv A outer s H E) (fun c d _ H' => E c d H') k →
      ZSs (cxOf (L2N.CX P w) P w K mg base N x (defScope st) f cdv A outer s H E) cm (fun c d _ H' => E c d H') (defBody st) F) : FnG P w K mg base (L2N.CX P w) (k + 1) f fd ps (spZ K cm (runF N.length ps.length F)) := by
  refine fnG_of Fn S (fun vs H Q E ⟨B, ds, nb, tb, r, q⟩ => ?_) (fun cdv A outer s H vs Q E hr hg _ ⟨B, ds, nb, tb, r, q⟩ => ⟨_, body cdv A outer s H E ⟨⟨rfl, S.nd, takesF_of (L2N.takes_of rfl rfl rfl rfl) rfl, .def_ rfl rfl, hr, hg⟩, passes_of rfl, L2N.takes_of rfl rfl rfl rfl⟩, ?_⟩)
  · unfold runF at q
    by_cases hl : ds.length = ps.length
    · rw [r.length, hl]
    · rw [if_neg hl] at q; exact (show False from q).elim
  · unfold runF at q
    by_cases hl : ds.length = ps.length
    · rw [if_pos hl] at q
      refine ⟨⟨H, B, none⟩, startR N.length ds, start_env nb tb r, ?_⟩
      unfold runS at q
      cases hF : F (startR N.length ds) with
      | nx r' => rw [hF] at q; exact fun σ' H' E' => q .non H' E'.same .non
      | rt d r9 => rw [hF] at q; exact fun v σ' H' E' rv => q v H' E'.same (rv.mono (Same.refl _) fun a z => .inl (.inl z))
      | bk r' => rw [hF] at q; exact (show False from q).elim
      | ct r' => rw [hF] at q; exact (show False from q).elim
      | xx j r' => rw [hF] at q; exact fun σ' H' E' => q H' E'.same
      | no => rw [hF] at q; exact q
    · rw [if_neg hl] at q; exact (show False from q).elim

theorem zfn {P : Program} {w : World} {K : PySem.W.Frag} {mg : Str → Option Value} {base : Heap} {x : Str} {st : Stmt} {f : Addr} {fd : FuncData} {N ps : List Str} {F : SF} (Fn : Fun K x x st f fd) (S : FnScope N ps (defScope st)) (hm : mg x = some (.ref f)) (hb : Binds K fd ps [])
    (body : ∀ (cdv : Value) (A : Around) (outer : List Env) (s : Shared) (H : Hp) (E : XK), AmbS (cxOf (L2N.CX P w) P w K mg base N x (defScope st) f cdv A outer s H E) (fun c d _ H' => E c d H') k →
      ZSs (cxOf (L2N.CX P w) P w K mg base N x (defScope st) f cdv A outer s H E) cm (fun c d _ H' => E c d H') (defBody st) F) : ZFn P w K mg base cm x (k + 1) (runF N.length ps.length F) := ⟨f, fd, ps, hm, Fn.kp, hb, zfn_ok Fn S body⟩

theorem TopF.tr {X : Cx} (t : TopF X) (pn : List (Addr × Obj)) (xe : Value → Shared → Prop) : TopF (X.tr pn xe) := let ⟨e0, out, L, h1, h2, h3⟩ := t.ex; ⟨⟨e0, out, L, h1, h2, h3⟩⟩
/-! ### exceptions -/
abbrev veChain : List Value := [.type "ValueError", .type "Exception", .type "BaseException", .type "object"]
structure ZExc (K : PySem.W.Frag) (mg : Str → Option Value) (cm : Nat → Addr) (x : Str) (k : Nat) : Prop where
  gC : mg x = some (.ref (cm k))
  q : PySem.W.excIn K (cm k) veChain "ValueError.__new__" = true
  kC : PySem.W.keepIn K (.ref (cm k)) = true
  b : PySem.W.subIn K (.ref (cm k)) (.type "BaseException") = some true
  t : PySem.W.typeIn K (.ref (cm k)) = some (.type "type")
theorem zs_raise {x m : Str} {j i : Nat} {p p2 p3 : Pos} (A : AmbS X W k) (Y : ZExc X.K X.mg cm x i) (hg : Gl X x := by rfl) (hdb : (x == ("__debug__" : Str)) = false := by decide) :
    ZS X cm W (.Raise (some (.Call (.Name x p) [.Constant (.str m) j p2] [] p3)) none pos) (sRaise i) :=
  PS.imp (L2N.ps_raise A.calm A.tk (L2N.pmk_own PySem.F.excBase_ValueError Y.q Y.gC Y.kC (raises_own Y.b Y.t) hg hdb)) fun Dn σ H ⟨C, r, E, q⟩ => q σ H E
def noX : Out → Out
  | .xx _ _ => .no
  | o => o
theorem pso_noX {K : PySem.W.Frag} {C : ZC} {Dn : Ends} {o : Out} (h : pso K cm W C Dn (noX o)) {W' : WX} : pso K cm W' C Dn o := by
  cases o with
  | xx k r => exact (show False from h).elim
  | nx r => exact h
  | rt d r9 => exact h
  | bk r => exact h
  | ct r => exact h
  | no => exact h
def sTryO (F : SF) (mt : Nat → Option Bool) (G : SF) : SF := fun r => match F r with
  | .xx k r' => match mt k with
    | some true => noX (G r')
    | some false => .xx k r'
    | none => .no
  | o => o
theorem zs_tryO {x : Str} {body suite : List Stmt} {b0 : Stmt} {np pos' : Pos} {kc : Nat} {F G : SF} {mt : Nat → Option Bool} (A : AmbS X W k) (hx : X.mg x = some (.ref (cm kc))) (hm : ∀ i b, mt i = some b → PySem.W.exmOne X.K (.ref (cm i)) (.ref (cm kc)) = some b)
    (hb : ∀ (W' : WX) (pn : List (Addr × Obj)) (xe : Value → Shared → Prop), AmbS (X.tr pn xe) W' k → ZSs (X.tr pn xe) cm W' body F)
    (hsu : ∀ (a : Addr) (pn : List (Addr × Obj)), ZSs (X.suite a pn) cm W0 (b0 :: suite) G) (hst : X.stack = X.env :: X.outer := by rfl) (hf : X.env.frame = some X.env.locals := by rfl) (hg : Gl X x := by rfl) (hdb : (x == ("__debug__" : Str)) = false := by decide) :
    ZS X cm W (.Try body [.ExceptHandler (some (.Name x np)) none (b0 :: suite) pos'] [] [] pos) (sTryO F mt G) := by
  refine PS.imp (L2N.ps_try_many (l := [(.ref (cm kc), fun _ _ _ => tS X.K cm W0 G)]) (tb := fun W' => tS X.K cm W' F) hst hf A.tk (fun W' pn xe tk po => hb W' pn xe ⟨⟨A.calm, A.nd, takesF_of tk hf, A.tp.tr pn xe, A.hr, A.gd⟩, po, tk⟩) (.cons ⟨hg, hdb, .inl hx⟩ (fun a oe cls d pn _ _ => hsu a _) .nil)) fun Dn σ H ⟨C, r, E, q⟩ => ⟨C, r, E, ?_⟩
  unfold sTryO at q
  cases hF : F r with
  | xx i r' =>
    rw [hF] at q
    intro σ' H' E'
    cases hmi : mt i with
    | none => simp only [hmi] at q; exact (show False from q).elim
    | some b =>
      refine ⟨b, hm i b hmi, fun e a _ => ?_, fun e => ?_⟩
      · subst e
        simp only [hmi] at q
        exact ⟨C, r', E', pso_noX q⟩
      · subst e
        simp only [hmi] at q
        exact q σ' H' E'
  | nx r' => rw [hF] at q; exact q
  | rt d r9 => rw [hF] at q; exact q
  | bk r' => rw [hF] at q; exact q
  | ct r' => rw [hF] at q; exact q
  | no => rw [hF] at q; exact q

/-! ### isinstance with a built-in type -/
def isDict : D → Bool
  | .dict _ => true
  | _ => false
theorem tyX_of {K : PySem.W.Frag} {H : Hp} {B : Addr → Prop} {v : V} : ∀ {d : D}, isDict d = false → RpC K H B v d → TyX K H v (.type (kindD d))
  | .none, _, r => by rw [r.non]; exact .base .non
  | .bool b, _, r => by rw [r.bl]; exact .base (.bl b)
  | .int i, _, r => by rw [r.int]; exact .base (.int i)
  | .str x, _, r => by rw [r.str]; exact .base (.str x)
  | .list ds, _, r => by
    obtain ⟨a, xs, rfl, h, _⟩ := r.lstE
    rcases h with (h | ⟨o, h⟩) | ⟨o, its, n, h, h2, _⟩
    · exact .base (.lst h)
    · exact .base (.frz h)
    · exact .kList h h2
  | .tuple ds, _, r => by
    obtain ⟨a, xs, rfl, h, _⟩ := r.tup
    rcases h with (h | ⟨o, h⟩) | ⟨o, its, n, h, h2, _⟩
    · exact .base (.tup h)
    · exact .fTuple h
    · exact .kTuple h h2
  | .dict _, h, _ => nomatch h
def isiD (is : String → Bool) (d : D) : R D := if isDict d = false then .ok (.bool (is (kindD d))) else .no
theorem ze_isi {T : String} {is : String → Bool} {y : Str} {p p2 : Pos} (hk : ∀ d : D, kitB (kindD d) T = some (is (kindD d))) (ha : ZK X cm W a f) (hy : X.mg y = none) (hv : bootBuiltins y = some (.type T)) (hm : X.mg "isinstance" = none) (hg : Gl X "isinstance" := by rfl) (hgy : Gl X y := by rfl)
    (he : starEach (a :: [.Name y p2]) X.env = (false, eval a X.env) :: starEach [.Name y p2] X.env := by rfl) (he2 : starEach (.Name y p2 :: []) X.env = (false, eval (.Name y p2) X.env) :: starEach [] X.env := by rfl) (hpl : (backTo pos (starEach [.Name y p2] X.env)).any (·.1) = false := by rfl)
    (hn : y ≠ "__name__" := by decide) (hdb : (y == ("__debug__" : Str)) = false := by decide) :
    ZE X cm W (.Call (.Name "isinstance" p) [a, .Name y p2] [] pos) (cB1 (isiD is) f) :=
  PE.imp (pe_callB call_isi hg hm (by decide +kernel) (pa_cons ha (pa_cons (pe_bltn (v := .ty T) hgy hy hv rfl hn hdb) pa_nil he2) he) (by decide) (by decide) he hpl) (then1 (kk := fun x H Q => rIsi X.K [x, .ty T] H Q) fun σ H B x d Q hb rx q =>
    let ⟨hd, q⟩ := res_ite q
    ⟨x, .ty T, .type (kindD d), .type T, is (kindD d), rfl, .ty T, tyX_of hd rx, kit_ty (hk d), (show Res X.K cm W σ B H (.ok (.bool (is (kindD d)))) Q from q).ok (.bl _)⟩)
end
end Z


set_option Elab.async false
set_option linter.all false
set_option maxRecDepth 100000
set_option maxHeartbeats 4000000
namespace Z
open PySem PySem.Spec PyProof.Rows L2
theorem ite_nx {α : Type} {p : Prop} [Decidable p] {x y : R α} (hx : ∀ j, x ≠ .ex j) (hy : ∀ j, y ≠ .ex j) : ∀ j, (if p then x else y) ≠ .ex j := fun j => by
  by_cases h : p
  · rw [if_pos h]; exact hx j
  · rw [if_neg h]; exact hy j
theorem ok_nx {α : Type} {a : α} : ∀ j, (R.ok a) ≠ .ex j := fun j e => by cases e
theorem no_nx {α : Type} : ∀ j, (R.no : R α) ≠ .ex j := fun j e => by cases e
theorem eqD_nx (d e : D) (j : Nat) : eqD d e ≠ .ex j := ite_nx ok_nx no_nx j
theorem neD_nx (d e : D) (j : Nat) : neD d e ≠ .ex j := ite_nx ok_nx no_nx j
theorem ltD_nx (d e : D) (j : Nat) : ltD d e ≠ .ex j := fun h => by cases d <;> cases e <;> cases h
theorem leD_nx (d e : D) (j : Nat) : leD d e ≠ .ex j := fun h => by cases d <;> cases e <;> cases h
theorem gtD_nx (d e : D) (j : Nat) : gtD d e ≠ .ex j := fun h => by cases d <;> cases e <;> cases h
theorem geD_nx (d e : D) (j : Nat) : geD d e ≠ .ex j := fun h => by cases d <;> cases e <;> cases h
theorem sgnD_nx (z : Str) (x : D) (j : Nat) : sgnD z x ≠ .ex j := fun h => by
  cases x with
  | str w =>
    unfold sgnD at h
    simp only at h
    split at h <;> cases h
  | _ => cases h
theorem inD_nx (d e : D) (j : Nat) : inD d e ≠ .ex j := fun h => by
  cases e with
  | list ys => exact ite_nx ok_nx no_nx j h
  | tuple ys => exact ite_nx ok_nx no_nx j h
  | str z => exact sgnD_nx z d j h
  | _ => cases h
theorem notInD_nx (d e : D) (j : Nat) : notInD d e ≠ .ex j := bind_nox (inD_nx d e) (fun _ _ h => by cases h) j
section
variable {X : Cx} {cm : Nat → Addr} {W : WX} {k : Nat} {e a b c : Expr} {f g h : Rho → R D} {pos : Pos}
theorem rp_non {K : PySem.W.Frag} {H : Hp} {B : Addr → Prop} {v : V} {d : D} (r : RpC K H B v d) : isND d = .ok (decide (v = .non)) ∧ notND d = .ok (!decide (v = .non)) := by
  cases d with
  | none => rw [r.non]; exact ⟨rfl, rfl⟩
  | bool b => rw [r.bl]; exact ⟨rfl, rfl⟩
  | int b => rw [r.int]; exact ⟨rfl, rfl⟩
  | str b => rw [r.str]; exact ⟨rfl, rfl⟩
  | list b => obtain ⟨a, xs, rfl, _⟩ := r.lstE; exact ⟨rfl, rfl⟩
  | tuple b => obtain ⟨a, xs, rfl, _⟩ := r.tup; exact ⟨rfl, rfl⟩
  | dict b => obtain ⟨f, rfl⟩ := r.dictE; exact ⟨rfl, rfl⟩
theorem zt_isN {j pos'} (ha : ZK X cm W a f) : ZT X cm W (.Compare a [.Is] [.Constant .none j pos'] pos) (cT1 isND f) := PT.imp (pt_cmp (pc_isN ha)) (then1T (kk := fun x H Q => ∃ c, V.bl (decide (x = .non)) = .bl c ∧ Q c H) fun σ H B x d Q hb rx q => ⟨_, rfl, by
  rw [(rp_non rx).1] at q
  exact q H (Same.refl H)⟩)
theorem zt_notN {j pos'} (ha : ZK X cm W a f) : ZT X cm W (.Compare a [.IsNot] [.Constant .none j pos'] pos) (cT1 notND f) := PT.imp (pt_cmp (pc_notN ha)) (then1T (kk := fun x H Q => ∃ c, V.bl (!decide (x = .non)) = .bl c ∧ Q c H) fun σ H B x d Q hb rx q => ⟨_, rfl, by
  rw [(rp_non rx).2] at q
  exact q H (Same.refl H)⟩)
def tR (F : D → R Bool) (d : D) : R D := (F d).bind fun b => .ok (.bool b)
theorem ze_isN {j pos'} (ha : ZK X cm W a f) : ZE X cm W (.Compare a [.Is] [.Constant .none j pos'] pos) (cB1 (tR isND) f) := PE.imp (pe_cmp (pc_isN ha)) (then1 (kk := fun x H Q => Q (.bl (decide (x = .non))) H) fun σ H B x d Q hb rx q => by
  unfold tR at q
  rw [(rp_non rx).1] at q
  exact (show Res X.K cm W σ B H (.ok (.bool (decide (x = .non)))) Q from q).ok (.bl _))
theorem ze_notN {j pos'} (ha : ZK X cm W a f) : ZE X cm W (.Compare a [.IsNot] [.Constant .none j pos'] pos) (cB1 (tR notND) f) := PE.imp (pe_cmp (pc_notN ha)) (then1 (kk := fun x H Q => Q (.bl (!decide (x = .non))) H) fun σ H B x d Q hb rx q => by
  unfold tR at q
  rw [(rp_non rx).2] at q
  exact (show Res X.K cm W σ B H (.ok (.bool (!decide (x = .non)))) Q from q).ok (.bl _))

/-! ### range with a step -/
def rng3L (i c : Int) (n : Nat) : List D := (List.range n).map fun m => .int (i + (m : Nat) * c)
def rng3D : D → D → D → R (List D)
  | .int i, .int j, .int c => if c ≠ 0 ∧ c.natAbs < 1073741824 ∧ Builtin.Range.small i j c = true ∧ 0 ≤ Builtin.Range.rangeSize i j c then .ok (rng3L i c (Builtin.Range.rangeSize i j c).toNat) else .no
  | _, _, _ => .no
theorem yl_rng3 {K : PySem.W.Frag} {Hb : Hp} {B0 : Addr → Prop} (lo c : Int) (n : Nat) : Yl K Hb B0 (Itc lo c n) (rng3L lo c n) := fun i H s => by
  have hl : (rng3L lo c n).length = n := by simp [rng3L]
  rw [hl]
  refine ⟨fun h => h, fun h => h, fun x H' y hi => ?_⟩
  obtain ⟨e, y⟩ := y
  subst e
  refine ⟨Same.refl _, .int (lo + (i : Nat) * c), ?_, fun B hB => ?_⟩
  · unfold rng3L
    rw [List.getElem?_map, List.getElem?_range hi]
    rfl
  · rw [y]
    exact .int _
def cR3 (f g h : Rho → R D) : Rho → R (List D) := fun r => (f r).bind fun x => (g r).bind fun y => (h r).bind fun z => rng3D x y z
theorem zi_range3 {tg : Expr} {p : Pos} (ha : ZE X cm W a f) (hb : ZE X cm W b g) (hc : ZE X cm W c h) (hm : X.mg "range" = none) (hg : Gl X "range" := by rfl) (hs1 : starEach (a :: [b, c]) X.env = (false, eval a X.env) :: starEach [b, c] X.env := by rfl) (hs2 : starEach (b :: [c]) X.env = (false, eval b X.env) :: starEach [c] X.env := by rfl) (hs3 : starEach (c :: []) X.env = (false, eval c X.env) :: starEach [] X.env := by rfl) (hpl : (backTo pos (starEach [b, c] X.env)).any (·.1) = false := by rfl) :
    ZI X cm W tg (.Call (.Name "range" p) [a, b, c] [] pos) (cR3 f g h) :=
  PI.imp (pi_range3 hg hm (pa_cons ha (pa_cons hb (pa_cons hc pa_nil hs3) hs2) hs1) hs1 hpl) fun σ H Q ⟨C, r, E, q⟩ => ⟨C, r, E, pst_imp (pst_bind q) fun d q v H1 s1 r1 => ⟨C, r, E.go s1, pst_imp (pst_bind (pst_go q s1)) fun d2 q w H2 s2 r2 => ⟨C, r, E.go (s1.trans s2), pst_imp (pst_bind (pst_go q s2)) fun d3 q u H3 s3 r3 => by
    cases d with
    | int i =>
      cases r1
      cases d2 with
      | int j =>
        cases r2
        cases d3 with
        | int l =>
          cases r3
          obtain ⟨hc, q⟩ := pst_ite q
          exact ⟨i, j, l, _, rfl, ⟨hc.1, hc.2.1, hc.2.2.1, (Int.toNat_of_nonneg hc.2.2.2).symm⟩, q _ H3 ((s1.trans s2).trans s3) (yl_rng3 i l _)⟩
        | _ => exact (show False from q).elim
      | _ => cases d3 <;> exact (show False from q).elim
    | _ => cases d2 <;> cases d3 <;> exact (show False from q).elim⟩⟩⟩

/-! ### dicts of the module with text keys and flat values -/
structure ZDict (K : PySem.W.Frag) (w : World) (mg : Str → Option Value) (x : Str) (tab : List (Str × Str)) : Prop where
  ex : ∃ d es n, mg x = some (.ref d) ∧ KDict K w d es n ∧ ∀ z : Str, ∃ r, PySem.W.nsIn K d z = some r ∧ match List.lookup z tab with
    | some y => ∃ u, r = some u ∧ RelV (.str y) u
    | none => r = none
def kdIn (tab : List (Str × Str)) : D → R Bool
  | .str z => .ok (List.lookup z tab).isSome
  | _ => .no
def kdNotIn (tab : List (Str × Str)) : D → R Bool
  | .str z => .ok (!(List.lookup z tab).isSome)
  | _ => .no
def kdIx (tab : List (Str × Str)) : D → R D
  | .str z => match List.lookup z tab with
    | some y => .ok (.str y)
    | none => .no
  | _ => .no
theorem zt_inKD {x : Str} {p : Pos} {tab : List (Str × Str)} (Y : ZDict X.K X.w X.mg x tab) (ha : ZK X cm W a f) (hg : Gl X x := by rfl) (hd : (x == ("__debug__" : Str)) = false := by decide) (hm : behindInMarks .In (.Name x p) = false := by rfl) :
    ZT X cm W (.Compare a [.In] [.Name x p] pos) (cT1 (kdIn tab) f) := by
  obtain ⟨d, es, n, hx, hd2, ht⟩ := Y.ex
  refine PT.imp (pt_cmpR (op_in_kd hd2) ha (pe_glob (v := .ref d) hg hx rfl hd) hm) (then1T (kk := fun x H Q => ∃ (z : Str) (r : Option Value), x = .str z ∧ V.ref d = .ref d ∧ PySem.W.nsIn X.K d z = some r ∧ ∃ k, V.bl r.isSome = .bl k ∧ Q k H) fun σ H B x e Q hb rx q => ?_)
  cases e with
  | str z =>
    obtain ⟨r, h1, h2⟩ := ht z
    refine ⟨z, r, rx.str, rfl, h1, _, rfl, ?_⟩
    have q : ∀ H', Same H H' → Q (List.lookup z tab).isSome H' := q
    cases hl : List.lookup z tab with
    | none => rw [hl] at h2 q; rw [h2]; exact q H (Same.refl H)
    | some y => rw [hl] at h2 q; obtain ⟨u, e, _⟩ := h2; rw [e]; exact q H (Same.refl H)
  | _ => exact (show False from q).elim
theorem zt_notInKD {x : Str} {p : Pos} {tab : List (Str × Str)} (Y : ZDict X.K X.w X.mg x tab) (ha : ZK X cm W a f) (hg : Gl X x := by rfl) (hd : (x == ("__debug__" : Str)) = false := by decide) (hm : behindInMarks .NotIn (.Name x p) = false := by rfl) :
    ZT X cm W (.Compare a [.NotIn] [.Name x p] pos) (cT1 (kdNotIn tab) f) := by
  obtain ⟨d, es, n, hx, hd2, ht⟩ := Y.ex
  refine PT.imp (pt_cmpR (op_notIn_kd hd2) ha (pe_glob (v := .ref d) hg hx rfl hd) hm) (then1T (kk := fun x H Q => ∃ (z : Str) (r : Option Value), x = .str z ∧ V.ref d = .ref d ∧ PySem.W.nsIn X.K d z = some r ∧ ∃ k, V.bl (!r.isSome) = .bl k ∧ Q k H) fun σ H B x e Q hb rx q => ?_)
  cases e with
  | str z =>
    obtain ⟨r, h1, h2⟩ := ht z
    refine ⟨z, r, rx.str, rfl, h1, _, rfl, ?_⟩
    have q : ∀ H', Same H H' → Q (!(List.lookup z tab).isSome) H' := q
    cases hl : List.lookup z tab with
    | none => rw [hl] at h2 q; rw [h2]; exact q H (Same.refl H)
    | some y => rw [hl] at h2 q; obtain ⟨u, e, _⟩ := h2; rw [e]; exact q H (Same.refl H)
  | _ => exact (show False from q).elim
theorem ze_ixKD {x : Str} {p : Pos} {tab : List (Str × Str)} (Y : ZDict X.K X.w X.mg x tab) (ha : ZK X cm W a f) (hg : Gl X x := by rfl) (hd : (x == ("__debug__" : Str)) = false := by decide) (hs : PlainIx a := by exact fun _ _ => rfl) :
    ZE X cm W (.Subscript (.Name x p) a pos) (cB1 (kdIx tab) f) := by
  obtain ⟨d, es, n, hx, hd2, ht⟩ := Y.ex
  refine PE.imp (pe_ix ix_kdict (pe_glob (v := .ref d) hg hx rfl hd) ha hs) (then1 (kk := fun y H Q => rIxD X.K X.w (.ref d) y H Q) fun σ H B x e Q hb rx q => ?_)
  cases e with
  | str z =>
    obtain ⟨r, h1, h2⟩ := ht z
    have q' : Res X.K cm W σ B H (match List.lookup z tab with
      | some y => R.ok (.str y)
      | none => .no) Q := q
    cases hl : List.lookup z tab with
    | none => rw [hl] at q'; exact (show False from q').elim
    | some y =>
      rw [hl] at h2 q'
      obtain ⟨u, e, ru⟩ := h2
      subst e
      exact ⟨d, z, .str y, rfl, rx.str, ⟨es, n, u, hd2.at_, hd2.lit, h1, ru⟩, q'.ok (.str _)⟩
  | _ => exact (show False from q).elim
end
end Z
namespace Z
open PySem PySem.Spec PyProof.Rows L2
/-- enough turns for any while here; never unfolded -/
def fuelW : Nat := 2 ^ 2000000
/-- the def x of the text stands in the module -/
def FnHas (K : PySem.W.Frag) (mg : Str → Option Value) (x : Str) (st : Stmt) (ps : List Str) : Prop := ∃ f fd, Fun K x x st f fd ∧ mg x = some (.ref f) ∧ L2.Binds K fd ps []
theorem zfnH {P : Program} {w : World} {K : PySem.W.Frag} {mg : Str → Option Value} {base : Heap} {cm : Nat → Addr} {k : Nat} {x : Str} {st : Stmt} {N ps : List Str} {F : SF} (Y : FnHas K mg x st ps) (S : FnScope N ps (defScope st))
    (body : ∀ (f : Addr) (cdv : Value) (A : Around) (outer : List Env) (s : Shared) (H : Hp) (E : XK), AmbS (cxOf (L2N.CX P w) P w K mg base N x (defScope st) f cdv A outer s H E) (fun c d _ H' => E c d H') k →
      ZSs (cxOf (L2N.CX P w) P w K mg base N x (defScope st) f cdv A outer s H E) cm (fun c d _ H' => E c d H') (defBody st) F) : ZFn P w K mg base cm x (k + 1) (runF N.length ps.length F) := by
  obtain ⟨f, fd, h1, h2, h3⟩ := Y
  exact zfn h1 S h2 h3 (body f)
end Z
namespace Z
open PySem PySem.Spec PyProof.Rows L2
theorem kit_tuple : ∀ d : D, kitB (kindD d) "tuple" = some (kindD d == "tuple")
  | .none => (by decide +kernel : kitB "NoneType" "tuple" = some ("NoneType" == "tuple"))
  | .bool _ => (by decide +kernel : kitB "bool" "tuple" = some ("bool" == "tuple"))
  | .int _ => (by decide +kernel : kitB "int" "tuple" = some ("int" == "tuple"))
  | .str _ => (by decide +kernel : kitB "str" "tuple" = some ("str" == "tuple"))
  | .list _ => (by decide +kernel : kitB "list" "tuple" = some ("list" == "tuple"))
  | .tuple _ => (by decide +kernel : kitB "tuple" "tuple" = some ("tuple" == "tuple"))
  | .dict _ => (by decide +kernel : kitB "dict" "tuple" = some ("dict" == "tuple"))
/-! ### constants of the module -/
theorem globD_str {K : PySem.W.Frag} {mg : Str → Option Value} {x y : Str} {t : Tok} (h : mg x = some (.str y t)) : GlobD K mg x (.str y) := ⟨_, .str y, h, ⟨t, rfl⟩, fun _ _ => .str y⟩
theorem globD_int {K : PySem.W.Frag} {mg : Str → Option Value} {x : Str} {y : Int} {t : Tok} (h : mg x = some (.int y t)) : GlobD K mg x (.int y) := ⟨_, .int y, h, ⟨t, rfl⟩, fun _ _ => .int y⟩
/-- the texts of a written tuple -/
def strVals : List Value → Option (List Str)
  | [] => some []
  | .str x _ :: r => (strVals r).map (x :: ·)
  | _ :: _ => none
theorem strVals_ok : ∀ {us : List Value} {xs : List Str}, strVals us = some xs → Vals (xs.map V.str) us
  | [], xs, h => by
    have e : xs = [] := (Option.some.inj h).symm
    subst e
    exact .nil
  | .str x t :: r, xs, h => by
    have h' : (strVals r).map (x :: ·) = some xs := h
    cases e : strVals r with
    | none => rw [e] at h'; cases h'
    | some ys =>
      rw [e] at h'
      have e2 : xs = x :: ys := (Option.some.inj h').symm
      subst e2
      exact .cons ⟨t, rfl⟩ (strVals_ok e)
  | .none :: _, _, h => nomatch h
  | .bool _ :: _, _, h => nomatch h
  | .int _ _ :: _, _, h => nomatch h
  | .ref _ :: _, _, h => nomatch h
  | .type _ :: _, _, h => nomatch h
theorem globD_strs {K : PySem.W.Frag} {mg : Str → Option Value} {x : Str} {a : Addr} {dd : Option Addr} {its : Array Value} {n : Nat} {sl : Array (Option Value)} {ys : List Str} (h : mg x = some (.ref a)) (hk : K.lookup a = some ⟨.type "tuple", dd, .seq its n, sl⟩)
    (hv : strVals its.toList = some ys) (hz : ys.length ≤ 1000) : GlobD K mg x (.tuple (ys.map .str)) := by
  have r := strVals_ok hv
  have l := r.length
  rw [List.length_map] at l
  exact ⟨_, .ref a, h, rfl, fun _ _ => .tup (.inr ⟨_, its, n, hk, rfl, rfl, by have := small1000 hz; have := Array.length_toList (xs := its); omega, r⟩) (.strs _)⟩
/-- a written dict with text keys and text values -/
def strEnts : List DictEntry → Option (List (Str × Str))
  | [] => some []
  | e :: r => match e.key, e.val with
    | .str x _, .str y _ => (strEnts r).map ((x, y) :: ·)
    | _, _ => none
theorem strEnts_find : ∀ {es : List DictEntry} {tab : List (Str × Str)} (z : Str), strEnts es = some tab → (match List.lookup z tab with
    | some y => ∃ e, es.find? (·.key.isStr z) = some e ∧ RelV (.str y) e.val
    | none => es.find? (·.key.isStr z) = none) ∧ es.any (·.refKey) = false
  | [], tab, z, h => by
    have e : tab = [] := (Option.some.inj h).symm
    subst e
    exact ⟨rfl, rfl⟩
  | e :: r, tab, z, h => by
    unfold strEnts at h
    split at h
    · rename_i x t y u hk hv
      cases er : strEnts r with
      | none => rw [er] at h; cases h
      | some tr =>
        rw [er] at h
        have et : tab = (x, y) :: tr := (Option.some.inj h).symm
        subst et
        obtain ⟨h1, h2⟩ := strEnts_find (es := r) z er
        have hkey : e.key.isStr z = decide (x = z) := by
          rw [hk, PySem.W.isStr_of]
          unfold Value.isStrOf
          simp [Bool.beq_eq_decide_eq]
        refine ⟨?_, ?_⟩
        · by_cases hz : z = x
          · subst hz
            rw [List.lookup_cons_self]
            refine ⟨e, ?_, ?_⟩
            · rw [List.find?_cons_of_pos]
              rw [hkey]; simp
            · rw [hv]; exact ⟨u, rfl⟩
          · have hl : List.lookup z ((x, y) :: tr) = List.lookup z tr := by
              rw [List.lookup_cons]
              have : (z == x) = false := beq_eq_false_iff_ne.mpr hz
              rw [this]
            rw [hl]
            have hn : ¬ (e.key.isStr z = true) := by
              rw [hkey]
              simp
              exact fun q => hz q.symm
            have hf : List.find? (fun x => x.key.isStr z) (e :: r) = List.find? (fun x => x.key.isStr z) r := List.find?_cons_of_neg hn
            rw [hf]
            exact h1
        · rw [List.any_cons, h2]
          have : e.refKey = false := by
            unfold DictEntry.refKey
            rw [hk]
          rw [this]; rfl
    · cases h
theorem zdict {K : PySem.W.Frag} {w : World} {mg : Str → Option Value} {x : Str} {d : Addr} {es : Array DictEntry} {n : Nat} {tab : List (Str × Str)} (h : mg x = some (.ref d)) (hk : K.lookup d = some ⟨.type "dict", none, .dict es n, #[]⟩) (hl : PySem.W.KeysLit w.params es.toList) (hlow : (d == sysModules) = false)
    (ht : strEnts es.toList = some tab) : ZDict K w mg x tab := by
  refine ⟨d, es, n, h, ⟨hk, hl, hlow⟩, fun z => ?_⟩
  obtain ⟨h1, h2⟩ := strEnts_find z ht
  have e : PySem.W.nsIn K d z = match es.toList.find? (·.key.isStr z) with
      | some e => some (some e.val)
      | none => if es.toList.any (·.refKey) then none else some none := by
    unfold PySem.W.nsIn
    rw [hk] <;> rfl
  cases hz : List.lookup z tab with
  | none =>
    rw [hz] at h1
    simp only at h1
    rw [h1, h2] at e
    exact ⟨none, e, rfl⟩
  | some y =>
    rw [hz] at h1
    obtain ⟨en, h3, h4⟩ := h1
    rw [h3] at e
    exact ⟨some en.val, e, en.val, rfl, h4⟩
end Z


set_option Elab.async false
set_option linter.all false
set_option maxRecDepth 100000
set_option maxHeartbeats 4000000
/-! Expressions that change a list which the def owns (or was handed as its first argument): a reading from slots to a value and slots. -/
namespace Z
open PySem PySem.Spec PyProof.Rows L2

inductive RX (α : Type) where
  | ok (a : α) (r : Rho)
  | ex (k : Nat) (r : Rho)
  | no
def RX.bind {α β : Type} (x : RX α) (f : α → Rho → RX β) : RX β := match x with
  | .ok a r => f a r
  | .ex k r => .ex k r
  | .no => .no
/-- a pure result, the slots as they stand -/
def liftR {α : Type} (x : R α) (r : Rho) : RX α := match x with
  | .ok a => .ok a r
  | .ex k => .ex k r
  | .no => .no
/-- the heap without what stands at a -/
def hole (H : Hp) (a : Addr) : Hp := fun b => if b = a then none else H b
theorem hole_same {H : Hp} {a : Addr} : Same (hole H a) H := .of fun b o h => by
  unfold hole at h
  split at h
  · cases h
  · exact h
theorem hole_at {H : Hp} {a : Addr} : hole H a a = none := if_pos rfl
theorem hole_ne {H : Hp} {a b : Addr} (h : b ≠ a) : hole H a b = H b := if_neg h
theorem hole_cut {H : Hp} {a : Addr} {xs : List V} (ha : H a = some (.lst xs)) : ∀ b o, H b = some o → NL o → hole H a b = some o := fun b o h n => by
  have ne : b ≠ a := fun z => by rw [z, ha] at h; exact n xs (Option.some.inj h).symm
  rw [hole_ne ne]
  exact h
theorem Same.hole {G H : Hp} {a : Addr} {xs : List V} (s : Same G H) (h0 : G a = none) (ha : H a = some (.lst xs)) : Same G (Z.hole H a) := s.cut (hole_cut ha) fun b zs h h2 => by
  rw [hole_ne (ne_of_none h h0)]
  exact h2
/-- all stays but what is owned -/
def Kp (r : Rho) (σ : St) (H H' : Hp) : Prop := Same (ground H r σ) H'
def Oeq (r r' : Rho) (σ : St) : Prop := ∀ b, OwnA r' σ b ↔ OwnA r σ b
section
variable {K : PySem.W.Frag} {C : ZC} {H H' H2 : Hp} {r r' r2 : Rho} {σ : St}
theorem Kp.of (s : Same H H') : Kp r σ H H' := ground_same.trans s
theorem Kp.refl : Kp r σ H H := ground_same
theorem Kp.at {b : Addr} {u : HO} (k : Kp r σ H H') (h : H b = some u) (n : ¬ OwnA r σ b) (t : NT u := by intro _ z; cases z) : H' b = some u := Same.at k (by rw [ground_of n]; exact h) t
theorem Kp.trans (k : Kp r σ H H') (E : EnvOk K C H' r' σ) (o : Oeq r r' σ) (k2 : Kp r' σ H' H2) : Kp r σ H H2 := (Same.cut k E.cutG fun b xs h h2 => by
  rw [ground_of fun z => (ground_some h).2 ((o b).mp z)]
  exact h2).trans k2
theorem Oeq.refl : Oeq r r σ := fun _ => Iff.rfl
theorem Oeq.trans (a : Oeq r r' σ) (b : Oeq r' r2 σ) : Oeq r r2 σ := fun x => (b x).trans (a x)
theorem kp_step (E : EnvOk K C H r σ) (k : Kp r σ H H') (o : Oeq r r' σ) : Step K H H' (BB C r σ) (BB C r' σ) := by
  refine ⟨fun a xs rd nb => ⟨?_, fun z => nb (z.elim .inl fun z => .inr ((o a).mp z))⟩, fun a xs t => ?_, fun a φ t => k.at t fun z => by
    obtain ⟨vs, e, _⟩ := E.own z
    rw [e] at t
    exact nomatch t⟩
  · have n : ¬ OwnA r σ a := fun z => nb (.inr z)
    rcases rd with rd | ⟨u, rd⟩
    · exact .inl (k.at rd n)
    · exact .inr ⟨u, k.at rd n⟩
  · rcases t with t | t
    · have n : ¬ OwnA r σ a := fun z => by
        obtain ⟨vs, e, _⟩ := E.own z
        rcases t with t | ⟨u, t⟩ <;> (rw [e] at t; cases t)
      rcases t with t | ⟨u, t⟩
      · exact .inl (.inl (k.at t n))
      · exact .inl (.inr ⟨u, k.at t n⟩)
    · exact .inr t
theorem Rp.kp {v : V} {d : D} (q : Rp K H (BB C r σ) v d) (E : EnvOk K C H r σ) (k : Kp r σ H H') (o : Oeq r r' σ) : Rp K H' (BB C r' σ) v d := Rp.step (kp_step E k o) d v q
theorem RpAll.kp {v : List V} {d : List D} (q : RpAll K H (BB C r σ) v d) (E : EnvOk K C H r σ) (k : Kp r σ H H') (o : Oeq r r' σ) : RpAll K H' (BB C r' σ) v d := Rp.stepAll (kp_step E k o) d v q
end
/-- what is wanted of a value and the slots behind it -/
def rst {α : Type} (K : PySem.W.Frag) (cm : Nat → Addr) (W : WX) (C : ZC) (r : Rho) (σ : St) (H : Hp) (x : RX α) (p : α → Rho → Hp → Prop) : Prop := match x with
  | .ok a r' => ∀ H', Kp r σ H H' → EnvOk K C H' r' σ → Oeq r r' σ → p a r' H'
  | .ex k r' => ∀ H', Kp r σ H H' → EnvOk K C H' r' σ → Oeq r r' σ → W (.ref (cm k)) none σ H'
  | .no => False
def tX (K : PySem.W.Frag) (cm : Nat → Addr) (W : WX) (f : Rho → RX D) : TE := fun σ H Q => ∃ C r, EnvOk K C H r σ ∧ rst K cm W C r σ H (f r) fun d r' H' => ∀ v, Rp K H' (BB C r' σ) v d → Q v H'
def tXA (K : PySem.W.Frag) (cm : Nat → Addr) (W : WX) (f : Rho → RX (List D)) : TA := fun σ H Q => ∃ C r, EnvOk K C H r σ ∧ rst K cm W C r σ H (f r) fun ds r' H' => ∀ vs, RpAll K H' (BB C r' σ) vs ds → Q vs H'
abbrev ZXE (X : Cx) (cm : Nat → Addr) (W : WX) (e : Expr) (f : Rho → RX D) : Prop := PE X e (tX X.K cm W f)
abbrev ZXA (X : Cx) (cm : Nat → Addr) (W : WX) (es : List Expr) (f : Rho → RX (List D)) : Prop := PA X es (tXA X.K cm W f)
def xP (f : Rho → R D) : Rho → RX D := fun r => liftR (f r) r
def xNil : Rho → RX (List D) := fun r => .ok [] r
def xCons (f : Rho → RX D) (g : Rho → RX (List D)) : Rho → RX (List D) := fun r => (f r).bind fun d r1 => (g r1).bind fun ds r2 => .ok (d :: ds) r2
def xB2 (F : D → D → R D) (f g : Rho → RX D) : Rho → RX D := fun r => (f r).bind fun d r1 => (g r1).bind fun e r2 => liftR (F d e) r2
def xB1 (F : D → R D) (f : Rho → RX D) : Rho → RX D := fun r => (f r).bind fun d r1 => liftR (F d) r1
section
variable {X : Cx} {cm : Nat → Addr} {W : WX} {k : Nat} {e a b c : Expr} {f g h : Rho → RX D} {pos : Pos}
theorem rst_bind {α β : Type} {K : PySem.W.Frag} {C : ZC} {r : Rho} {σ : St} {H : Hp} {x : RX α} {F : α → Rho → RX β} {p : β → Rho → Hp → Prop} (q : rst K cm W C r σ H (x.bind F) p) :
    rst K cm W C r σ H x fun y r1 H1 => rst K cm W C r1 σ H1 (F y r1) p := by
  cases x with
  | no => exact q
  | ex j r1 => exact q
  | ok y r1 =>
    intro H1 k1 E1 o1
    have q : rst K cm W C r σ H (F y r1) p := q
    cases hF : F y r1 with
    | no => rw [hF] at q; exact q
    | ex j r2 => rw [hF] at q; exact fun H2 k2 E2 o2 => q H2 (k1.trans E1 o1 k2) E2 (o1.trans o2)
    | ok z r2 => rw [hF] at q; exact fun H2 k2 E2 o2 => q H2 (k1.trans E1 o1 k2) E2 (o1.trans o2)
theorem rst_imp {α : Type} {K : PySem.W.Frag} {C : ZC} {r : Rho} {σ : St} {H : Hp} {x : RX α} {p p' : α → Rho → Hp → Prop} (q : rst K cm W C r σ H x p) (i : ∀ y r1 H1, Kp r σ H H1 → EnvOk K C H1 r1 σ → Oeq r r1 σ → p y r1 H1 → p' y r1 H1) : rst K cm W C r σ H x p' := by
  cases x with
  | no => exact q
  | ex j r1 => exact q
  | ok y r1 => exact fun H1 k1 E1 o1 => i y r1 H1 k1 E1 o1 (q H1 k1 E1 o1)
/-- a pure expression -/
theorem zx_of {f0 : Rho → R D} (he : ZE X cm W e f0) : ZXE X cm W e (xP f0) := PE.imp he fun σ H Q ⟨C, r, E, q⟩ => ⟨C, r, E, by
  unfold xP at q
  cases hf : f0 r with
  | no => rw [hf] at q; exact q
  | ex j => rw [hf] at q; exact fun H' s => q H' (.of s) (E.go s) .refl
  | ok d => rw [hf] at q; exact fun v H' s rv => q H' (.of s) (E.go s) .refl v rv⟩
theorem zxa_nil : ZXA X cm W [] xNil := PA.imp pa_nil fun σ H Q ⟨C, r, E, q⟩ => q H .refl E .refl [] .nil
theorem zxa_cons {es : List Expr} {g : Rho → RX (List D)} (h1 : ZXE X cm W e f) (h2 : ZXA X cm W es g) (hs : starEach (e :: es) X.env = (false, eval e X.env) :: starEach es X.env := by rfl) : ZXA X cm W (e :: es) (xCons f g) :=
  PA.imp (pa_cons h1 h2 hs) fun σ H Q ⟨C, r, E, q⟩ => ⟨C, r, E, rst_imp (rst_bind q) fun d r1 H1 k1 E1 o1 q v rv => ⟨C, r1, E1, rst_imp (rst_bind q) fun ds r2 H2 k2 E2 o2 q vs rvs =>
    q H2 .refl E2 .refl (v :: vs) (.cons (rv.kp E1 k2 o2) rvs)⟩⟩
theorem zx_2 {F : D → D → R D} (O : Op2 X cm W a b e F) (ha : ZXE X cm W a f) (hb : ZXE X cm W b g) : ZXE X cm W e (xB2 F f g) := by
  obtain ⟨rr, h1, h2⟩ := O.ex
  refine PE.imp (h1 _ _ ha hb) fun σ H Q ⟨C, r, E, q⟩ => ⟨C, r, E, rst_imp (rst_bind q) fun d r1 H1 k1 E1 o1 q v rv => ⟨C, r1, E1, rst_imp (rst_bind q) fun d2 r2 H2 k2 E2 o2 q w rw_ => ?_⟩⟩
  refine h2 σ H2 (BB C r2 σ) v w d d2 Q E2.nb (rv.kp E1 k2 o2).c rw_.c ?_
  cases hF : F d d2 with
  | no => rw [hF] at q; exact q
  | ex j => rw [hF] at q; exact fun H3 s => q H3 (.of s) (E2.go s) .refl
  | ok z => rw [hF] at q; exact fun v3 H3 s r3 => q H3 (.of s) (E2.go s) .refl v3 r3
theorem zx_1 {F : D → R D} (O : Op1 X cm W a e F) (ha : ZXE X cm W a f) : ZXE X cm W e (xB1 F f) := by
  obtain ⟨rr, h1, h2⟩ := O.ex
  refine PE.imp (h1 _ ha) fun σ H Q ⟨C, r, E, q⟩ => ⟨C, r, E, rst_imp (rst_bind q) fun d r1 H1 k1 E1 o1 q v rv => h2 σ H1 (BB C r1 σ) v d Q E1.nb rv.c ?_⟩
  cases hF : F d with
  | no => rw [hF] at q; exact q
  | ex j => rw [hF] at q; exact fun H3 s => q H3 (.of s) (E1.go s) .refl
  | ok z => rw [hF] at q; exact fun v3 H3 s r3 => q H3 (.of s) (E1.go s) .refl v3 r3
/-- displays -/
def xTup (f : Rho → RX (List D)) : Rho → RX D := fun r => (f r).bind fun ds r1 => liftR ((sizeD ds).bind fun ds => .ok (.tuple ds)) r1
def xLst (f : Rho → RX (List D)) : Rho → RX D := fun r => (f r).bind fun ds r1 => liftR ((sizeD ds).bind fun ds => .ok (.list ds)) r1
theorem zx_tup {es : List Expr} {x1} {f : Rho → RX (List D)} (h : ZXA X cm W es f) : ZXE X cm W (.Tuple es x1 pos) (xTup f) := PE.imp (pe_tup h) fun σ H Q ⟨C, r, E, q⟩ => ⟨C, r, E, rst_imp (rst_bind q) fun ds r1 H1 k1 E1 o1 q vs rv => by
  unfold sizeD at q
  by_cases hz : ds.length ≤ sizeLine
  · rw [if_pos hz] at q
    exact ⟨by rw [rv.length]; exact hz, fun p hp => q (upd H1 p (.tup vs)) (.of (same_upd hp)) (E1.go (same_upd hp)) .refl _ (.tup (.inl (.inl upd_same)) (rv.mono (same_upd hp)))⟩
  · rw [if_neg hz] at q
    exact (show False from q).elim⟩
theorem zx_lst {es : List Expr} {f : Rho → RX (List D)} (h : ZXA X cm W es f) : ZXE X cm W (.List es pos) (xLst f) := PE.imp (pe_lst h) fun σ H Q ⟨C, r, E, q⟩ => ⟨C, r, E, rst_imp (rst_bind q) fun ds r1 H1 k1 E1 o1 q vs rv => by
  unfold sizeD at q
  by_cases hz : ds.length ≤ sizeLine
  · rw [if_pos hz] at q
    exact ⟨by rw [rv.length]; exact hz, fun p hp => q (upd H1 p (.lst vs)) (.of (same_upd hp)) (E1.go (same_upd hp)) .refl _ (.lst (.mk (.inl upd_same) fun z => E1.nb p z hp) (rv.mono (same_upd hp)))⟩
  · rw [if_neg hz] at q
    exact (show False from q).elim⟩
/-- a call of a pure def -/
def xCall (Gd : List D → R D) (fa : Rho → RX (List D)) : Rho → RX D := fun r => (fa r).bind fun ds r1 => liftR (Gd ds) r1
theorem zx_call {x : Str} {p : Pos} {es : List Expr} {j : Nat} {Gd : List D → R D} {fa : Rho → RX (List D)} (Y : ZFn X.prog X.w X.K X.mg X.base cm x j Gd) (A : Amb X W k) (hj : j ≤ k) (ha : ZXA X cm W (e :: es) fa) (hg : Gl X x := by rfl)
    (hdb : (x == ("__debug__" : Str)) = false := by decide) (he : starEach (e :: es) X.env = (false, eval e X.env) :: starEach es X.env := by rfl) (hpl : (backTo pos (starEach es X.env)).any (·.1) = false := by rfl) :
    ZXE X cm W (.Call (.Name x p) (e :: es) [] pos) (xCall Gd fa) := by
  obtain ⟨f, fd, ps, h1, h2, h3, h4⟩ := (Y.up hj).ex
  refine PE.imp (pe_callG (E := WE W) h4 A.hr A.gd hg h1 h2 h3 (fun σ => passAtF A.tf σ) ha hdb he hpl) fun σ H Q ⟨C, r, E, q⟩ => ⟨C, r, E, rst_imp (rst_bind q) fun ds r1 H1 k1 E1 o1 q vs rv => ⟨BB C r1 σ, ds, E1.nb, E1.tb, rv, ?_⟩⟩
  cases hG : Gd ds with
  | no => rw [hG] at q; exact q
  | ex j => rw [hG] at q; exact fun H2 s => q H2 (.of s) (E1.go s) .refl
  | ok d => rw [hG] at q; exact fun v H2 s rd => q H2 (.of s) (E1.go s) .refl v rd
end

/-! ### defs that change the list they are handed first -/
inductive RS where
  | ok (d : D) (s : List D)
  | ex (k : Nat) (s : List D)
  | no
def spX (K : PySem.W.Frag) (cm : Nat → Addr) (Gd : List D → List D → RS) : Sp := fun vs H Q E => ∃ (B : Addr → Prop) (a : Addr) (us : List V) (s : List D) (ws : List V) (ds : List D), vs = .ref a :: ws ∧ NB B H ∧ TabsK K H ∧ ¬ B a ∧ H a = some (.lst us) ∧
  RpAll K H (fun b => B b ∨ b = a) us s ∧ RpAll K H (fun b => B b ∨ b = a) ws ds ∧ match Gd s ds with
  | .ok d s' => ∀ v H' us', Same (hole H a) H' → H' a = some (.lst us') → RpAll K H' (fun b => B b ∨ b = a) us' s' → Rp K H' (fun b => B b ∨ b = a) v d → Q v H'
  | .ex k s' => ∀ H' us', Same (hole H a) H' → H' a = some (.lst us') → RpAll K H' (fun b => B b ∨ b = a) us' s' → E (.ref (cm k)) none H'
  | .no => False
structure FX (P : Program) (w : World) (K : PySem.W.Frag) (mg : Str → Option Value) (base : Heap) (cm : Nat → Addr) (x : Str) (k : Nat) (Gd : List D → List D → RS) : Prop where
  ex : ∃ (f : Addr) (fd : FuncData) (ps : List Str), mg x = some (.ref f) ∧ PySem.W.keepIn K (.ref f) = true ∧ Binds K fd ps [] ∧ FnG P w K mg base (L2N.CX P w) k f fd ps (spX K cm Gd)
/-- the call: the list in slot i is handed over -/
def xHand (i : Nat) (Gd : List D → List D → RS) (ds : List D) (r1 : Rho) : RX D := match r1[i]? with
  | some (.ow s) => (match Gd s ds with
    | .ok d s' => .ok d (r1.set i (.ow s'))
    | .ex k s' => .ex k (r1.set i (.ow s'))
    | .no => .no)
  | _ => .no
def isOw (r : Rho) (i : Nat) : Bool := match r[i]? with
  | some (.ow _) => true
  | _ => false
def xCallS (i : Nat) (Gd : List D → List D → RS) (fa : Rho → RX (List D)) : Rho → RX D := fun r => if isOw r i = true then (fa r).bind (xHand i Gd) else .no
section
variable {K : PySem.W.Frag} {C : ZC} {H H' : Hp} {r : Rho} {σ : St}
/-- an owned list was changed by a call, and new things were made -/
theorem EnvOk.handed (E : EnvOk K C H r σ) {i : Nat} {a : Addr} {s s' : List D} {us : List V} (hi : r[i]? = some (.ow s)) (ha : σ[i]? = some (some (.ref a))) (k : Same (hole H a) H') (hH : H' a = some (.lst us))
    (q : RpAll K H' (BB C r σ) us s') : EnvOk K C H' (r.set i (.ow s')) σ ∧ Oeq r (r.set i (.ow s')) σ ∧ Kp r σ H H' := by
  have hil : i < r.length := (List.getElem?_eq_some_iff.mp hi).1
  have own : OwnA r σ a := ⟨i, s, hi, ha⟩
  obtain ⟨vs0, ea, e0⟩ := E.own own
  have oeq : Oeq r (r.set i (.ow s')) σ := fun b => by
    constructor
    · rintro ⟨j, fs, h1, h2⟩
      by_cases z : i = j
      · subst z; exact ⟨i, s, hi, h2⟩
      · rw [List.getElem?_set_ne z] at h1; exact ⟨j, fs, h1, h2⟩
    · rintro ⟨j, fs, h1, h2⟩
      by_cases z : i = j
      · subst z; exact ⟨i, s', List.getElem?_set_self hil, h2⟩
      · exact ⟨j, fs, by rw [List.getElem?_set_ne z]; exact h1, h2⟩
  have kp : Kp r σ H H' := (ground_same.hole (ground_own own) ea).trans k
  have S := kp_step E kp oeq
  have bbi : ∀ b, BB C (r.set i (.ow s')) σ b → BB C r σ b := fun b h => h.elim .inl fun h => .inr ((oeq b).mp h)
  refine ⟨⟨by simpa using E.len, (E.same.hole e0 ea).trans k, fun b h => ⟨?_, fun z => (E.b0 b h).2 ((oeq b).mp z)⟩, fun j e h => ?_, fun j fs h => ?_, fun j l fs gs b h1 h2 h3 h4 => ?_, fun b fs q0 q1 => ?_, (E.tb.cut (hole_cut ea)).go k⟩, oeq, kp⟩
  · have ne : b ≠ a := fun z => (E.b0 b h).2 (z ▸ own)
    exact fun z => (E.b0 b h).1 ((hole_ne ne).symm.trans (k.free z))
  · by_cases z : i = j
    · subst z
      rw [List.getElem?_set_self hil] at h
      cases h
    · rw [List.getElem?_set_ne z] at h
      obtain ⟨w, e1, q1⟩ := E.sh j e h
      exact ⟨w, e1, Rp.step S _ _ q1⟩
  · by_cases z : i = j
    · subst z
      rw [List.getElem?_set_self hil] at h
      cases h
      exact ⟨a, us, ha, hH, e0, q.mono (Same.refl _) fun b z => .inl (bbi b z)⟩
    · rw [List.getElem?_set_ne z] at h
      obtain ⟨b, ws, e1, e2, e3, q1⟩ := E.ow j fs h
      have ne : b ≠ a := fun y => by
        subst y
        exact z (E.inj i j s fs b hi h ha e1)
      exact ⟨b, ws, e1, k.at ((hole_ne ne).trans e2), e3, Rp.stepAll S _ _ q1⟩
  · have back : ∀ {j : Nat} {fs : List D}, (r.set i (.ow s'))[j]? = some (.ow fs) → ∃ fs', r[j]? = some (.ow fs') := fun {j fs} h => by
      by_cases z : i = j
      · subst z; exact ⟨_, hi⟩
      · rw [List.getElem?_set_ne z] at h; exact ⟨_, h⟩
    obtain ⟨fs', f1⟩ := back h1
    obtain ⟨gs', f2⟩ := back h2
    exact E.inj j l fs' gs' b f1 f2 h3 h4
  · by_cases z : i = 0
    · subst z
      exact E.pin b s q0 hi
    · rw [List.getElem?_set_ne z] at q1
      exact E.pin b fs q0 q1
end
section
variable {X : Cx} {cm : Nat → Addr} {W : WX} {k : Nat} {pos : Pos}
theorem zx_callS (i : Nat) {x y : Str} {p py : Pos} {es : List Expr} {j : Nat} {Gd : List D → List D → RS} {fa : Rho → RX (List D)} (Y : FX X.prog X.w X.K X.mg X.base cm x j Gd) (A : Amb X W k) (hj : j ≤ k) (ha : ZXA X cm W es fa) (hg : Gl X x := by rfl)
    (hN : X.N[i]? = some y := by rfl) (hv : Vis X.env.scope y := by first | exact Or.inl rfl | exact Or.inr (Or.inl rfl) | exact Or.inr (Or.inr rfl)) (hdy : (y == ("__debug__" : Str)) = false := by decide) (hcy : (y == ("__classdict__" : Str)) = false := by decide)
    (hdb : (x == ("__debug__" : Str)) = false := by decide) (he : starEach (.Name y py :: es) X.env = (false, eval (.Name y py) X.env) :: starEach es X.env := by rfl) (hpl : (backTo pos (starEach es X.env)).any (·.1) = false := by rfl) :
    ZXE X cm W (.Call (.Name x p) (.Name y py :: es) [] pos) (xCallS i Gd fa) := by
  obtain ⟨f, fd, ps, h1, h2, h3, h4⟩ := Y.ex
  refine PE.imp (pe_callG (E := WE W) (h4.mono hj) A.hr A.gd hg h1 h2 h3 (fun σ => passAtF A.tf σ) (pa_cons (pe_var (i := i) hN hv hdy hcy) ha he) hdb he hpl) fun σ H Q ⟨C, r, E, q⟩ => ?_
  unfold xCallS at q
  by_cases ho : isOw r i = true
  rotate_left
  · rw [if_neg ho] at q
    exact (show False from q).elim
  rw [if_pos ho] at q
  have q2 := rst_bind q
  obtain ⟨s0, hs0⟩ : ∃ s0, r[i]? = some (.ow s0) := by
    unfold isOw at ho
    split at ho
    · exact ⟨_, by assumption⟩
    · cases ho
  obtain ⟨a, us0, ea, _, _, _⟩ := E.ow i s0 hs0
  refine ⟨_, ea, C, r, E, rst_imp q2 fun ds r1 H1 k1 E1 o1 q vs rv => ?_⟩
  unfold xHand at q
  cases hr1 : r1[i]? with
  | none => rw [hr1] at q; exact (show False from q).elim
  | some sl =>
    rw [hr1] at q
    cases sl with
    | un => exact (show False from q).elim
    | sh d => exact (show False from q).elim
    | ow s =>
      dsimp only at q
      obtain ⟨a', us, ea', hH, h0, rs⟩ := E1.ow i s hr1
      rw [ea] at ea'
      have e : a = a' := V.ref.inj (Option.some.inj (Option.some.inj ea'))
      subst e
      have own : OwnA r1 σ a := ⟨i, s, hr1, ea⟩
      -- what callers and other slots own
      refine ⟨fun b => BB C r1 σ b ∧ b ≠ a, a, us, s, vs, ds, rfl, fun b hb => E1.bb hb.1, E1.tb, fun z => z.2 rfl, hH, rs.mono (Same.refl _) fun b z => .inl (z.elim (·.1) fun z => z ▸ .inr own), rv.mono (Same.refl _) fun b z => .inl (z.elim (·.1) fun z => z ▸ .inr own), ?_⟩
      have back : ∀ b, BB C r1 σ b → (BB C r1 σ b ∧ b ≠ a) ∨ b = a := fun b z => by
        by_cases e : b = a
        · exact .inr e
        · exact .inl ⟨z, e⟩
      cases hG : Gd s ds with
      | no => rw [hG] at q; exact q
      | ex j s' =>
        rw [hG] at q
        intro H2 us' kk hH2 rs'
        obtain ⟨E2, o2, k2⟩ := E1.handed hr1 ea kk hH2 (rs'.mono (Same.refl _) fun b z => .inl (back b z))
        exact q H2 k2 E2 o2
      | ok d s' =>
        rw [hG] at q
        intro v H2 us' kk hH2 rs' rd
        obtain ⟨E2, o2, k2⟩ := E1.handed hr1 ea kk hH2 (rs'.mono (Same.refl _) fun b z => .inl (back b z))
        refine q H2 k2 E2 o2 v (rd.mono (Same.refl _) fun b z => .inl (back b ?_))
        exact z.elim .inl fun z => .inr ((o2 b).mp z)
end
end Z


set_option Elab.async false
set_option linter.all false
set_option maxRecDepth 100000
set_option maxHeartbeats 4000000
namespace Z
open PySem PySem.Spec PyProof.Rows L2

/-! ### a def that is handed a list -/
def startX (n : Nat) (s : List D) (ds : List D) : Rho := (.ow s :: ds.map .sh) ++ List.replicate (n - (ds.length + 1)) .un
def retX : Out → RS
  | .rt d r => (match r[(0 : Nat)]? with
    | some (.ow s) => .ok d s
    | _ => .no)
  | .nx r => (match r[(0 : Nat)]? with
    | some (.ow s) => .ok .none s
    | _ => .no)
  | .xx k r => (match r[(0 : Nat)]? with
    | some (.ow s) => .ex k s
    | _ => .no)
  | _ => .no
def runX (n m : Nat) (F : SF) (s : List D) (ds : List D) : RS := if ds.length + 1 = m then retX (F (startX n s ds)) else .no
theorem startX_at {n : Nat} {s ds : List D} {j : Nat} {sl : Sl} (h : (startX n s ds)[j + 1]? = some sl) : (∃ d, ds[j]? = some d ∧ sl = .sh d) ∨ sl = .un := by
  unfold startX at h
  by_cases hj : j < ds.length
  · rw [List.getElem?_append_left (by simp; omega), List.getElem?_cons_succ, List.getElem?_map] at h
    cases hd : ds[j]? with
    | none => rw [hd] at h; cases h
    | some d => rw [hd] at h; exact .inl ⟨d, rfl, (Option.some.inj h).symm⟩
  · rw [List.getElem?_append_right (by simp; omega), List.getElem?_replicate] at h
    split at h
    · exact .inr (Option.some.inj h).symm
    · cases h
theorem startX_env {K : PySem.W.Frag} {H : Hp} {B : Addr → Prop} {N : List Str} {a : Addr} {us ws : List V} {s ds : List D} (nb : NB B H) (tb : TabsK K H) (na : ¬ B a) (hH : H a = some (.lst us)) (rs : RpAll K H (fun b => B b ∨ b = a) us s) (rd : RpAll K H (fun b => B b ∨ b = a) ws ds) :
    EnvOk K ⟨hole H a, B, some a⟩ H (startX N.length s ds) (L2.start N (.ref a :: ws)) := by
  have l := rd.length
  have s0 : (L2.start N (.ref a :: ws))[0]? = some (some (.ref a)) := by
    unfold L2.start
    rfl
  have r0 : (startX N.length s ds)[0]? = some (.ow s) := rfl
  have ow0 : ∀ (i : Nat) es, (startX N.length s ds)[i]? = some (.ow es) → i = 0 ∧ es = s := fun i es h => by
    cases i with
    | zero => rw [r0] at h; exact ⟨rfl, (Sl.ow.inj (Option.some.inj h)).symm⟩
    | succ j =>
      rcases startX_at h with ⟨d, _, e⟩ | e
      · cases e
      · cases e
  have own : ∀ b, OwnA (startX N.length s ds) (L2.start N (.ref a :: ws)) b ↔ b = a := fun b => by
    constructor
    · rintro ⟨i, es, h1, h2⟩
      obtain ⟨e, _⟩ := ow0 i es h1
      subst e
      rw [s0] at h2
      exact (V.ref.inj (Option.some.inj (Option.some.inj h2))).symm
    · rintro rfl
      exact ⟨0, s, r0, s0⟩
  have bb : ∀ b, BB ⟨hole H a, B, some a⟩ (startX N.length s ds) (L2.start N (.ref a :: ws)) b → B b ∨ b = a := fun b z => z.elim .inl fun z => .inr ((own b).mp z)
  refine ⟨?_, hole_same, fun b h => ⟨nb b h, fun z => na ((own b).mp z ▸ h)⟩, fun i d h => ?_, fun i es h => ?_, fun i j es fs b h1 h2 _ _ => (ow0 i es h1).1.trans (ow0 j fs h2).1.symm, fun b es q0 q1 => ?_, tb⟩
  · unfold startX L2.start
    simp only [List.length_append, List.length_map, List.length_replicate, List.length_cons, l]
  · cases i with
    | zero => rw [r0] at h; cases h
    | succ j =>
      rcases startX_at h with ⟨d', hd, e⟩ | e
      · cases e
        obtain ⟨v, hv, rv⟩ := rd.get' hd
        refine ⟨v, ?_, rv.mono (Same.refl H) fun b z => .inl (bb b z)⟩
        have hj : j < ds.length := (List.getElem?_eq_some_iff.mp hd).1
        unfold L2.start
        rw [List.getElem?_append_left (by simp; omega), List.getElem?_map, List.getElem?_cons_succ, hv]
        rfl
      · cases e
  · obtain ⟨e, e2⟩ := ow0 i es h
    subst e
    subst e2
    exact ⟨a, us, s0, hH, hole_at, rs.mono (Same.refl H) fun b z => .inl (bb b z)⟩
  · have : b = a := (Option.some.inj q0).symm
    rw [this]
    exact s0
theorem fx_ok {P : Program} {w : World} {K : PySem.W.Frag} {mg : Str → Option Value} {base : Heap} {cm : Nat → Addr} {k : Nat} {x : Str} {st : Stmt} {f : Addr} {fd : FuncData} {N ps : List Str} {F : SF} (Fn : Fun K x x st f fd) (S : FnScope N ps (defScope st))
    (body : ∀ (cdv : Value) (A : Around) (outer : List Env) (s : Shared) (H : Hp) (E : XK), AmbS (cxOf (L2N.CX P w) P w K mg base N x (defScope st) f cdv A outer s H E) (fun c d _ H' => E c d H') k →
      ZSs (cxOf (L2N.CX P w) P w K mg base N x (defScope st) f cdv A outer s H E) cm (fun c d _ H' => E c d H') (defBody st) F) : FnG P w K mg base (L2N.CX P w) (k + 1) f fd ps (spX K cm (runX N.length ps.length F)) := by
  refine fnG_of Fn S (fun vs H Q E ⟨B, a, us, s, ws, ds, hv, nb, tb, na, hH, rs, rd, q⟩ => ?_) (fun cdv A outer sh H vs Q E hr hg _ ⟨B, a, us, s, ws, ds, hv, nb, tb, na, hH, rs, rd, q⟩ => ⟨_, body cdv A outer sh H E ⟨⟨rfl, S.nd, takesF_of (L2N.takes_of rfl rfl rfl rfl) rfl, .def_ rfl rfl, hr, hg⟩, passes_of rfl, L2N.takes_of rfl rfl rfl rfl⟩, ?_⟩)
  · subst hv
    unfold runX at q
    by_cases hl : ds.length + 1 = ps.length
    · rw [List.length_cons, rd.length, hl]
    · rw [if_neg hl] at q; exact (show False from q).elim
  · subst hv
    unfold runX at q
    by_cases hl : ds.length + 1 = ps.length
    rotate_left
    · rw [if_neg hl] at q; exact (show False from q).elim
    rw [if_pos hl] at q
    refine ⟨⟨hole H a, B, some a⟩, startX N.length s ds, startX_env nb tb na hH rs rd, ?_⟩
    -- what the slots say at the end
    have fin : ∀ {r' : Rho} {σ' : St} {H' : Hp} {s' : List D}, EnvOk K ⟨hole H a, B, some a⟩ H' r' σ' → r'[0]? = some (.ow s') → Same (hole H a) H' ∧ (∀ b, B b ∨ b = a → BB ⟨hole H a, B, some a⟩ r' σ' b) ∧ ∃ us', H' a = some (.lst us') ∧ RpAll K H' (fun b => B b ∨ b = a) us' s' := fun {r' σ' H' s'} E' h => by
      obtain ⟨b, us', e1, e2, _, e4⟩ := E'.ow 0 s' h
      have e5 := E'.pin a s' rfl h
      rw [e1] at e5
      have e : b = a := V.ref.inj (Option.some.inj (Option.some.inj e5))
      subst e
      have bb : ∀ c, B c ∨ c = b → BB ⟨hole H b, B, some b⟩ r' σ' c := fun c z => z.elim .inl fun z => .inr ⟨0, s', h, by rw [z]; exact e1⟩
      exact ⟨E'.same, bb, us', e2, e4.mono (Same.refl _) fun c z => .inl (bb c z)⟩
    cases hF : F (startX N.length s ds) with
    | no => rw [hF] at q; exact q
    | bk r' => rw [hF] at q; exact (show False from q).elim
    | ct r' => rw [hF] at q; exact (show False from q).elim
    | nx r' =>
      rw [hF] at q
      intro σ' H' E'
      unfold retX at q
      cases h0 : r'[0]? with
      | none => simp only [h0] at q
      | some sl =>
        cases sl with
        | un => simp only [h0] at q
        | sh d => simp only [h0] at q
        | ow s' =>
          simp only [h0] at q
          obtain ⟨k1, k2, us', k3, k4⟩ := fin E' h0
          exact q .non H' us' k1 k3 k4 .non
    | rt d r' =>
      rw [hF] at q
      intro v σ' H' E' rv
      unfold retX at q
      cases h0 : r'[0]? with
      | none => simp only [h0] at q
      | some sl =>
        cases sl with
        | un => simp only [h0] at q
        | sh d => simp only [h0] at q
        | ow s' =>
          simp only [h0] at q
          obtain ⟨k1, k2, us', k3, k4⟩ := fin E' h0
          exact q v H' us' k1 k3 k4 (rv.mono (Same.refl _) fun b z => .inl (k2 b z))
    | xx j r' =>
      rw [hF] at q
      intro σ' H' E'
      unfold retX at q
      cases h0 : r'[0]? with
      | none => simp only [h0] at q
      | some sl =>
        cases sl with
        | un => simp only [h0] at q
        | sh d => simp only [h0] at q
        | ow s' =>
          simp only [h0] at q
          obtain ⟨k1, k2, us', k3, k4⟩ := fin E' h0
          exact q H' us' k1 k3 k4
theorem fxH {P : Program} {w : World} {K : PySem.W.Frag} {mg : Str → Option Value} {base : Heap} {cm : Nat → Addr} {k : Nat} {x : Str} {st : Stmt} {N ps : List Str} {F : SF} (Y : FnHas K mg x st ps) (S : FnScope N ps (defScope st))
    (body : ∀ (f : Addr) (cdv : Value) (A : Around) (outer : List Env) (s : Shared) (H : Hp) (E : XK), AmbS (cxOf (L2N.CX P w) P w K mg base N x (defScope st) f cdv A outer s H E) (fun c d _ H' => E c d H') k →
      ZSs (cxOf (L2N.CX P w) P w K mg base N x (defScope st) f cdv A outer s H E) cm (fun c d _ H' => E c d H') (defBody st) F) : FX P w K mg base cm x (k + 1) (runX N.length ps.length F) := by
  obtain ⟨f, fd, h1, h2, h3⟩ := Y
  exact ⟨f, fd, ps, h2, h1.kp, h3, fx_ok h1 S (body f)⟩

/-! ### statements with such expressions -/
def onX (x : RX D) (g : D → Rho → Out) : Out := match x with
  | .ok d r => g d r
  | .ex k r => .xx k r
  | .no => .no
def xSet (i : Nat) (f : Rho → RX D) : SF := fun r => onX (f r) fun d r1 => .nx (r1.set i (.sh d))
def xRet (f : Rho → RX D) : SF := fun r => onX (f r) fun d r1 => .rt d r1
def xApp (i : Nat) (f : Rho → RX D) : SF := fun r => if isOw r i = true then onX (f r) fun d r1 => (match r1[i]? with
  | some (.ow ds) => if ds.length < sizeLine then .nx (r1.set i (.ow (ds ++ [d]))) else .no
  | _ => .no) else .no
section
variable {X : Cx} {cm : Nat → Addr} {W : WX} {k : Nat} {e : Expr} {f : Rho → RX D} {pos : Pos}
theorem pso_x {K : PySem.W.Frag} {C : ZC} {Dn : Ends} {r : Rho} {σ : St} {H : Hp} {x : RX D} {g : D → Rho → Out} (h : pso K cm W C Dn (onX x g)) : rst K cm W C r σ H x fun d r1 _ => pso K cm W C Dn (g d r1) := by
  cases x with
  | ok d r1 => exact fun _ _ _ _ => h
  | ex j r1 => exact fun H' _ E' _ => h σ H' E'
  | no => exact h
theorem zs_retX (he : ZXE X cm W e f) : ZS X cm W (.Return (some e) pos) (xRet f) := PS.imp (ps_ret he) fun Dn σ H ⟨C, r, E, q⟩ =>
  ⟨C, r, E, rst_imp (pso_x q) fun d r1 H1 k1 E1 o1 q v rv => q v σ H1 E1 rv⟩
theorem zs_setX (i : Nat) {x : Str} {pos' : Pos} (A : Amb X W k) (he : ZXE X cm W e f) (hi : X.N[i]? = some x := by rfl) (hx : Loc X.env.scope x := by first | exact Or.inl rfl | exact Or.inr rfl) (hs : swapsWith e (some (.Name x pos')) pos.line X.env = pure false := by rfl)
    (hf : X.fn x = true ∨ X.env.scope.names.lookup x = some .local := by first | exact .inl rfl | exact .inr rfl | assumption) : ZS X cm W (.Assign [.Name x pos'] e pos) (xSet i f) := PS.imp (ps_set A.nd hi hx he hs hf) fun Dn σ H ⟨C, r, E, q⟩ =>
  ⟨C, r, E, rst_imp (pso_x q) fun d r1 H1 k1 E1 o1 q v rv => q _ H1 (E1.set_sh rv)⟩
theorem zs_appX (i : Nat) {x : Str} {px apos cpos : Pos} (he : ZXE X cm W e f) (hN : X.N[i]? = some x := by rfl) (hv : Vis X.env.scope x := by first | exact Or.inl rfl | exact Or.inr (Or.inl rfl) | exact Or.inr (Or.inr rfl)) (hd : (x == ("__debug__" : Str)) = false := by decide) (hcd : (x == ("__classdict__" : Str)) = false := by decide)
    (hs : swapsWith (.Call (.Attribute (.Name x px) "append" apos) [e] [] cpos) none pos.line X.env = pure false := by rfl)
    (hfew : ((backTo cpos (starEach (e :: []) X.env)).all (fun x => !x.1) && (backToKw cpos (keywordEach [] X.env)).all (fun x => x.1.isSome)
      && decide ((e :: []).length + ([] : List Keyword).length + (if ([] : List Keyword).isEmpty then 0 else 1) < 30)) = true := by rfl)
    (hline : (apos.endLine == cpos.line) = true := by rfl) (hst : starEach (e :: []) X.env = (false, eval e X.env) :: starEach [] X.env := by rfl) :
    ZS X cm W (.Expr (.Call (.Attribute (.Name x px) "append" apos) [e] [] cpos) pos) (xApp i f) :=
  PS.imp (ps_expr (pe_bm PySem.F.plainAttrs_list PySem.F.slot_list_append PySem.F.type_list_append mt_append (pe_var hN hv hd hcd) (pa_cons he pa_nil hst) rfl hfew hline hst rfl) hs) fun Dn σ H ⟨C, r, E, q⟩ => by
    unfold xApp at q
    by_cases ho : isOw r i = true
    rotate_left
    · rw [if_neg ho] at q
      exact (show False from q).elim
    rw [if_pos ho] at q
    obtain ⟨s0, hs0⟩ : ∃ s0, r[i]? = some (.ow s0) := by
      unfold isOw at ho
      split at ho
      · exact ⟨_, by assumption⟩
      · cases ho
    obtain ⟨a, vs0, ea, e2, _, _⟩ := E.ow i s0 hs0
    refine ⟨.ref a, ea, .inl ⟨rfl, vs0, .inl (.inl e2)⟩, C, r, E, rst_imp (pso_x q) fun d r1 H1 k1 E1 o1 q v rv => ?_⟩
    cases hr1 : r1[i]? with
    | none => rw [hr1] at q; exact (show False from q).elim
    | some sl =>
      rw [hr1] at q
      cases sl with
      | un => exact (show False from q).elim
      | sh d => exact (show False from q).elim
      | ow ds =>
        dsimp only at q
        obtain ⟨a', vs, ea', hH, h0, rs⟩ := E1.ow i ds hr1
        rw [ea] at ea'
        have e : a = a' := V.ref.inj (Option.some.inj (Option.some.inj ea'))
        subst e
        by_cases hz : ds.length < sizeLine
        · rw [if_pos hz] at q
          refine ⟨a, vs, v, rfl, rfl, hH, by rw [rs.length]; exact hz, ?_⟩
          exact q σ _ (E1.upd_ow hr1 ea (rs.append (.cons rv .nil)))
        · rw [if_neg hz] at q
          exact (show False from q).elim
end
end Z
namespace Z
open PySem PySem.Spec PyProof.Rows L2
/-! ### loops over what such an expression gives -/
def tXI (K : PySem.W.Frag) (cm : Nat → Addr) (W : WX) (f : Rho → RX (List D)) : TI := fun σ H R => ∃ C r, EnvOk K C H r σ ∧ rst K cm W C r σ H (f r) fun ds r1 H1 => ∀ J H2, Same H1 H2 → Yl K (ground H2 r1 σ) C.B0 J ds → R J H2
abbrev ZXI (X : Cx) (cm : Nat → Addr) (W : WX) (tg iter : Expr) (f : Rho → RX (List D)) : Prop := PI X tg iter (tXI X.K cm W f)
def onXL (x : RX (List D)) (g : List D → Rho → Out) : Out := match x with
  | .ok d r => g d r
  | .ex k r => .xx k r
  | .no => .no
def xFor (fi : Rho → RX (List D)) (G : D → Rho → Option Rho) (F : SF) : SF := fun r => onXL (fi r) fun ds r1 => forL G F ds r1
def xR1 (f : Rho → RX D) : Rho → RX (List D) := fun r => (f r).bind fun d r1 => liftR (rng1D d) r1
section
variable {X : Cx} {cm : Nat → Addr} {W : WX} {k : Nat} {a : Expr} {f : Rho → RX D} {F : SF} {pos : Pos}
theorem pso_xl {K : PySem.W.Frag} {C : ZC} {Dn : Ends} {r : Rho} {σ : St} {H : Hp} {x : RX (List D)} {g : List D → Rho → Out} (h : pso K cm W C Dn (onXL x g)) : rst K cm W C r σ H x fun d r1 _ => pso K cm W C Dn (g d r1) := by
  cases x with
  | ok d r1 => exact fun _ _ _ _ => h
  | ex j r1 => exact fun H' _ E' _ => h σ H' E'
  | no => exact h
theorem zx_range1 {tg : Expr} {p : Pos} (ha : ZXE X cm W a f) (hm : X.mg "range" = none) (hg : Gl X "range" := by rfl) (hs1 : starEach (a :: []) X.env = (false, eval a X.env) :: starEach [] X.env := by rfl) (hs : starEach [a] X.env = [(false, eval a X.env)] := by rfl) :
    ZXI X cm W tg (.Call (.Name "range" p) [a] [] pos) (xR1 f) :=
  PI.imp (pi_range1 hg hm (pa_cons ha pa_nil hs1) hs) fun σ H Q ⟨C, r, E, q⟩ => ⟨C, r, E, rst_imp (rst_bind q) fun d r1 H1 k1 E1 o1 q v rv => by
    cases d with
    | int j =>
      cases rv
      by_cases hc : -(2 ^ 62) ≤ j ∧ j < 2 ^ 62
      · have e : rng1D (.int j) = .ok (rngL 0 j.toNat) := if_pos hc
        rw [e] at q
        exact ⟨j, rfl, hc.1, hc.2, q H1 .refl E1 .refl _ H1 (Same.refl H1) (yl_rng 0 j.toNat)⟩
      · have e : rng1D (.int j) = .no := if_neg hc
        rw [e] at q
        exact (show False from q).elim
    | _ => exact (show False from q).elim⟩
theorem zs_forX {tg iter : Expr} {body : List Stmt} {is : List Nat} {fi : Rho → RX (List D)} {G : D → Rho → Option Rho} (A : AmbS X W k) (hi : ZXI X cm W tg iter fi) (hg : ZG X tg is G) (hb : ZSs X cm W body F) (hs : ∀ x, foldedSetIterable iter X.env x = pure x := by intro _; rfl) :
    ZS X cm W (.For tg iter body [] pos) (xFor fi G F) :=
  PS.imp (ps_for A.po A.calm hi hg.pg hb hs) fun Dn σ H ⟨C, r, E, q⟩ => ⟨C, r, E, rst_imp (pso_xl q) fun ds r1 H1 k1 E1 o1 q J H2 s2 yl => for_core (E1.go s2) q yl⟩
end
end Z


set_option Elab.async false
set_option linter.all false
set_option maxRecDepth 100000
set_option maxHeartbeats 4000000
/-! List comprehensions whose element (and test) changes an owned list. -/
namespace Z
open PySem PySem.Spec PyProof.Rows L2
/-- the same slots own lists -/
def sameOw (a b : Rho) : Bool := a.length == b.length && (List.range a.length).all fun i => isOw a i == isOw b i
def compX (vs : List Nat) (G : D → Rho → Option Rho) (T : Rho → RX Bool) (f : Rho → RX D) : Rho → List D → List D → RX (List D)
  | r, acc, [] => .ok acc r
  | r, acc, d :: ds => match G d (wipeR r vs) with
    | none => .no
    | some r1 => match T r1 with
      | .ok true r2 => (match f r2 with
        | .ok x r3 => if acc.length < sizeLine ∧ sameOw r1 r3 = true then compX vs G T f r3 (acc ++ [x]) ds else .no
        | .ex k r3 => if sameOw r1 r3 = true then .ex k r3 else .no
        | .no => .no)
      | .ok false r2 => if sameOw r1 r2 = true then compX vs G T f r2 acc ds else .no
      | _ => .no
/-- the comprehension's own names as they were -/
def backR (r : Rho) (rk : Rho) : List Nat → Rho
  | [] => rk
  | v :: vs => match r[v]? with
    | some s => (backR r rk vs).set v s
    | none => backR r rk vs
def outR {α : Type} (vs : List Nat) (r : Rho) : RX α → RX α
  | .ok a rk => .ok a (backR r rk vs)
  | .ex k rk => .ex k (backR r rk vs)
  | .no => .no
def xLc (vs : List Nat) (fi : Rho → R (List D)) (G : D → Rho → Option Rho) (T : Rho → RX Bool) (f : Rho → RX D) : Rho → RX D := fun r => if noOw r vs = true then (liftR (fi r) r).bind fun ds _ => outR vs r ((compX vs G T f r [] ds).bind fun ds rk => .ok (.list ds) rk) else .no
section
variable {K : PySem.W.Frag} {C : ZC} {H H' : Hp} {r rk : Rho} {σ : St}
theorem backR_length (hl : rk.length = r.length) : ∀ vs : List Nat, (backR r rk vs).length = r.length
  | [] => hl
  | v :: vs => by
    unfold backR
    cases h : r[v]? with
    | none => exact backR_length hl vs
    | some s => simp only []; rw [List.length_set]; exact backR_length hl vs
theorem backR_in (hl : rk.length = r.length) {i : Nat} : ∀ {vs : List Nat}, i ∈ vs → (backR r rk vs)[i]? = r[i]?
  | v :: vs, h => by
    unfold backR
    by_cases e : v = i
    · subst e
      cases hv : r[v]? with
      | none =>
        have l := backR_length hl vs
        have : r.length ≤ v := List.getElem?_eq_none_iff.mp hv
        simp only []
        exact List.getElem?_eq_none (by omega)
      | some s =>
        have : v < r.length := (List.getElem?_eq_some_iff.mp hv).1
        simp only []
        exact List.getElem?_set_self (by rw [backR_length hl vs]; exact this)
    · have hi : i ∈ vs := (List.mem_cons.mp h).elim (fun z => absurd z.symm e) id
      cases hv : r[v]? with
      | none => exact backR_in hl hi
      | some s => simp only []; rw [List.getElem?_set_ne e]; exact backR_in hl hi
theorem backR_out {i : Nat} : ∀ {vs : List Nat}, i ∉ vs → (backR r rk vs)[i]? = rk[i]?
  | [], _ => rfl
  | v :: vs, h => by
    rw [List.mem_cons, not_or] at h
    unfold backR
    cases hv : r[v]? with
    | none => exact backR_out h.2
    | some s => simp only []; rw [List.getElem?_set_ne (fun e => h.1 e.symm)]; exact backR_out h.2
/-- a list that is of the outer owners' (and new since the ground) is written -/
theorem EnvOk.updB {p : Addr} {xs ys : List V} (E : EnvOk K C H r σ) (hb : C.B0 p) (hp : H p = some (.lst xs)) (h0 : C.H0 p = none) : EnvOk K C (upd H p (.lst ys)) r σ := by
  have no : ¬ OwnA r σ p := (E.b0 p hb).2
  refine ⟨E.len, E.same.new h0 hp, fun b h => ⟨?_, (E.b0 b h).2⟩, fun i d h => ?_, fun i ds h => ?_, E.inj, E.pin, E.tb.cut fun b o e n => ?_⟩
  rotate_left 3
  · have ne : b ≠ p := fun z => by rw [z, hp] at e; exact n xs (Option.some.inj e).symm
    rw [upd_ne ne]
    exact e
  · by_cases e : b = p
    · rw [e, upd_same]; exact fun z => nomatch z
    · rw [upd_ne e]; exact (E.b0 b h).1
  · obtain ⟨v, e, q⟩ := E.sh i d h
    exact ⟨v, e, q.updB (.inl hb) hp⟩
  · obtain ⟨a, vs, e1, e2, e3, q⟩ := E.ow i ds h
    have ne : a ≠ p := fun z => no (z ▸ ⟨i, ds, h, e1⟩)
    exact ⟨a, vs, e1, by rw [upd_ne ne]; exact e2, e3, q.updB (.inl hb) hp⟩
end
def tXT (K : PySem.W.Frag) (cm : Nat → Addr) (W : WX) (f : Rho → RX Bool) : TT := fun σ H Q => ∃ C r, EnvOk K C H r σ ∧ rst K cm W C r σ H (f r) fun b r' H' => Q b H'
abbrev ZXT (X : Cx) (cm : Nat → Addr) (W : WX) (e : Expr) (f : Rho → RX Bool) : Prop := PT X e (tXT X.K cm W f)
abbrev ZXTs (X : Cx) (cm : Nat → Addr) (W : WX) (es : List Expr) (f : Rho → RX Bool) : Prop := PTs X es (tXT X.K cm W f)
def xYes : Rho → RX Bool := fun r => .ok true r
section
variable {X : Cx} {cm : Nat → Addr} {W : WX} {k : Nat} {f : Rho → RX D}
theorem zxts_nil : ZXTs X cm W [] xYes := by
  refine ⟨fun pins s σ H Q I ⟨C, r, E, q⟩ => pts_nil.run pins s σ H Q I ?_⟩
  exact q H .refl E .refl
theorem zxts_one {e : Expr} {T : Rho → RX Bool} (h : ZXT X cm W e T) : ZXTs X cm W [e] T := pts_one h
theorem compX_step {vs : List Nat} {G : D → Rho → Option Rho} {T : Rho → RX Bool} {r : Rho} {d : D} {ds acc : List D} {res : RX (List D)} (h : compX vs G T f r acc (d :: ds) = res) (hn : res ≠ .no) :
    ∃ r1 t r2, G d (wipeR r vs) = some r1 ∧ T r1 = .ok t r2 ∧ (t = false → sameOw r1 r2 = true ∧ compX vs G T f r2 acc ds = res) ∧ (t = true → (∃ x r3, f r2 = .ok x r3 ∧ acc.length < sizeLine ∧ sameOw r1 r3 = true ∧ compX vs G T f r3 (acc ++ [x]) ds = res) ∨ ∃ j r3, f r2 = .ex j r3 ∧ sameOw r1 r3 = true ∧ res = .ex j r3) := by
  unfold compX at h
  cases hG : G d (wipeR r vs) with
  | none => rw [hG] at h; exact absurd h.symm hn
  | some r1 =>
    rw [hG] at h
    cases hT : T r1 with
    | ex i r2 => simp only [hT] at h; exact absurd h.symm hn
    | no => simp only [hT] at h; exact absurd h.symm hn
    | ok t r2 =>
      refine ⟨r1, t, r2, rfl, hT, fun e => ?_, fun e => ?_⟩
      · subst e
        simp only [hT] at h
        by_cases hz : sameOw r1 r2 = true
        · rw [if_pos hz] at h
          exact ⟨hz, h⟩
        · rw [if_neg hz] at h
          exact absurd h.symm hn
      · subst e
        simp only [hT] at h
        cases hf : f r2 with
        | no => simp only [hf] at h; exact absurd h.symm hn
        | ex i r3 =>
          simp only [hf] at h
          by_cases hz : sameOw r1 r3 = true
          · rw [if_pos hz] at h
            exact .inr ⟨i, r3, rfl, hz, h.symm⟩
          · rw [if_neg hz] at h
            exact absurd h.symm hn
        | ok x r3 =>
          simp only [hf] at h
          by_cases hz : acc.length < sizeLine ∧ sameOw r1 r3 = true
          · rw [if_pos hz] at h
            exact .inl ⟨x, r3, rfl, hz.1, hz.2, h⟩
          · rw [if_neg hz] at h
            exact absurd h.symm hn
theorem lcx_reads {K : PySem.W.Frag} {is vs : List Nat} {fi : Rho → R (List D)} {G : D → Rho → Option Rho} {T : Rho → RX Bool} (hk : ∀ d r r', G d r = some r' → ∀ j, j ∉ is → r'[j]? = r[j]?) (hz' : ∀ d r r', G d r = some r' → r'.length = r.length) (hv : ∀ i ∈ is, i ∈ vs) :
    ∀ σ H Q, tX K cm W (xLc vs fi G T f) σ H Q → tLcX W (tI K cm W fi) (tG K is G) (tXT K cm W0 T) (fun Wb => tX K cm Wb f) vs σ H Q := fun σ H Q ⟨C, r, E, q⟩ => by
  unfold xLc at q
  by_cases hno : noOw r vs = true
  rotate_left
  · rw [if_neg hno] at q
    exact (show False from q).elim
  rw [if_pos hno] at q
  refine ⟨C, r, E, ?_⟩
  cases hfi : fi r with
  | no => rw [hfi] at q; exact q
  | ex j => rw [hfi] at q; exact fun H' s => q H' (.of s) (E.go s) .refl
  | ok ds =>
  rw [hfi] at q
  intro J H1 s1 yl D hD
  have E1 := E.go s1
  obtain ⟨res, hc⟩ : ∃ res, compX vs G T f r [] ds = res := ⟨_, rfl⟩
  have q : rst K cm W C r σ H (outR vs r ((compX vs G T f r [] ds).bind fun ds rk => .ok (.list ds) rk)) fun d r' H' => ∀ v, Rp K H' (BB C r' σ) v d → Q v H' := q
  rw [hc] at q
  have hn : res ≠ .no := fun e => by rw [e] at q; exact q
  have notow : ∀ {i : Nat} {es : List Z.D}, r[i]? = some (.ow es) → i ∉ vs := fun {i es} hr hi => by
    have z := List.all_eq_true.mp hno i hi
    rw [hr] at z
    cases z
  -- what holds between the turns
  let Cg : ZC := ⟨ground H1 r σ, fun a => C.B0 a ∨ a = D, C.p0⟩
  have gD : ground H1 r σ D = none := ground_same.free hD
  -- from the block back to the def
  have home : ∀ {H' : Hp} {rk : Rho} {acc : List V} {dacc : List Z.D}, EnvOk K Cg H' (wipeR rk vs) (wipe σ vs) → rk.length = r.length → (∀ b, OwnA (wipeR rk vs) (wipe σ vs) b ↔ OwnA r σ b) → H' D = some (.lst acc) → RpAll K H' (BB Cg (wipeR rk vs) (wipe σ vs)) acc dacc →
      EnvOk K C H' (backR r rk vs) σ ∧ Oeq r (backR r rk vs) σ ∧ Kp r σ H H' ∧ Rp K H' (BB C (backR r rk vs) σ) (.ref D) (.list dacc) := fun {H' rk acc dacc} F hl ho hD' ra => by
    have nD : ¬ OwnA r σ D := fun z => (F.b0 D (.inr rfl)).2 ((ho D).mpr z)
    have kp1 : Kp r σ H1 H' := F.same
    have kp : Kp r σ H H' := (Kp.of s1).trans E1 .refl kp1
    have rl : (backR r rk vs).length = r.length := backR_length hl vs
    have owk : ∀ {i : Nat} {es : List Z.D}, (backR r rk vs)[i]? = some (.ow es) → i ∉ vs ∧ (wipeR rk vs)[i]? = some (.ow es) ∧ (wipe σ vs)[i]? = σ[i]? := fun {i es} h => by
      by_cases hi : i ∈ vs
      · rw [backR_in hl hi] at h
        exact absurd hi (notow h)
      · rw [backR_out hi] at h
        exact ⟨hi, by rw [wipeR_out hi]; exact h, wipe_out' hi⟩
    have oeq : Oeq r (backR r rk vs) σ := fun b => by
      constructor
      · rintro ⟨i, es, h1, h2⟩
        obtain ⟨a1, a2, a3⟩ := owk h1
        exact (ho b).mp ⟨i, es, a2, by rw [a3]; exact h2⟩
      · intro z
        obtain ⟨i, es, h1, h2⟩ := (ho b).mpr z
        by_cases hi : i ∈ vs
        · exact absurd hi (wipe_some (show (wipe σ vs)[i]? = some (some (V.ref b)) from h2)).2
        · rw [wipeR_out hi] at h1
          rw [wipe_out' hi] at h2
          exact ⟨i, es, by rw [backR_out hi]; exact h1, h2⟩
    have bb : ∀ b, BB C (backR r rk vs) σ b → BB Cg (wipeR rk vs) (wipe σ vs) b := fun b z => z.elim (fun z => .inl (.inl z)) fun z => .inr ((ho b).mpr ((oeq b).mp z))
    have S := kp_step E1 kp1 oeq
    refine ⟨⟨rl.trans E.len, E.up0.trans kp, fun b h => ⟨(F.b0 b (.inl h)).1, fun z => (E.b0 b h).2 ((oeq b).mp z)⟩, fun i d h => ?_, fun i es h => ?_, fun i j es fs b h1 h2 h3 h4 => ?_, fun b es q0 h => ?_, F.tb⟩, oeq, kp, ?_⟩
    · by_cases hi : i ∈ vs
      · rw [backR_in hl hi] at h
        obtain ⟨v, e, rv⟩ := E1.sh i d h
        exact ⟨v, e, Rp.step S _ _ rv⟩
      · rw [backR_out hi] at h
        obtain ⟨v, e, rv⟩ := F.sh i d (by rw [wipeR_out hi]; exact h)
        rw [wipe_out' hi] at e
        exact ⟨v, e, rv.mono (Same.refl _) fun b z => .inl (bb b z)⟩
    · obtain ⟨a1, a2, a3⟩ := owk h
      obtain ⟨a, us, e1, e2, e3, rv⟩ := F.ow i es a2
      rw [a3] at e1
      have o1 : OwnA r σ a := (oeq a).mp ⟨i, es, h, e1⟩
      exact ⟨a, us, e1, e2, (E.own o1).choose_spec.2, rv.mono (Same.refl _) fun b z => .inl (bb b z)⟩
    · obtain ⟨a1, a2, a3⟩ := owk h1
      obtain ⟨b1, b2, b3⟩ := owk h2
      exact F.inj i j es fs b a2 b2 (by rw [a3]; exact h3) (by rw [b3]; exact h4)
    · obtain ⟨a1, a2, a3⟩ := owk h
      have := F.pin b es q0 a2
      rw [a3] at this
      exact this
    · exact .lst (.mk (.inl hD') fun z => z.elim (fun z => (E.b0 D z).1 (s1.free hD)) fun z => nD ((oeq D).mp z)) (ra.mono (Same.refl _) fun b z => .inl (bb b z))
  -- from the slots of a turn to those of the next
  have owns : ∀ {rk r1 r3 : Rho} {σ2 : St} {d : Z.D}, G d (wipeR rk vs) = some r1 → sameOw r1 r3 = true → (∀ j, j ∉ is → σ2[j]? = (wipe σ vs)[j]?) → (∀ b, OwnA (wipeR rk vs) (wipe σ vs) b ↔ OwnA r σ b) → ∀ b, OwnA (wipeR r3 vs) (wipe σ vs) b ↔ OwnA r σ b := fun {rk r1 r3 σ2 d} hG hs hσ ho b => by
    unfold sameOw at hs
    rw [Bool.and_eq_true] at hs
    have hl : r1.length = r3.length := by simpa using hs.1
    have same : ∀ j, isOw r1 j = isOw r3 j := fun j => by
      by_cases hj : j < r1.length
      · have := List.all_eq_true.mp hs.2 j (List.mem_range.mpr hj)
        simpa using this
      · unfold isOw
        rw [List.getElem?_eq_none (by omega), List.getElem?_eq_none (by omega)]
    have isow : ∀ {q : Rho} {j : Nat}, isOw q j = true ↔ ∃ es, q[j]? = some (.ow es) := fun {q j} => by
      unfold isOw
      constructor
      · intro h
        split at h
        · exact ⟨_, by assumption⟩
        · cases h
      · rintro ⟨es, h⟩
        rw [h]
    refine Iff.trans ?_ (ho b)
    have key : ∀ j, j ∉ vs → ((∃ es, (wipeR r3 vs)[j]? = some (.ow es)) ↔ ∃ es, (wipeR rk vs)[j]? = some (.ow es)) := fun j hj => by
      have e1 : r1[j]? = (wipeR rk vs)[j]? := hk d _ _ hG j fun z => hj (hv j z)
      rw [wipeR_out hj, ← e1]
      exact isow.symm.trans ((by rw [same j]) : isOw r3 j = true ↔ isOw r1 j = true) |>.trans isow
    constructor
    · rintro ⟨j, es, h1, h2⟩
      have hj : j ∉ vs := (wipe_some (show (wipe σ vs)[j]? = some (some (V.ref b)) from h2)).2
      obtain ⟨es', h3⟩ := (key j hj).mp ⟨es, h1⟩
      exact ⟨j, es', h3, h2⟩
    · rintro ⟨j, es, h1, h2⟩
      have hj : j ∉ vs := (wipe_some (show (wipe σ vs)[j]? = some (some (V.ref b)) from h2)).2
      obtain ⟨es', h3⟩ := (key j hj).mpr ⟨es, h1⟩
      exact ⟨j, es', h3, h2⟩
  have ho0 : ∀ b, OwnA (wipeR r vs) (wipe σ vs) b ↔ OwnA r σ b := fun b => by
    constructor
    · rintro ⟨j, es, h1, h2⟩
      obtain ⟨h3, hj⟩ := wipe_some (show (wipe σ vs)[j]? = some (some (V.ref b)) from h2)
      rw [wipeR_out hj] at h1
      exact ⟨j, es, h1, h3⟩
    · rintro ⟨j, es, h1, h2⟩
      have hj := notow h1
      exact ⟨j, es, by rw [wipeR_out hj]; exact h1, by rw [wipe_out' hj]; exact h2⟩
  have F0 : EnvOk K Cg (upd H1 D (.lst [])) (wipeR r vs) (wipe σ vs) := (E1.toAt.plus hD (same_upd hD) (by rw [upd_same]; exact fun z => nomatch z)).wipe vs
  refine ⟨fun i m H' => ∃ acc dacc rk, m = ds.length - i ∧ i ≤ ds.length ∧ EnvOk K Cg H' (wipeR rk vs) (wipe σ vs) ∧ rk.length = r.length ∧ (∀ b, OwnA (wipeR rk vs) (wipe σ vs) b ↔ OwnA r σ b) ∧ H' D = some (.lst acc) ∧ RpAll K H' (BB Cg (wipeR rk vs) (wipe σ vs)) acc dacc ∧ compX vs G T f rk dacc (ds.drop i) = res,
    ⟨ds.length, [], [], r, by omega, Nat.zero_le _, F0, rfl, ho0, upd_same, .nil, hc⟩, fun i m H' ⟨acc, dacc, rk, em, hl, F, rkl, ho, hD', ra, hcc⟩ => ?_⟩
  obtain ⟨y1, y2, y3⟩ := yl i H' F.same
  by_cases hlt : i < ds.length
  rotate_left
  · have e : i = ds.length := by omega
    subst e
    rw [List.drop_length] at hcc
    have e2 : res = .ok dacc rk := hcc.symm
    rw [e2] at q
    obtain ⟨a1, a2, a3, a4⟩ := home F rkl ho hD' ra
    exact .inl ⟨y2 (Nat.le_refl _), q H' a3 a1 a2 _ a4⟩
  refine .inr ⟨y1 hlt, fun H4 => ∃ acc dacc rk, EnvOk K Cg H4 (wipeR rk vs) (wipe σ vs) ∧ rk.length = r.length ∧ (∀ b, OwnA (wipeR rk vs) (wipe σ vs) b ↔ OwnA r σ b) ∧ H4 D = some (.lst acc) ∧ RpAll K H4 (BB Cg (wipeR rk vs) (wipe σ vs)) acc dacc ∧ compX vs G T f rk dacc (ds.drop (i + 1)) = res,
    fun H4 ⟨acc, dacc, rk, h1, h2, h3, h4, h5, h6⟩ => ⟨m - 1, by omega, acc, dacc, rk, by omega, hlt, h1, h2, h3, h4, h5, h6⟩, fun x H2 hy => ?_⟩
  obtain ⟨s3, d, hd, rd⟩ := y3 x H2 hy hlt
  rw [drop_at hd] at hcc
  obtain ⟨r1, t, r2, hG, hT, hf, ht⟩ := compX_step hcc hn
  have F2 := F.go s3
  have hD2 : H2 D = some (.lst acc) := s3.at hD'
  have ra2 := ra.mono (B' := BB Cg (wipeR rk vs) (wipe σ vs)) s3 (fun _ z => .inl z)
  have rx : Rp K H2 (BB Cg (wipeR rk vs) (wipe σ vs)) x d := rd _ fun a z => by
    rcases z with (z | z) | z
    · exact .inl z
    · exact .inr (by rw [z]; exact gD)
    · exact .inr (ground_own ((ho a).mp z))
  refine ⟨Cg, wipeR rk vs, r1, d, F2, rx, hG, fun σ2 E3 bb hσ => ⟨?_, Cg, r1, E3, ?_⟩⟩
  · refine wipe_eq ?_ fun i hi => (hσ i fun z => hi (hv i z)).trans (wipe_out' hi)
    have l1 := E3.len
    have l2 := E1.len
    have l3 : (wipeR rk vs).length = rk.length := wipeR_length vs
    rw [← l1, ← l2, hz' d _ _ hG, l3, rkl]
  · have hw : wipe σ2 vs = wipe σ vs := by
      refine wipe_eq ?_ fun i hi => (hσ i fun z => hi (hv i z)).trans (wipe_out' hi)
      have l1 := E3.len
      have l2 := E1.len
      have l3 : (wipeR rk vs).length = rk.length := wipeR_length vs
      rw [← l1, ← l2, hz' d _ _ hG, l3, rkl]
    have len1 : r1.length = r.length := by rw [hz' d _ _ hG, wipeR_length vs, rkl]
    -- from the block's slots behind an expression to the next turn's
    have onward : ∀ {H4 : Hp} {r4 : Rho}, EnvOk K Cg H4 r4 σ2 → sameOw r1 r4 = true → r4.length = r.length ∧ EnvOk K Cg H4 (wipeR r4 vs) (wipe σ vs) ∧ ∀ b, OwnA (wipeR r4 vs) (wipe σ vs) b ↔ OwnA r σ b := fun {H4 r4} E4 so => by
      refine ⟨?_, hw ▸ E4.wipe vs, owns hG so hσ ho⟩
      rw [E4.len, ← E3.len, len1]
    have bbw : ∀ {r4 : Rho}, (∀ b, OwnA (wipeR r4 vs) (wipe σ vs) b ↔ OwnA r σ b) → ∀ b, BB Cg (wipeR r4 vs) (wipe σ vs) b → BB Cg (wipeR rk vs) (wipe σ vs) b := fun o b z => z.elim .inl fun z => .inr ((ho b).mpr ((o b).mp z))
    -- what was collected, through what an expression changed
    have sub1 : ∀ b, OwnA r1 σ2 b → BB Cg (wipeR rk vs) (wipe σ vs) b := fun b z => bb b (.inr z)
    have through : ∀ {Ha Hb : Hp} {q1 : Rho} {B' : Addr → Prop}, EnvOk K Cg Ha q1 σ2 → Kp q1 σ2 Ha Hb → (∀ b, OwnA q1 σ2 b → BB Cg (wipeR rk vs) (wipe σ vs) b) → (∀ b, B' b → BB Cg (wipeR rk vs) (wipe σ vs) b) → Step K Ha Hb (BB Cg (wipeR rk vs) (wipe σ vs)) B' := fun {Ha Hb q1 B'} Ea kk sub sub' => by
      refine ⟨fun b xs rd nb => ⟨?_, fun z => nb (sub' b z)⟩, fun b xs t => ?_, fun b φ t => kk.at t fun z => by
        obtain ⟨us, e, _⟩ := Ea.own z
        rw [e] at t
        exact nomatch t⟩
      · have n : ¬ OwnA q1 σ2 b := fun z => nb (sub b z)
        rcases rd with rd | ⟨u, rd⟩
        · exact .inl (kk.at rd n)
        · exact .inr ⟨u, kk.at rd n⟩
      · rcases t with t | t
        · have n : ¬ OwnA q1 σ2 b := fun z => by
            obtain ⟨us, e, _⟩ := Ea.own z
            rcases t with t | ⟨u, t⟩ <;> (rw [e] at t; cases t)
          rcases t with t | ⟨u, t⟩
          · exact .inl (.inl (kk.at t n))
          · exact .inl (.inr ⟨u, kk.at t n⟩)
        · exact .inr t
    have nD : ∀ {Ha : Hp} {q1 : Rho}, EnvOk K Cg Ha q1 σ2 → ¬ OwnA q1 σ2 D := fun Ea => (Ea.b0 D (.inr rfl)).2
    rw [hT]
    intro H3 k3 E4 o4
    have hD3 : H3 D = some (.lst acc) := k3.at hD2 (nD E3)
    cases t with
    | false =>
      dsimp only
      rw [if_neg Bool.false_ne_true]
      obtain ⟨so, hcc2⟩ := hf rfl
      obtain ⟨a1, a2, a3⟩ := onward E4 so
      exact ⟨acc, dacc, r2, a2, a1, a3, hD3, Rp.stepAll (through E3 k3 sub1 (bbw a3)) _ _ ra2, hcc2⟩
    | true =>
      dsimp only
      rw [if_pos rfl]
      have ra3 : RpAll K H3 (BB Cg (wipeR rk vs) (wipe σ vs)) acc dacc := Rp.stepAll (through E3 k3 sub1 fun _ z => z) _ _ ra2
      have sub2 : ∀ b, OwnA r2 σ2 b → BB Cg (wipeR rk vs) (wipe σ vs) b := fun b z => sub1 b ((o4 b).mp z)
      refine ⟨Cg, r2, E4, ?_⟩
      rcases ht rfl with ⟨y, r3, hy, hz, so, hc2⟩ | ⟨j, r3, hy, so, hres⟩
      · rw [hy]
        intro H4 k4 E5 o5 v rv
        obtain ⟨a1, a2, a3⟩ := onward E5 so
        have hD4 : H4 D = some (.lst acc) := k4.at hD3 (nD E4)
        have ra4 := Rp.stepAll (through E4 k4 sub2 (bbw a3)) _ _ ra3
        have rv4 : Rp K H4 (BB Cg (wipeR r3 vs) (wipe σ vs)) v y := rv.mono (Same.refl _) fun b z => .inl (z.elim .inl fun ⟨j, es, h1, h2⟩ => by
          have hj := (wipe_some (show (wipe σ vs)[j]? = some (some (V.ref b)) from h2)).2
          rw [wipeR_out hj] at h1
          rw [← hw, wipe_out' hj] at h2
          exact .inr ⟨j, es, h1, h2⟩)
        exact ⟨acc, hD4, by rw [ra.length]; exact hz, acc ++ [v], dacc ++ [y], r3, a2.updB (.inr rfl) hD4 gD, a1, a3, upd_same, (ra4.updB (.inl (.inr rfl)) hD4).append (.cons (rv4.updB (.inl (.inr rfl)) hD4) .nil), hc2⟩
      · rw [hy]
        intro H4 k4 E5 o5
        obtain ⟨a1, a2, a3⟩ := onward E5 so
        have hD4 : H4 D = some (.lst acc) := k4.at hD3 (nD E4)
        have ra4 := Rp.stepAll (through E4 k4 sub2 (bbw a3)) _ _ ra3
        rw [hres] at q
        obtain ⟨b1, b2, b3, _⟩ := home a2 a1 a3 hD4 ra4
        exact q H4 b3 b1 b2
variable {elt tg iter : Expr} {ifs : List Expr} {scope : Scope} {own : List (Str × Nat)} {is : List Nat} {fi : Rho → R (List D)} {G : D → Rho → Option Rho} {T : Rho → RX Bool} {pos : Pos}
theorem zx_lc (own : List (Str × Nat)) (A : Amb X W k) (hi : ZI X cm W tg iter fi) (ok : BlkOk X.N X.env.scope scope own) (hg : ∀ (s : Shared) (H : Hp) (C : Addr) (cl : List (Str × Addr)) (fp : List Addr), ZG (X.blk s H scope (compEnvC scope cl C X.env) fp) tg is G)
    (ht : ∀ (s : Shared) (H : Hp) (C : Addr) (cl : List (Str × Addr)) (fp : List Addr), Amb (X.blk s H scope (compEnvC scope cl C X.env) fp) W0 k → ZXTs (X.blk s H scope (compEnvC scope cl C X.env) fp) cm W0 ifs T)
    (he : ∀ (s : Shared) (H : Hp) (C : Addr) (cl : List (Str × Addr)) (fp : List Addr) (pl : List (Addr × Obj)) (xe : Value → Shared → Prop) (Wb : WX), Amb ((X.blk s H scope (compEnvC scope cl C X.env) fp).tr pl xe) Wb k → ZXE ((X.blk s H scope (compEnvC scope cl C X.env) fp).tr pl xe) cm Wb elt f)
    (hv : ∀ i ∈ is, i ∈ own.map (·.2) := by decide) (hs : ∀ x, foldedSetIterable iter X.env x = pure x := by intro _; rfl) :
    ZXE X cm W (.ListComp elt [⟨tg, iter, ifs, 0⟩] scope pos) (xLc (own.map (·.2)) fi G T f) :=
  PE.imp (pe_lcX (g := tG X.K is G) (tt := tXT X.K cm W0 T) (te := fun Wb => tX X.K cm Wb f) (Ok := Calm) (fun _ _ _ _ _ _ _ _ => A.calm) A.nd A.tf A.tp (.of hi) ok (fun s H C cl fp => (hg s H C cl fp).pg) (fun s H C cl fp => ht s H C cl fp (A.blk s H scope C cl fp)) (fun s H C cl fp pl xe Wb tf => he s H C cl fp pl xe Wb (A.blkX s H scope C cl fp pl xe Wb tf)) hs)
    (lcx_reads (hg X.s_0 X.H_0 0 [] []).keep (hg X.s_0 X.H_0 0 [] []).size hv)
def xT2 (F : D → D → R Bool) (f g : Rho → RX D) : Rho → RX Bool := fun r => (f r).bind fun d r1 => (g r1).bind fun e r2 => liftR (F d e) r2
theorem zxt_cmp {a b : Expr} {g h : Rho → RX D} {op : CmpOp} {F : D → D → R Bool} (hc : Cmp X op F) (ha : ZXE X cm W a g) (hb : ZXE X cm W b h) (nx : ∀ d e j, F d e ≠ .ex j) (h1 : behindInMarks op b = false := by first | exact nobehind _ (by decide) (by decide) | rfl) :
    ZXT X cm W (.Compare a [op] [b] pos) (xT2 F g h) := by
  obtain ⟨r0, ho, hk⟩ := hc
  refine PT.imp (pt_cmpR ho ha hb h1) fun σ H Q ⟨C, r, E, q⟩ => ⟨C, r, E, rst_imp (rst_bind q) fun d r1 H1 k1 E1 o1 q v rv => ⟨C, r1, E1, rst_imp (rst_bind q) fun e r2 H2 k2 E2 o2 q w rw_ => ?_⟩⟩
  cases hF : F d e with
  | no => rw [hF] at q; exact (show False from q).elim
  | ex j => exact absurd hF (nx d e j)
  | ok t =>
    rw [hF] at q
    exact hk H2 (BB C r2 σ) v w d e _ (rv.kp E1 k2 o2).c rw_.c ⟨t, hF, t, rfl, q H2 .refl E2 .refl⟩
end
end Z


set_option Elab.async false
set_option linter.all false
set_option maxRecDepth 100000
set_option maxHeartbeats 4000000
namespace Z
open PySem PySem.Spec PyProof.Rows L2
/-! ### lists put together -/
def xsExt (i : Nat) (f : Rho → R (List D)) : SF := fun r => match r[i]? with
  | some (.ow ds) => onE (f r) r fun es => if ds.length + es.length ≤ sizeLine then .nx (r.set i (.ow (ds ++ es))) else .no
  | _ => .no
def cCat (f g : Rho → R D) : Rho → R (List D) := fun r => (f r).bind fun x => (g r).bind fun y => match x, y with
  | .list xs, .list ys => if xs.length + ys.length ≤ sizeLine then .ok (xs ++ ys) else .no
  | _, _ => .no
section
variable {X : Cx} {cm : Nat → Addr} {W : WX} {k : Nat} {e a b : Expr} {f g : Rho → R D} {pos : Pos}
theorem zs_ext (i : Nat) {x : Str} {px apos cpos : Pos} {fs : Rho → R (List D)} (he : ZF X cm W e fs) (hN : X.N[i]? = some x := by rfl) (hv : Vis X.env.scope x := by first | exact Or.inl rfl | exact Or.inr (Or.inl rfl) | exact Or.inr (Or.inr rfl)) (hd : (x == ("__debug__" : Str)) = false := by decide) (hcd : (x == ("__classdict__" : Str)) = false := by decide)
    (hs : swapsWith (.Call (.Attribute (.Name x px) "extend" apos) [e] [] cpos) none pos.line X.env = pure false := by rfl)
    (hfew : ((backTo cpos (starEach (e :: []) X.env)).all (fun x => !x.1) && (backToKw cpos (keywordEach [] X.env)).all (fun x => x.1.isSome)
      && decide ((e :: []).length + ([] : List Keyword).length + (if ([] : List Keyword).isEmpty then 0 else 1) < 30)) = true := by rfl)
    (hline : (apos.endLine == cpos.line) = true := by rfl) (hst : starEach (e :: []) X.env = (false, eval e X.env) :: starEach [] X.env := by rfl) :
    ZS X cm W (.Expr (.Call (.Attribute (.Name x px) "extend" apos) [e] [] cpos) pos) (xsExt i fs) :=
  PS.imp (ps_expr (pe_bm PySem.F.plainAttrs_list PySem.F.slot_list_extend PySem.F.type_list_extend mt_extend (pe_var hN hv hd hcd) (pa_cons he pa_nil hst) rfl hfew hline hst rfl) hs) fun Dn σ H ⟨C, r, E, q⟩ => by
    unfold xsExt at q
    split at q
    · rename_i ds hr
      obtain ⟨a, vs, e1, e2, e0, rv⟩ := E.ow i ds hr
      refine ⟨.ref a, e1, .inl ⟨rfl, vs, .inl (.inl e2)⟩, C, r, E, pst_imp (pso_of E q) fun es q p us H1 s1 np hp r1 => ?_⟩
      by_cases hz : ds.length + es.length ≤ sizeLine
      · rw [if_pos hz] at q
        refine ⟨a, p, vs, us, rfl, rfl, s1.at e2, hp, by rw [rv.length, r1.length]; exact hz, ?_⟩
        exact q σ _ ((E.go s1).upd_ow hr e1 ((rv.mono s1).append (r1.mono (Same.refl _) fun b z => .inl (.inl z))))
      · rw [if_neg hz] at q
        exact (show False from q).elim
    · exact (show False from q).elim
theorem zf_cat (ha : ZK X cm W a f) (hb : ZK X cm W b g) : ZF X cm W (.BinOp a .Add b pos) (cCat f g) :=
  PE.imp (pe_op op_catS ha hb) (then2F (F := fun x y => match x, y with
    | .list xs, .list ys => if xs.length + ys.length ≤ sizeLine then .ok (xs ++ ys) else .no
    | _, _ => .no) fun σ H B x y d e Q hb rx ry q => by
    cases d with
    | list xs =>
      cases e with
      | list ys =>
        by_cases hz : xs.length + ys.length ≤ sizeLine
        · have q : ResF X.K cm W σ B H (.ok (xs ++ ys)) Q := by
            have q' : ResF X.K cm W σ B H (if xs.length + ys.length ≤ sizeLine then .ok (xs ++ ys) else .no) Q := q
            rwa [if_pos hz] at q'
          obtain ⟨a, vs, rfl, h1, r1⟩ := rx.lstE
          obtain ⟨b, ws, rfl, h2, r2⟩ := ry.lstE
          exact ⟨a, b, vs, ws, rfl, rfl, h1, h2, by rw [r1.length, r2.length]; exact hz, fun p hp => q.lst (r1.append r2) hp⟩
        · have q' : ResF X.K cm W σ B H (if xs.length + ys.length ≤ sizeLine then .ok (xs ++ ys) else .no) Q := q
          rw [if_neg hz] at q'
          exact (show False from q').elim
      | _ => exact (show False from q).elim
    | _ => cases e <;> exact (show False from q).elim)
end
end Z
namespace Z
open PySem PySem.Spec PyProof.Rows L2
/-! ### a def that a slot holds is called -/
def fnD (x : Str) : D := .dict [(.str x, .none)]
def cCallV (i : Nat) (tbl : List (Str × (List D → R D))) (fa : Rho → R (List D)) : Rho → R D := fun r => match r[i]? with
  | some (.sh (.dict [(.str x, .none)])) => (match tbl.lookup x with
    | some Gd => (fa r).bind Gd
    | none => .no)
  | _ => .no
theorem lookup_mem {α : Type} {x : Str} {a : α} : ∀ {l : List (Str × α)}, l.lookup x = some a → (x, a) ∈ l
  | (y, b) :: l, h => by
    rw [List.lookup_cons] at h
    by_cases e : x = y
    · subst e
      rw [beq_self_eq_true] at h
      cases h
      exact List.mem_cons_self
    · rw [beq_eq_false_iff_ne.mpr e] at h
      exact List.mem_cons_of_mem _ (lookup_mem h)
section
variable {X : Cx} {cm : Nat → Addr} {W : WX} {k : Nat} {e : Expr} {pos : Pos}
theorem ze_callV (i : Nat) {x : Str} {p : Pos} {es : List Expr} {j : Nat} {tbl : List (Str × (List D → R D))} {fa : Rho → R (List D)} (Y : ∀ y Gd, (y, Gd) ∈ tbl → ZFn X.prog X.w X.K X.mg X.base cm y j Gd) (A : Amb X W k) (hj : j ≤ k) (ha : ZA X cm W (e :: es) fa)
    (hN : X.N[i]? = some x := by rfl) (hv : Vis X.env.scope x := by first | exact Or.inl rfl | exact Or.inr (Or.inl rfl) | exact Or.inr (Or.inr rfl)) (hd : (x == ("__debug__" : Str)) = false := by decide) (hcd : (x == ("__classdict__" : Str)) = false := by decide)
    (he : starEach (e :: es) X.env = (false, eval e X.env) :: starEach es X.env := by rfl) (hpl : (backTo pos (starEach es X.env)).any (·.1) = false := by rfl) : ZE X cm W (.Call (.Name x p) (e :: es) [] pos) (cCallV i tbl fa) := by
  refine ⟨fun pins s σ H Q I ⟨C, r, E, q⟩ => ?_⟩
  unfold cCallV at q
  split at q
  rotate_left
  · exact (show False from q).elim
  rename_i y hr
  obtain ⟨v, hs, rv⟩ := E.sh i _ hr
  cases rv with
  | fn h1 h2 =>
    rename_i f
    cases ht : tbl.lookup y with
    | none => rw [ht] at q; exact (show False from q).elim
    | some Gd =>
      rw [ht] at q
      dsimp only at q
      obtain ⟨f', fd, ps, g1, g2, g3, g4⟩ := ((Y y Gd (lookup_mem ht)).up hj).ex
      have ef : f' = f := by
        have z := PySem.W.mg_of I.ok.mod.kin I.ok.mod.glob h1
        rw [g1] at z
        exact Value.ref.inj (Option.some.inj z)
      subst ef
      refine wpAny_Call_Name_kw (thn ((pe_var (pos := p) (i := i) hN hv hd hcd).run pins s σ H (fun w G => w = V.ref f' ∧ G = H) I ⟨_, hs, rfl, rfl⟩) fun u s1 ⟨w, G, I1, rw_, e1, e2⟩ => ?_)
      subst e1
      subst e2
      cases rw_
      have q2 : tCallS (spZ X.K cm Gd) (WE W) (tA X.K cm W fa) σ G Q := call_reads σ G Q ⟨C, r, E, q⟩
      refine PySem.W.callWith_K (h₀ := X.base) I.ok.mod.kin g2 (thn (ha.run pos pins s1 σ G _ I1 q2) fun us s2 ⟨vs, G2, I2, ru, q3⟩ => ⟨I2.kIn, ?_⟩) he hpl
      exact run_fnG g4 A.hr A.gd g3 (passAtF A.tf σ) I2 ru q3
/-- the call of what an expression gives -/
def cCallE (tbl : List (Str × (List D → R D))) (ff : Rho → R D) (fa : Rho → R (List D)) : Rho → R D := fun r => (ff r).bind fun d => match d with
  | .dict [(.str x, .none)] => (match tbl.lookup x with
    | some Gd => (fa r).bind Gd
    | none => .no)
  | _ => .no
theorem ze_callE {fe : Expr} {ff : Rho → R D} {es : List Expr} {j : Nat} {tbl : List (Str × (List D → R D))} {fa : Rho → R (List D)} (hf : ZE X cm W fe ff) (Y : ∀ y Gd, (y, Gd) ∈ tbl → ZFn X.prog X.w X.K X.mg X.base cm y j Gd) (A : Amb X W k) (hj : j ≤ k) (ha : ZA X cm W (e :: es) fa)
    (he : starEach (e :: es) X.env = (false, eval e X.env) :: starEach es X.env := by rfl) (hpl : (backTo pos (starEach es X.env)).any (·.1) = false := by rfl)
    (ht : eval (.Call fe (e :: es) [] pos) X.env = (do callWith pos (← eval fe X.env) [] (backTo pos (starEach (e :: es) X.env)) (backToKw pos (keywordEach [] X.env))) := by rfl) : ZE X cm W (.Call fe (e :: es) [] pos) (cCallE tbl ff fa) := by
  refine ⟨fun pins s σ H Q I ⟨C, r, E, q⟩ => ?_⟩
  have first_ : tE X.K cm W ff σ H fun v H1 => ∃ f x Gd, v = .ref f ∧ PySem.W.nsIn X.K mainGlobals x = some (some (.ref f)) ∧ tbl.lookup x = some Gd ∧ tE X.K cm W (cCall Gd fa) σ H1 Q := ⟨C, r, E, pst_imp (pst_bind q) fun d q v H1 s1 rv => by
    have q : pst cm W σ H (match d with
      | .dict [(.str x, .none)] => (match tbl.lookup x with
        | some Gd => (fa r).bind Gd
        | none => .no)
      | _ => .no) fun d => ∀ v H', Same H H' → Rp X.K H' (BB C r σ) v d → Q v H' := q
    split at q
    rotate_left
    · exact (show False from q).elim
    rename_i y qq
    cases rv with
    | fn h1 h2 =>
      cases ht : tbl.lookup y with
      | none => rw [ht] at q; exact (show False from q).elim
      | some Gd =>
        rw [ht] at q
        exact ⟨_, y, Gd, rfl, h1, ht, C, r, E.go s1, pst_imp (pst_go q s1) fun d q v H2 s2 rd => q v H2 (s1.trans s2) rd⟩⟩
  rw [ht]
  refine wpAny_bind (thn (hf.run pins s σ H _ I first_) fun u s1 ⟨v, H1, I1, ru, f, x, Gd, ev, h1, hx, q1⟩ => ?_)
  subst ev
  cases ru
  obtain ⟨f', fd, ps, g1, g2, g3, g4⟩ := ((Y x Gd (lookup_mem hx)).up hj).ex
  have ef : f' = f := by
    have z := PySem.W.mg_of I1.ok.mod.kin I1.ok.mod.glob h1
    rw [g1] at z
    exact Value.ref.inj (Option.some.inj z)
  subst ef
  have q2 : tCallS (spZ X.K cm Gd) (WE W) (tA X.K cm W fa) σ H1 Q := call_reads σ H1 Q q1
  refine PySem.W.callWith_K (h₀ := X.base) I1.ok.mod.kin g2 (thn (ha.run pos pins s1 σ H1 _ I1 q2) fun us s2 ⟨vs, G2, I2, rus, q3⟩ => ⟨I2.kIn, ?_⟩) he hpl
  exact run_fnG g4 A.hr A.gd g3 (passAtF A.tf σ) I2 rus q3
end
end Z


set_option Elab.async false
set_option linter.all false
set_option maxRecDepth 100000
set_option maxHeartbeats 4000000
/-! While an exception is handled whose context is None, or one whose context is None: a list's walk ends, sum of a list of ints. -/
namespace Z
open PySem PySem.Spec PyProof.Rows L2
/-- the exception that is handled stands at x1; its context is None, or an exception whose context is None -/
def HotH (A : Around) (x1 : Addr) (h : Heap) : Prop := A.handled = some (.ref x1) ∧ ∃ (o : Obj) (vs : Array Value), h.get? x1 = some o ∧ o.data = .fields vs ∧
  (vs[2]? = some .none ∨ ∃ (x2 : Addr) (o2 : Obj) (ws : Array Value), vs[2]? = some (.ref x2) ∧ h.get? x2 = some o2 ∧ o2.data = .fields ws ∧ ws[2]? = some .none)
theorem HotH.keeps {A : Around} {x1 : Addr} {h h' : Heap} (t : HotH A x1 h) (k : ∀ b o vs, h.get? b = some o → o.data = .fields vs → 2 < vs.size → h'.get? b = some o) : HotH A x1 h' := by
  obtain ⟨hh, o, vs, e, d, c⟩ := t
  refine ⟨hh, o, vs, k _ _ _ e d ?_, d, ?_⟩
  · rcases c with c | ⟨_, _, _, c, _⟩ <;> exact (Array.getElem?_eq_some_iff.mp c).1
  · rcases c with c | ⟨x2, o2, ws, c, e2, d2, c2⟩
    · exact .inl c
    · exact .inr ⟨x2, o2, ws, c, k _ _ _ e2 d2 (Array.getElem?_eq_some_iff.mp c2).1, d2, c2⟩
section
variable {prog : Program} {w : World} {A : Around} {E : Value → Shared → Prop} {s : Shared}
theorem unchain_hot {x1 a : Addr} {Q : Value → Shared → Prop} (t : HotH A x1 s.heap) (n2 : ∀ o vs x2, s.heap.get? x1 = some o → o.data = .fields vs → vs[2]? = some (.ref x2) → x2 ≠ a) (q : Q .none s) :
    wpAny (model prog w) A (holding [Value.ref a] (runValue (.builtin "proto.unchain" ⟨[.ref a, .ref x1, .ref x1, .bool false], []⟩))) Q E s := by
  obtain ⟨_, o, vs, e, d, c⟩ := t
  refine wpAny_holding (wpAny_runValue (codeAny_builtin HotX.entry_unchain ?_))
  show wpAny _ _ (field (.ref x1) 2 >>= _) _ _ s
  rcases c with c | ⟨x2, o2, ws, c, e2, d2, c2⟩
  · refine wpAny_bind (wpAny_field e d c ?_)
    rw [if_pos (show (Value.none == Value.none) = true from rfl)]
    first
    | exact wpAny_bind (wpAny_pure (wpAny_pure q))
    | exact wpAny_pure q
  · refine wpAny_bind (wpAny_field e d c ?_)
    have ne := n2 o vs x2 e d c
    rw [if_neg (show ¬ (Value.ref x2 == Value.none) = true from by simp), if_neg (show ¬ (Value.ref x2 == Value.ref a) = true from by simp [ne])]
    by_cases h12 : x2 = x1
    · rw [if_pos (show (Value.ref x2 == Value.ref x1) = true from by simp [h12])]
      refine wpAny_bind (wpAny_rule ?_)
      first
      | exact wpAny_bind (wpAny_pure (wpAny_pure q))
      | exact wpAny_pure q
    · rw [if_neg (show ¬ (Value.ref x2 == Value.ref x1) = true from by simp [h12])]
      have nxt : codeAny (model prog w) A (.builtin "proto.unchain" ⟨[.ref a, .ref x2, .ref x1, .bool true], []⟩) (fun r s' => match r with
          | .ok (.ret v) => Q v s'
          | _ => False) s := by
        refine codeAny_builtin HotX.entry_unchain ?_
        show wpAny _ _ (field (.ref x2) 2 >>= _) _ _ s
        refine wpAny_bind (wpAny_field e2 d2 c2 ?_)
        rw [if_pos (show (Value.none == Value.none) = true from rfl)]
        first
        | exact wpAny_bind (wpAny_pure (wpAny_pure q))
        | exact wpAny_pure q
      refine wpAny_bind (wpAny_pure ?_)
      refine wpAny_pure ⟨Code.quiet_builtin _ (by decide +kernel), ?_⟩
      exact codeAny_mono nxt fun r s' z => by
        match r, z with
        | .ok (.ret v), z => exact z
theorem raise_hot {α : Type} {a x1 : Addr} {oe : Obj} {vs : Array Value} {Q : α → Shared → Prop} (t : HotH A x1 s.heap) (n1 : x1 ≠ a) (n2 : ∀ o ws x2, s.heap.get? x1 = some o → o.data = .fields ws → ws[2]? = some (.ref x2) → x2 ≠ a) (ha : s.heap.get? a = some oe) (da : oe.data = .fields vs) (hi : 2 < vs.size)
    (hE : E (.ref a) { s with heap := s.heap.update a (Obj.mapFields (·.setIfInBounds 2 (.ref x1))) }) : wpAny (model prog w) A (raiseNew (.ref a) : Sem α) Q E s := by
  have hh := t.1
  unfold raiseNew
  refine wpAny_bind (wpAny_handled ?_)
  rw [hh]
  have hb : (Value.ref x1 != Value.ref a) = true := HotX.ref_bne n1
  first
  | (show wpAny _ _ (if (Value.ref x1 != Value.ref a) = true then _ else _) _ _ _
     rw [if_pos hb]
     first
     | exact wpAny_bind (unchain_hot t n2 (wpAny_bind (HotX.chained ha da hi (wpAny_throw hE))))
     | exact wpAny_bind (wpAny_bind (unchain_hot t n2 (HotX.chained ha da hi (wpAny_throw hE)))))
  | (refine wpAny_bind ?_
     show wpAny _ _ (if (Value.ref x1 != Value.ref a) = true then _ else _) _ _ _
     rw [if_pos hb]
     exact wpAny_bind (unchain_hot t n2 (HotX.chained ha da hi (wpAny_throw hE))))
/-- a list's walk ends -/
theorem next_end_hot {it l x1 : Addr} {i : Nat} {items} {Q : Option Value → Shared → Prop} (t : HotH A x1 s.heap) (st : s.heap.IsListIter it l i) (hl : s.heap.IsList l items) (hx : items[i]? = none)
    (q : ∀ h', (∀ b o, b ≠ it → s.heap.get? b = some o → h'.get? b = some o) → Q none { s with heap := h' }) : wpAny (model prog w) A (pyNext (.ref it)) Q E s := by
  obtain ⟨oi, hi, ci, di⟩ := id st
  obtain ⟨ol, hol, _, nl, dl⟩ := hl
  unfold pyNext
  refine wpAny_bind (wpAny_attempt (wpAny_callSpecial?_slot (name := Str.ofString "__next__") st.typeIs slot_listiter_next
    (wpAny_call_entry slot_listiter_next st.typeIs entry_listiter_next ?_ (args_listiter_next _))))
  show wpAny _ _ (field (.ref it) 0 >>= _) _ _ s
  refine wpAny_bind (wpAny_field hi di (x := .ref l) rfl ?_)
  show wpAny _ _ (if (Value.ref l == Value.none) = true then _ else _) _ _ s
  rw [if_neg (show ¬ ((Value.ref l == Value.none) = true) from Bool.false_ne_true)]
  show wpAny _ _ (field (.ref it) 1 >>= _) _ _ s
  refine wpAny_bind (wpAny_field hi di (x := .int i 0) rfl ?_)
  show wpAny _ _ (seqItems? (.ref l) >>= _) _ _ s
  refine wpAny_bind (wpAny_seqItems hol dl ?_)
  simp only [Int.toNat_natCast, hx]
  refine wpAny_bind (wpAny_rule (wpAny_bind (wpAny_setField hi di (by simp) ?_)))
  generalize eh : s.heap.update it (Obj.mapFields (·.setIfInBounds 0 Value.none)) = h0
  have k0 : ∀ b o, b ≠ it → s.heap.get? b = some o → h0.get? b = some o := fun b o n e => by
    rw [← eh, Heap.get?_update_other _ _ (Ne.symm n)]
    exact e
  have t0 : HotH A x1 h0 := t.keeps fun b o vs e d z => k0 b o (fun y => by
    rw [y, hi] at e
    cases e
    rw [di] at d
    cases d
    revert z
    simp) e
  show wpAny _ _ (newExc (.type "StopIteration") [] >>= _) _ _ _
  refine wpAny_bind ?_
  simp only [newExc, newTuple]
  refine wpAny_bind (wpAny_newObj_type ?_ (by size_fits))
  refine wpAny_bind (m := firstArgMember _ _) (wpAny_of_eq (a := Value.none) (by first | rfl | (simp only [firstArgMember]; rfl)) ?_)
  refine wpAny_newObj_type ?_ (by size_fits)
  obtain ⟨_, o1, v1, e1, d1, c1⟩ := id t0
  refine raise_hot (x1 := x1) (t0.keeps fun b o vs e _ _ => Heap.get?_push_of_some _ (Heap.get?_push_of_some _ e)) (Nat.ne_of_lt (Heap.lt_size (Heap.get?_push_of_some _ e1))) (fun o ws x2 e d c => ?_) (Heap.get?_push_size _ rfl) rfl (by first | (simp; done) | (simp; omega) | (simp only [Array.size_append]; simp; omega)) ?_
  · have e' := Heap.get?_push_of_some { cls := Value.type "StopIteration", data := .fields (#[] : Array Value) } (Heap.get?_push_of_some { cls := Value.type "tuple", data := .seq (#[] : Array Value) 0 } e1)
    have eo : o = o1 := by
      have z := Heap.get?_push_of_some _ (Heap.get?_push_of_some _ e1) |>.symm.trans e
      exact (Option.some.inj z).symm
    subst eo
    rw [d1] at d
    cases d
    rcases c1 with c1 | ⟨y, o2, ws2, c1, e2, _⟩
    · rw [c1] at c; cases c
    · rw [c1] at c
      cases c
      exact Nat.ne_of_lt (Heap.lt_size (Heap.get?_push_of_some _ e2))
  · refine wpAny_bind (wpAny_isInstance (T := "StopIteration") (b := true) ⟨_, Heap.get?_update_self _ (Heap.get?_push_size _ rfl) rfl, rfl⟩ isSubtype_stop ?_)
    refine wpAny_pure (q _ fun b o n e => ?_)
    rw [Heap.get?_update_other _ _ (Nat.ne_of_gt (Heap.lt_size (Heap.get?_push_of_some _ (k0 b o n e))))]
    exact Heap.get?_push_of_some _ (Heap.get?_push_of_some _ (k0 b o n e))
/-! the walk of a list, and sum -/
def HotX2 (A : Around) (x1 x2 : Addr) (h : Heap) : Prop := A.handled = some (.ref x1) ∧ ∃ (o : Obj) (vs : Array Value), h.get? x1 = some o ∧ o.data = .fields vs ∧
  (vs[2]? = some .none ∨ ∃ (o2 : Obj) (ws : Array Value), vs[2]? = some (.ref x2) ∧ h.get? x2 = some o2 ∧ o2.data = .fields ws ∧ ws[2]? = some .none)
theorem HotX2.hot {x1 x2 : Addr} {h : Heap} (t : HotX2 A x1 x2 h) : HotH A x1 h := by
  obtain ⟨hh, o, vs, e, d, c⟩ := t
  exact ⟨hh, o, vs, e, d, c.imp id fun ⟨o2, ws, r⟩ => ⟨x2, o2, ws, r⟩⟩
theorem HotH.two {x1 : Addr} {h : Heap} (t : HotH A x1 h) : ∃ x2, HotX2 A x1 x2 h ∧ x1 < h.objs.size ∧ x2 < h.objs.size := by
  obtain ⟨hh, o, vs, e, d, c⟩ := t
  rcases c with c | ⟨x2, o2, ws, c, e2, r⟩
  · exact ⟨x1, ⟨hh, o, vs, e, d, .inl c⟩, Heap.lt_size e, Heap.lt_size e⟩
  · exact ⟨x2, ⟨hh, o, vs, e, d, .inr ⟨o2, ws, c, e2, r⟩⟩, Heap.lt_size e, Heap.lt_size e2⟩
theorem HotX2.keeps {x1 x2 : Addr} {h h' : Heap} (t : HotX2 A x1 x2 h) (k1 : ∀ o, h.get? x1 = some o → h'.get? x1 = some o) (k2 : ∀ o, h.get? x2 = some o → h'.get? x2 = some o) : HotX2 A x1 x2 h' := by
  obtain ⟨hh, o, vs, e, d, c⟩ := t
  exact ⟨hh, o, vs, k1 _ e, d, c.imp id fun ⟨o2, ws, c, e2, r⟩ => ⟨o2, ws, c, k2 _ e2, r⟩⟩
/-- who may bear an exception's record: not a list iterator -/
theorem HotX2.but {x1 x2 I : Addr} {h h' : Heap} {ax i : Nat} (t : HotX2 A x1 x2 h) (st : h.IsListIter I ax i) (k : ∀ b o, b ≠ I → h.get? b = some o → h'.get? b = some o) : HotX2 A x1 x2 h' := by
  obtain ⟨hh, o, vs, e, d, c⟩ := t
  have ni : ∀ {b : Addr} {o : Obj} {vs : Array Value}, h.get? b = some o → o.data = .fields vs → 2 < vs.size → b ≠ I := fun {b o vs} e d z y => by
    obtain ⟨oi, hi, _, di⟩ := st
    rw [y, hi] at e
    cases e
    rw [di] at d
    cases d
    revert z
    simp
  refine ⟨hh, o, vs, k _ _ (ni e d ?_) e, d, ?_⟩
  · rcases c with c | ⟨_, _, c, _⟩ <;> exact (Array.getElem?_eq_some_iff.mp c).1
  · rcases c with c | ⟨o2, ws, c, e2, d2, c2⟩
    · exact .inl c
    · exact .inr ⟨o2, ws, c, k _ _ (ni e2 d2 (Array.getElem?_eq_some_iff.mp c2).1) e2, d2, c2⟩
theorem walks_hot {x1 x2 : Addr} (I ax : Addr) (ne : ax ≠ I) (items : Array Value) :
    Walks prog w A I [I, ax, x1, x2] [I] items.size (fun i v => items[i]? = some v) (fun i h => h.IsListIter I ax i ∧ h.IsList ax items ∧ HotX2 A x1 x2 h) where
  sub := fun b hb => by simp at hb; simp [hb]
  frame := fun _ _ _ st hk => ⟨st.1.at fun o e => hk I (by simp) o e, st.2.1.at fun o e => hk ax (by simp) o e, st.2.2.keeps (fun o e => hk x1 (by simp) o e) fun o e => hk x2 (by simp) o e⟩
  item := fun i s Q E hi st hQ => by
    refine wpAny_pyNext_list_item st.1 st.2.1 (x := items[i]) (by simp [hi]) fun h' hit' hs' => ?_
    exact hQ _ h' s.toks (by simp [hi]) ⟨hit', st.2.1.extBut hs'.extBut ne, st.2.2.but st.1 fun b o n e => hs'.extBut b o n e⟩ fun b o hb e => hs'.extBut b o (fun h => hb (by simp [h])) e
  done := fun s Q E st hQ => next_end_hot st.2.2.hot st.1 st.2.1 (by simp) fun h' k => hQ h' s.toks fun b o hb e => k b o (fun h => hb (by simp [h])) e
  self := fun _ _ _ _ st hQ => wpAny_pyIter_listiter st.1 hQ
theorem sum_hot {x1 l : Addr} {its : List Value} {ns : List Int} {Q : Value → Shared → Prop} (t : HotH A x1 s.heap) (hl : s.heap.IsList l its.toArray) (hi : IntsAre its ns)
    (h : ∀ h' tk t', (∀ b o, s.heap.get? b = some o → h'.get? b = some o) → Q (.int ns.sum t') { s with heap := h', toks := tk }) : wpAny (model prog w) A (call (.builtin "sum") [.ref l]) Q E s := by
  obtain ⟨xs, e⟩ := hi.allInts.items
  have hn : numsOf (intItems xs).toList = ns := by rw [← e]; exact hi.numsOf
  rw [nums_intItems] at hn
  rw [e] at hl
  obtain ⟨x2, t2, l1, l2⟩ := t.two
  refine call_sum_walkG (iter_intList hl fun s₂ e st hfp hlI => ?_)
  subst e
  have up : ∀ {b : Addr}, b < s.heap.objs.size → b < (s.heap.push { cls := Value.type "list_iterator", data := .fields #[.ref l, .int 0 0] }).objs.size := fun {b} z => by
    rw [Heap.size_push]
    exact Nat.lt_succ_of_lt z
  have t3 : HotX2 A.in1 x1 x2 (s.heap.push { cls := Value.type "list_iterator", data := .fields #[.ref l, .int 0 0] }) := t2.keeps (fun o e => Heap.get?_push_of_some _ e) fun o e => Heap.get?_push_of_some _ e
  refine ⟨_, [s.heap.objs.size, l, x1, x2], _, _, _, _, numAt xs, rfl, walks_hot (A := A.in1) (x1 := x1) (x2 := x2) _ l hlI (intItems xs), ⟨st.1, st.2, t3⟩, fun b hb => ?_, (fun _ _ => intItems_at), fun h' tk t' hk => ?_⟩
  · rcases List.mem_cons.mp hb with rfl | hb
    · exact hfp _ (by simp)
    · rcases List.mem_cons.mp hb with rfl | hb
      · exact hfp _ (by simp)
      · rcases List.mem_cons.mp hb with rfl | hb
        · exact up l1
        · rcases List.mem_cons.mp hb with rfl | hb
          · exact up l2
          · cases hb
  · have := h h' tk t' (old_kept hk)
    rw [← hn, ← List.take_of_length_le (i := xs.size) (l := xs.toList.map (·.1)) (by simp), ← preSum_eq] at this
    simpa [intItems] using this
end
end Z


set_option Elab.async false
set_option linter.all false
set_option maxRecDepth 100000
set_option maxHeartbeats 4000000
/-! Exceptions whose context may be an exception without one (raised in an except suite): what is in the air, what leaves a def. -/
namespace Z
open PySem PySem.Spec PyProof.Rows L2
/-- class, dict; the context None, or an exception of the ground B that is not tracked and has none -/
def Zm (B : Heap) (H : Hp) (cls : Value) (d : Option Addr) (o : Obj) : Prop := o.cls = cls ∧ o.dict = d ∧ ∀ vs, o.data = .fields vs →
  vs[2]? = some .none ∨ ∃ (x2 : Addr) (o2 : Obj) (ws : Array Value), vs[2]? = some (.ref x2) ∧ B.get? x2 = some o2 ∧ H x2 = none ∧ o2.data = .fields ws ∧ ws[2]? = some .none
theorem Zm.steady {B : Heap} {H : Hp} {cls : Value} {d : Option Addr} : PXN.Steady1 (Zm B H cls d) := fun o v z => by
  refine ⟨PXN.steady_cls o v z.1, PXN.steady_dict o v z.2.1, fun vs e => ?_⟩
  obtain ⟨c, dd, dt, sl⟩ := o
  cases dt with
  | fields us =>
    have e1 : us.setIfInBounds 1 v = vs := Data.fields.inj e
    have e2 : vs[2]? = us[2]? := by rw [← e1]; simp [Array.getElem?_setIfInBounds]
    rw [e2]
    exact z.2.2 us rfl
  | _ => exact nomatch e
theorem Zm.ofN {B : Heap} {H : Hp} {cls : Value} {d : Option Addr} {o : Obj} (z : L2N.Zn cls d o) : Zm B H cls d o := ⟨z.1, z.2.1, fun vs e => .inl (z.2.2 vs e)⟩
def XE2 (X : Cx) (W : WX) (u : Value) (s' : Shared) : Prop :=
  ∃ (a : Addr) (B : Heap) (sI : Shared) (pins : List (Addr × Obj)) (σ : St) (H : Hp) (cls : Value) (d : Option Addr), u = .ref a ∧ Inv X pins σ H sI ∧ (∀ b o, sI.heap.get? b = some o → b ∉ frs X.stack → B.get? b = some o) ∧
    sI.heap.UpToSlots s'.heap ∧ Sky B X.stack a (Zm B H cls d) X.env.locals s'.heap ∧ H a = none ∧ s'.os = sI.os ∧ AllBare s'.gens ∧ W cls d σ H
def Takes2 (X : Cx) (W : WX) : Prop := ∀ u s', XE2 X W u s' → X.xe u s'
def CX2 (P : Program) (w : World) (outer : List Env) (H : Hp) (s : Shared) (E : XK) (u : Value) (s' : Shared) : Prop :=
  ∃ (a : Addr) (B : Heap) (H1 : Hp) (cls : Value) (d : Option Addr), u = .ref a ∧ HandSPX.FlyingZ B outer a (Zm B H1 cls d) s'.heap ∧ HOk P w H1 B ∧ UB (frs outer) H H1 s.heap B s'.heap ∧ H1 a = none ∧ s'.os = s.os ∧ AllBare s'.gens ∧ E cls d H1
theorem traced_imp {h B : Heap} {a : Addr} {Z1 Z2 : Obj → Prop} {fl : Value} (i : ∀ o, Z1 o → Z2 o) (t : HandSPX.TracedZ h B a Z1 fl) : HandSPX.TracedZ h B a Z2 fl := by
  obtain ⟨oe, vs, T, oT, ts, g, z, r⟩ := t
  exact ⟨oe, vs, T, oT, ts, g, i _ z, r⟩
theorem sky_imp {h B : Heap} {l : List Env} {a L : Addr} {Z1 Z2 : Obj → Prop} (i : ∀ o, Z1 o → Z2 o) (t : Sky B l a Z1 L h) : Sky B l a Z2 L h := by
  rcases t with ⟨t1, t2, t3, oe, vs, g, z, r⟩ | ⟨t1, t2, t3, t4⟩ | ⟨t1, t2, t3, t4⟩
  · exact .inl ⟨t1, t2, t3, oe, vs, g, i _ z, r⟩
  · exact .inr (.inl ⟨t1, t2, t3, traced_imp i t4⟩)
  · exact .inr (.inr ⟨t1, t2, t3, traced_imp i t4⟩)
theorem Takes2.n {X : Cx} {W : WX} (t : Takes2 X W) : L2N.Takes X W := fun u s' ⟨a, B, sI, pins, σ, H, cls, d, e, I, nb, up, sky, r⟩ => t u s' ⟨a, B, sI, pins, σ, H, cls, d, e, I, nb, up, sky_imp (fun _ => Zm.ofN) sky, r⟩
theorem CX2.n {P : Program} {w : World} {outer : List Env} {H : Hp} {s s' : Shared} {E : XK} {u : Value} (c : L2N.CX P w outer H s E u s') : CX2 P w outer H s E u s' := by
  obtain ⟨a, B, H1, cls, d, e, ⟨t1, t2, t3, t4⟩, r⟩ := c
  exact ⟨a, B, H1, cls, d, e, ⟨t1, t2, t3, traced_imp (fun _ => Zm.ofN) t4⟩, r⟩
section
variable {X : Cx} {pins : List (Addr × Obj)} {σ : St} {H : Hp} {s s' : Shared} {W : WX} {E : XK}
theorem XE2.of_call (I : Inv X pins σ H s) (hW : ∀ cls d G, E cls d G → W cls d σ G) {u : Value} (c : CX2 X.prog X.w X.stack H s E u s') : XE2 X W u s' := by
  obtain ⟨a, B, G, cls, d, hu, fl, hok, ub, na, os, ag, hE⟩ := c
  subst hu
  obtain ⟨F, yes, not⟩ := restrict s'.heap fun b => (B.get? b).isSome || decide (b ∈ frs X.stack)
  have inB : ∀ b o, B.get? b = some o → F.get? b = some o := fun b o q => (yes b (by rw [q]; rfl)).trans (fl.1 b o q)
  have inF : ∀ b, b ∈ frs X.stack → F.get? b = s'.heap.get? b := fun b m => yes b (by rw [decide_eq_true m, Bool.or_true])
  have from_ : ∀ b o, F.get? b = some o → s'.heap.get? b = some o ∧ ((B.get? b).isSome = true ∨ b ∈ frs X.stack) := fun b o q => by
    by_cases m : ((B.get? b).isSome || decide (b ∈ frs X.stack)) = true
    · exact ⟨(yes b m).symm.trans q, by simpa using m⟩
    · rw [not b (by simpa using m)] at q
      cases q
  refine ⟨a, B, { s with heap := F, gens := s'.gens, drawn := s'.drawn, toks := s'.toks }, pins, σ, G, cls, d, rfl, ?_, fun b o q n => ?_, Heap.UpToSlots.of_keeps fun b o q => (from_ b o q).1, .inr (.inl fl), na, os, ag, hW _ _ _ hE⟩
  · have un : Un (frs X.stack) [] H G s.heap F :=
      { keep := fun b o q n m _ => inB b o (ub.keep b o q n m)
        slot := fun b o q _ m _ => (ub.slot b o q m).imp fun sl z => (inF b m).trans z
        free := fun b o q n _ => ub.free b o q n
        there := fun b o q _ => by
          by_cases m : b ∈ frs X.stack
          · obtain ⟨sl, z⟩ := ub.slot b o q m
            exact ⟨_, (inF b m).trans z⟩
          · exact (ub.there b o q m).imp fun o' z => inB b o' z
        tups := ub.tups
        frzs := ub.frzs
        tbls := ub.tbls }
    exact I.call un (hok.kept inB) ag fun _ m => nomatch m
  · obtain ⟨q1, q2⟩ := from_ b o q
    rcases q2 with q2 | q2
    · obtain ⟨o', z⟩ := Option.isSome_iff_exists.mp q2
      have := fl.1 b o' z
      rw [q1] at this
      rw [z, this]
    · exact absurd q2 n
theorem passAt2 (tk : Takes2 X W) (σ : St) : PassesAt (CX2 X.prog X.w) X σ (WE W σ) := fun _ _ _ u s' I c => tk u s' (XE2.of_call I (fun _ _ _ h => h) c)
/-- it leaves the def -/
theorem takes2_of (hs : X.stack = X.env :: X.outer) (hf : X.env.frame = some X.env.locals) (hex : X.ex = []) {E1 : Value → Shared → Prop}
    (hx : X.xe = fun u t => wpAny (model X.prog X.w) X.A (leaving X.env u) (fun _ t2 => CX2 X.prog X.w X.outer X.H_0 X.s_0 E u t2) E1 t) : Takes2 X (fun cls d _ G => E cls d G) := fun u t x => by
  rw [hx]
  obtain ⟨a, B, sI, pins, σ, G, cls, d, hu, I, nb, up, sky, na, os, ag, w⟩ := x
  subst hu
  have frm : X.A.frames = some (X.env :: X.outer) := I.ok.frames.trans (by rw [hs])
  have off : ∀ b o, X.s_0.heap.get? b = some o → b ∉ X.fs → b ∉ frs X.stack := fun b o e n m => by
    rcases List.mem_cons.mp (I.stkSub b m) with z | z
    · have := Heap.lt_size e
      rw [z] at this
      exact absurd (Nat.lt_of_lt_of_le this I.ok.above) (Nat.lt_irrefl _)
    · exact n z
  have nex : ∀ b, b ∉ X.ex := fun b m => by rw [hex] at m; exact nomatch m
  have ground_ := I.inGround nb
  have out : ∀ h1, HandSPX.FlyingZ B X.outer a (Zm B G cls d) h1 → t.heap.UpToSlots h1 → CX2 X.prog X.w X.outer X.H_0 X.s_0 E (.ref a) { t with heap := h1 } := fun h1 fl up1 => by
    refine ⟨a, B, G, cls, d, rfl, fl, ground_, ⟨fun b o e n m => nb b o (I.base.keep b o e n m (nex b)) (off b o e m), fun b o e m => ?_, fun b o e n => I.base.free b o e n (nex b), fun b o e m => ?_, I.base.tups, I.base.frzs, I.base.tbls⟩, na, os.trans I.os, ag, w⟩
    · obtain ⟨_, o1, e1, nf⟩ := I.ok.funs.mem m
      rw [e] at e1
      cases e1
      obtain ⟨sl, g1⟩ := I.base.slot b o e (I.ok.frf b m) m (nex b)
      obtain ⟨sl2, g2⟩ := up b _ g1 nf
      obtain ⟨sl3, g3⟩ := up1 b _ g2 nf
      exact ⟨sl3, g3⟩
    · obtain ⟨o1, g1⟩ := I.base.there b o e (nex b)
      exact ⟨o1, nb b o1 g1 (off b o e m)⟩
  rw [hs] at sky
  rcases sky with ⟨t1, t2, t3, oe, vs, g, z, dd, h1⟩ | fl | hd
  · exact PXN.leaving_firstZ Zm.steady frm t3 hf g t1 t2 dd h1 z out
  · exact PXN.leaves_onZ Zm.steady frm hf fl out
  · exact HandSPX.leaves_heldZ hf hd out
end
end Z


set_option Elab.async false
set_option linter.all false
set_option maxRecDepth 100000
set_option maxHeartbeats 4000000
/-! try: .. except X: raise Y('..') from None, where what is caught has no context -/
namespace Z
open PySem PySem.Spec PyProof.Rows L2
section
variable {X : Cx} {C : Addr} {bmB : List Value} {B newId initId : String}
theorem made5 {x m : Str} {j : Nat} {p p2 pos : Pos} (F : ExcBaseFacts B newId initId bmB) (q : PySem.W.excIn X.K C bmB newId = true) (gC : X.mg x = some (.ref C)) (kC : PySem.W.keepIn X.K (.ref C) = true) (rs : Raises X (.ref C)) (hg : Gl X x) (hdb : (x == ("__debug__" : Str)) = false := by decide) :
    L2H.PMk5 X (.Call (.Name x p) [.Constant (.str m) j p2] [] pos) (fun _ H Q => Q (.ref C) none H) := fun pins s σ H Q I z => by
  refine wpAny_Call_Name_kw (ld_glob I hg gC ?_ hdb)
  have arg : PA X [.Constant (.str m) j p2] (tCons (L2.tC (.str m)) tNil) := pa_cons pe_str pa_nil
  refine PySem.W.callWith_K (h₀ := X.base) I.ok.mod.kin kC (thn (arg.run pos pins s σ H (fun vs G => vs = [V.str m] ∧ G = H) I ⟨rfl, rfl⟩) fun us s1 ⟨vs, G, I1, rv, ev, eG⟩ => ⟨I1.kIn, ?_⟩)
  subst ev eG
  cases rv with
  | cons ru rn =>
    rename_i u us1
    cases rn
    obtain ⟨bm, N, nm, qn, bs, hdct, sn, sub, ab, col, dd, k0, k1, k2, k3, k5, mN, hC, hN, hni, T⟩ := exc_obj I1.kIn q
    exact wpAny_call_exc_subT F T hC hN hni (fun h1 e hm => L2H.mk_of5 I1 hm rs z (I1.hok.gone hm.new)) (by show 1 ≤ sizeLine; rw [sizeLine_eq]; omega)
end
section
variable {X : Cx} {W : WX}
/-- the state of the suite, seen from the def -/
theorem unpn {a : Addr} {pn pins : List (Addr × Obj)} {σ : St} {H : Hp} {s : Shared} (h0 : X.pn = []) (I : Inv (L2H.suiteX X a pn) pins σ H s) (ok : X.Ok) : Inv X [] σ H s :=
  ⟨ok, I.os, I.bare, I.base, I.loc, I.cell, I.free, I.freeC, (fun p hp => by rw [h0] at hp; exact nomatch hp), I.hok, I.len⟩
theorem unok {a : Addr} {pn : List (Addr × Obj)} (ok : (L2H.suiteX X a pn).Ok) (hd : X.A.handled = none) : X.Ok :=
  ⟨ok.mod, ok.kind, ok.glob, ok.blt, ok.above, ok.inj, ok.has, ok.cab, fun _ => hd, ok.frames, ok.stk, ok.exf, ok.bs, ok.bsz, ok.noex, ok.exfs, ok.funs, ok.frf⟩
theorem raise_in {a C : Addr} {oe : Obj} {pn : List (Addr × Obj)} {cls0 : Value} {d0 : Option Addr} {e : Expr} {j : Nat} {cpos pos : Pos} (h0 : X.pn = []) (hd : X.A.handled = none) (tk : Takes2 X W) (hz : L2N.Zn cls0 d0 oe) (hf : ∃ vs, oe.data = .fields vs)
    (he : L2H.PMk5 (L2H.suiteX X a ((a, oe) :: pn)) e (fun _ H Q => Q (.ref C) none H)) :
    PS (L2H.suiteX X a ((a, oe) :: pn)) (.Raise (some e) (some (.Constant .none j cpos)) pos) (fun _ σ H => W (.ref C) none σ H) := by
  obtain ⟨v1, d1⟩ := hf
  have c1 := hz.2.2 v1 d1
  refine ⟨fun pins s σ H Dn I z => ?_⟩
  show wpAny _ _ (do standAt pos; raiseStmt X.env (some (do let v ← eval e X.env; standAt pos; pure v)) (some (do let v ← eval (.Constant .none j cpos) X.env; standAt pos; pure v))) _ _ _
  refine wpAny_bind (wpAny_standAt (HotX.raise_made_hotN (x1 := a) (fun t2 Q2 q2 => wpAny_bind (Constant_none (wpAny_bind (wpAny_standAt (wpAny_pure q2))))) (wpAny_bind (wpAny_mono (he pins s σ H (fun cls d H' => cls = .ref C ∧ d = none ∧ H' = H) I ⟨rfl, rfl, rfl⟩) (fun u t hu => wpAny_bind (wpAny_standAt (wpAny_pure ?_))) fun _ _ y => y))))
  obtain ⟨⟨n, on, vs, sI, G, cls, d, hu, J, kp, hne, hn, zn, dn, n1, na, os, ag, rs, ec, ed, eG⟩, six⟩ := hu
  subst hu ec ed eG
  have big : 4 < vs.size := six n on vs rfl hn dn
  have kp4 : ∀ b o, sI.heap.get? b = some o → (HotX.noneFrom t.heap n).get? b = some o := fun b o q => by
    have nb : n ≠ b := fun y => by rw [← y, hne] at q; exact nomatch q
    rw [HotX.noneFrom_other nb]
    exact kp b o q
  obtain ⟨r1, _⟩ := rs (model X.prog X.w) t.heap (J.kIn.keeps kp)
  obtain ⟨_, r2⟩ := rs (model X.prog X.w) (HotX.noneFrom t.heap n) (J.kIn.keeps kp4)
  obtain ⟨P1, P2, P3, P4, _⟩ := J.pin (a, oe) (List.mem_append_left _ List.mem_cons_self)
  have nan : a ≠ n := fun y => by rw [y, hne] at P1; exact nomatch P1
  obtain ⟨g4, d4⟩ := HotX.noneFrom_at hn dn
  have J0 := unpn h0 J (unok J.ok hd)
  have dF := Obj.data_mapFields d4 (·.setIfInBounds 2 (Value.ref a))
  have gF := Heap.get?_update_self (Obj.mapFields (·.setIfInBounds 2 (Value.ref a))) g4 (Obj.isFreed_of_fields dF)
  have kF : ∀ b o, sI.heap.get? b = some o → ((HotX.noneFrom t.heap n).update n (Obj.mapFields (·.setIfInBounds 2 (Value.ref a)))).get? b = some o := fun b o q => by
    have nb : n ≠ b := fun y => by rw [← y, hne] at q; exact nomatch q
    rw [Heap.get?_update_other _ _ nb]
    exact kp4 b o q
  have a_off : a ∉ frs X.stack := fun m => (List.mem_cons.mp (J0.stkSub a m)).elim P3 P4
  refine ⟨n, on, vs, .ref C, rfl, hn, zn.1, dn, n1, big, nan, ⟨rfl, oe, v1, kp _ _ P1, d1, c1⟩, r1, r2, tk _ _ ?_⟩
  refine ⟨n, PySem.W.hideAll sI.heap (frs X.stack), sI, [], σ, G, .ref C, none, rfl, J0, fun b o q m => PySem.W.hideAll_get _ q m, Heap.UpToSlots.of_keeps kF, .inl ⟨fun b o q => kF b o (PySem.W.of_hideAll _ q), ?_, ?_, _, _, gF, ⟨?_, ?_, fun ws ew => ?_⟩, dF, ?_⟩, na, os, ag, z⟩
  · cases q : (PySem.W.hideAll sI.heap (frs X.stack)).get? n with
    | none => rfl
    | some o => exact nomatch hne.symm.trans (PySem.W.of_hideAll _ q)
  · exact Heap.FunFrames.of_keeps (fun b o q _ => ⟨o, kF b o q, rfl⟩) (funFrames_none J0.stack fun b m => PySem.W.hideAll_none _ m)
  · rw [Obj.cls_mapFields, Obj.cls_mapFields, Obj.cls_mapFields]
    exact zn.1
  · rw [HandSPX.dict_mapFields, HandSPX.dict_mapFields, HandSPX.dict_mapFields]
    exact zn.2.1
  · have ew2 := Data.fields.inj (dF.symm.trans ew)
    refine .inr ⟨a, oe, v1, ?_, PySem.W.hideAll_get _ P1 a_off, P2, d1, c1⟩
    rw [← ew2]
    have lt : 2 < ((vs.setIfInBounds 3 Value.none).setIfInBounds 4 (Value.bool true)).size := by simp; omega
    show (((vs.setIfInBounds 3 Value.none).setIfInBounds 4 (Value.bool true)).setIfInBounds 2 (Value.ref a))[2]? = _
    rw [Array.getElem?_setIfInBounds_self_of_lt lt]
  · exact HotX.set_other (by decide) (HotX.set_other (by decide) (HotX.set_other (by decide) n1))
end
end Z


set_option Elab.async false
set_option linter.all false
set_option maxRecDepth 100000
set_option maxHeartbeats 4000000
/-! Defs whose exceptions may have a context: their bodies, their calls, the try that raises anew. -/
namespace Z
open PySem PySem.Spec PyProof.Rows L2
structure AmbS2 (X : Cx) (W : WX) (k : Nat) : Prop extends AmbS X W k where
  tk2 : Takes2 X W
  pn0 : X.pn = []
  pa : ∀ hd : Option Value, PassesOwnAt (model X.prog X.w) (X.A.mark hd) X.A X.env X.xe
structure ZFn2 (P : Program) (w : World) (K : PySem.W.Frag) (mg : Str → Option Value) (base : Heap) (cm : Nat → Addr) (x : Str) (k : Nat) (Gd : List D → R D) : Prop where
  ex : ∃ (f : Addr) (fd : FuncData) (ps : List Str), mg x = some (.ref f) ∧ PySem.W.keepIn K (.ref f) = true ∧ Binds K fd ps [] ∧ FnG P w K mg base (CX2 P w) k f fd ps (spZ K cm Gd)
theorem FnG.cx {P : Program} {w : World} {K : PySem.W.Frag} {mg : Str → Option Value} {base : Heap} {C1 C2 : CXT} {i : Nat} {f : Addr} {fd : FuncData} {ps : List Str} {sp : Sp} (F : FnG P w K mg base C1 i f fd ps sp) (h : ∀ outer H s E u s', C1 outer H s E u s' → C2 outer H s E u s') :
    FnG P w K mg base C2 i f fd ps sp := ⟨F.len, fun hr hg e0 hb hv hs => codeAny_mono (F.run hr hg e0 hb hv hs) fun r s' z => by
  match r, z with
  | .error u, z => exact h _ _ _ _ _ _ z
  | .ok (.ret u), z => exact z⟩
theorem ZFn.two {P : Program} {w : World} {K : PySem.W.Frag} {mg : Str → Option Value} {base : Heap} {cm : Nat → Addr} {x : Str} {k : Nat} {Gd : List D → R D} (Y : ZFn P w K mg base cm x k Gd) : ZFn2 P w K mg base cm x k Gd := by
  obtain ⟨f, fd, ps, h1, h2, h3, h4⟩ := Y.ex
  exact ⟨f, fd, ps, h1, h2, h3, h4.cx fun _ _ _ _ _ _ c => CX2.n c⟩
theorem ZFn2.up {P : Program} {w : World} {K : PySem.W.Frag} {mg : Str → Option Value} {base : Heap} {cm : Nat → Addr} {x : Str} {j k : Nat} {Gd : List D → R D} (Y : ZFn2 P w K mg base cm x j Gd) (h : j ≤ k) : ZFn2 P w K mg base cm x k Gd := by
  obtain ⟨f, fd, ps, h1, h2, h3, h4⟩ := Y.ex
  exact ⟨f, fd, ps, h1, h2, h3, h4.mono h⟩
theorem zfn2H {P : Program} {w : World} {K : PySem.W.Frag} {mg : Str → Option Value} {base : Heap} {cm : Nat → Addr} {k : Nat} {x : Str} {st : Stmt} {N ps : List Str} {F : SF} (Y : FnHas K mg x st ps) (S : FnScope N ps (defScope st))
    (body : ∀ (f : Addr) (fd : FuncData) (cdv : Value) (A : Around) (outer : List Env) (s : Shared) (H : Hp) (E : XK), Fun K x x st f fd → mg x = some (.ref f) → fd.code = cdv → AmbS2 (cxOf (CX2 P w) P w K mg base N x (defScope st) f cdv A outer s H E) (fun c d _ H' => E c d H') k →
      ZSs (cxOf (CX2 P w) P w K mg base N x (defScope st) f cdv A outer s H E) cm (fun c d _ H' => E c d H') (defBody st) F) : ZFn2 P w K mg base cm x (k + 1) (runF N.length ps.length F) := by
  obtain ⟨f, fd, Fn, hm, hb⟩ := Y
  refine ⟨f, fd, ps, hm, Fn.kp, hb, fnG_of Fn S (fun vs H Q E ⟨B, ds, nb, tb, r, q⟩ => ?_) (fun cdv A outer s H vs Q E hr hg hc ⟨B, ds, nb, tb, r, q⟩ => ⟨_, body f fd cdv A outer s H E Fn hm hc
    ⟨⟨⟨rfl, S.nd, takesF_of (takes2_of rfl rfl rfl rfl).n rfl, .def_ rfl rfl, hr, hg⟩, passes_of rfl, (takes2_of rfl rfl rfl rfl).n⟩, takes2_of rfl rfl rfl rfl, rfl, L2H.passesAt_of rfl⟩, ?_⟩)⟩
  · unfold runF at q
    by_cases hl : ds.length = ps.length
    · rw [r.length, hl]
    · rw [if_neg hl] at q; exact (show False from q).elim
  · unfold runF at q
    by_cases hl : ds.length = ps.length
    · rw [if_pos hl] at q
      refine ⟨⟨H, B, none⟩, startR N.length ds, start_env nb tb r, ?_⟩
      unfold runS at q
      cases hF : F (startR N.length ds) with
      | nx r' => rw [hF] at q; exact fun σ' H' E' => q .non H' E'.same .non
      | rt d r9 => rw [hF] at q; exact fun v σ' H' E' rv => q v H' E'.same (rv.mono (Same.refl _) fun a z => .inl (.inl z))
      | bk r' => rw [hF] at q; exact (show False from q).elim
      | ct r' => rw [hF] at q; exact (show False from q).elim
      | xx j r' => rw [hF] at q; exact fun σ' H' E' => q H' E'.same
      | no => rw [hF] at q; exact q
    · rw [if_neg hl] at q; exact (show False from q).elim
section
variable {X : Cx} {cm : Nat → Addr} {W : WX} {k : Nat} {e : Expr} {pos : Pos}
theorem ze_call2 {x : Str} {p : Pos} {es : List Expr} {j : Nat} {Gd : List D → R D} {fa : Rho → R (List D)} (Y : ZFn2 X.prog X.w X.K X.mg X.base cm x j Gd) (A : AmbS2 X W k) (hj : j ≤ k) (ha : ZA X cm W (e :: es) fa) (hg : Gl X x := by rfl)
    (hdb : (x == ("__debug__" : Str)) = false := by decide) (he : starEach (e :: es) X.env = (false, eval e X.env) :: starEach es X.env := by rfl) (hpl : (backTo pos (starEach es X.env)).any (·.1) = false := by rfl) :
    ZE X cm W (.Call (.Name x p) (e :: es) [] pos) (cCall Gd fa) := by
  obtain ⟨f, fd, ps, h1, h2, h3, h4⟩ := (Y.up hj).ex
  exact PE.imp (pe_callG (E := WE W) h4 A.hr A.gd hg h1 h2 h3 (fun σ => passAt2 A.tk2 σ) ha hdb he hpl) call_reads
def sTryR (F : SF) (mt : Nat → Option Bool) (j : Nat) : SF := fun r => match F r with
  | .xx i r' => match mt i with
    | some true => .xx j r'
    | _ => .no
  | o => o
theorem zs_tryR {x y m : Str} {body : List Stmt} {np pos' p p2 p3 p4 cpos : Pos} {i1 i2 : Nat} {kc j : Nat} {F : SF} {mt : Nat → Option Bool} (A : AmbS2 X W k) (hx : X.mg x = some (.ref (cm kc))) (hm : ∀ i b, mt i = some b → PySem.W.exmOne X.K (.ref (cm i)) (.ref (cm kc)) = some b)
    (Y : ZExc X.K X.mg cm y j)
    (hb : ∀ (W' : WX) (pn : List (Addr × Obj)) (xe : Value → Shared → Prop), AmbS (X.tr pn xe) W' k → ZSs (X.tr pn xe) cm W' body F)
    (hst : X.stack = X.env :: X.outer := by rfl) (hf : X.env.frame = some X.env.locals := by rfl) (hg : Gl X x := by rfl) (hdb : (x == ("__debug__" : Str)) = false := by decide) (hg2 : Gl X y := by rfl) (hdb2 : (y == ("__debug__" : Str)) = false := by decide) :
    ZS X cm W (.Try body [.ExceptHandler (some (.Name x np)) none [.Raise (some (.Call (.Name y p) [.Constant (.str m) i1 p2] [] p3)) (some (.Constant .none i2 cpos)) p4] pos'] [] [] pos) (sTryR F mt j) := by
  refine PS.imp (L2H.ps_try_onlyX (Wout := fun _ _ _ _ => False) (tb := fun W' => tS X.K cm W' F) (ts := fun _ _ _ => fun _ σ H => W (.ref (cm j)) none σ H) hst hf ⟨hg, hdb, .inl hx⟩ A.pa takes0 (fun W' pn xe tk _ po => hb W' pn xe ⟨⟨A.calm, A.nd, takesF_of tk hf, A.tp.tr pn xe, A.hr, A.gd⟩, po, tk⟩)
    (fun a oe cls d pn hz hd _ _ => pss_one (raise_in A.pn0 A.hr.hd A.tk2 hz hd (made5 PySem.F.excBase_ValueError Y.q Y.gC Y.kC (raises_own Y.b Y.t) hg2 hdb2)))) fun Dn σ H ⟨C, r, E, q⟩ => ⟨C, r, E, ?_⟩
  unfold sTryR at q
  cases hF : F r with
  | xx i r' =>
    rw [hF] at q
    intro σ' H' E'
    cases hmi : mt i with
    | none => simp only [hmi] at q; exact (show False from q).elim
    | some b =>
      cases b with
      | false => simp only [hmi] at q; exact (show False from q).elim
      | true =>
        simp only [hmi] at q
        exact ⟨true, hm i true hmi, fun _ a _ => q σ' H' E', fun z => nomatch z⟩
  | nx r' => rw [hF] at q; exact q
  | rt d r9 => rw [hF] at q; exact q
  | bk r' => rw [hF] at q; exact q
  | ct r' => rw [hF] at q; exact q
  | no => rw [hF] at q; exact q
end
end Z


set_option Elab.async false
set_option linter.all false
set_option maxRecDepth 100000
set_option maxHeartbeats 400000
/-! A lambda of one parameter, handed to a def, called there. -/
namespace Z
open PySem PySem.Spec PyProof.Rows L2
theorem LamIs.uniq {K : PySem.W.Frag} {p p' : Arguments} {b b' : Expr} {sc sc' : Scope} (h : LamIs K p b sc) (h' : LamIs K p' b' sc') : p = p' ∧ b = b' ∧ sc = sc' := by
  obtain ⟨g, o, fd, e1, e2, e3, e4⟩ := h
  obtain ⟨g', o', fd', f1, f2, f3, f4⟩ := h'
  rw [e1] at f1
  cases f1
  rw [e2] at f2
  cases f2
  rw [e3] at f3
  cases f3
  rw [e4] at f4
  cases f4
  exact ⟨rfl, rfl, rfl⟩
/-- what the maker's module has: its code object, its table -/
structure LamMk (K : PySem.W.Frag) (mg : Str → Option Value) (base : Heap) (cdv : Value) (p : Arguments) (b : Expr) (sc : Scope) : Prop where
  ex : ∃ c P : Addr, PySem.W.tabIn K lamDef = some (c, P) ∧ cdv = .ref c ∧ LamX.TabB base mg c P
  is : LamIs K p b sc
section
variable {X : Cx} {cm : Nat → Addr} {W : WX} {k : Nat} {pos : Pos}
theorem ze_lam {params : Arguments} {body : Expr} {scope : Scope} (M : LamMk X.K X.mg X.base X.env.code params body scope) (hq : X.env.qual ++ "<lambda>" = lamName) (hdef : defaultsOf params X.env = ([], [])) (hfree : ∀ y ∈ scope.names, y.2 ≠ .free) (hcl : cloFrom X.env.cells scope.names [] = []) :
    ZE X cm W (.Lambda params body scope pos) (cK (.dict [(.none, .none)])) := by
  refine ⟨fun pins s σ H Q I ⟨C, r, E, q⟩ => ?_⟩
  obtain ⟨c, P, hT, hcode, TB⟩ := M.ex
  have q : ∀ v H1, Same H H1 → Rp X.K H1 (BB C r σ) v (.dict [(.none, .none)]) → Q v H1 := q
  obtain ⟨ps, hP, ht, known⟩ := E.tb c P hT
  have hP' : s.heap.get? P = some { cls := .none, data := .fields ps } := I.hok P _ hP
  have bP : s.heap.BuiltinsAt X.mg P := TB.bm.keeps I.bk
  have clo := closure_ok (scope := scope) (env := X.env) fun y m e => absurd e (hfree y m)
  refine PySem.W.kla_eval hdef ?_
  -- the function is new at f, its code object known at c'
  have fin : ∀ {h1 : Heap} {H1 : Hp} {c' : Addr} {ctv : Value} {t1 t2 : Nat}, Inv X pins σ H1 { s with heap := h1, toks := t1 } → Same H H1 → H1 c' = some (LamX.CodeO c' lamName) →
      EP X pins σ Q (.ref h1.objs.size) { s with heap := h1.push (PySem.W.kla_obj "<lambda>" (X.env.qual ++ "<lambda>") params body scope (cloFrom X.env.cells scope.names []) ((X.mg "__name__").getD .none) c' ctv), toks := t2 } := fun {h1 H1 c' ctv t1 t2} I1 s1 hc' => by
    have nf : H1 h1.objs.size = none := I1.hok.fresh (Nat.le_refl _)
    have at_ : (h1.push (PySem.W.kla_obj "<lambda>" (X.env.qual ++ "<lambda>") params body scope (cloFrom X.env.cells scope.names []) ((X.mg "__name__").getD .none) c' ctv)).get? h1.objs.size = some (PySem.W.kla_obj "<lambda>" lamName params body scope [] ((X.mg "__name__").getD .none) c' ctv) := by
      rw [hcl, hq]
      exact Heap.get?_push_size _ rfl
    have I2 : Inv X pins σ (upd H1 h1.objs.size (.ext fun h => h.get? h1.objs.size = some (PySem.W.kla_obj "<lambda>" lamName params body scope [] ((X.mg "__name__").getD .none) c' ctv))) { s with heap := h1.push (PySem.W.kla_obj "<lambda>" (X.env.qual ++ "<lambda>") params body scope (cloFrom X.env.cells scope.names []) ((X.mg "__name__").getD .none) c' ctv), toks := t2 } :=
      I1.laid (fun b o e => Heap.get?_push_of_some _ e) (Nat.le_refl _) ⟨at_, ⟨_, at_⟩, fun h2 h3 e st => st _ e⟩
    have s2 : Same H1 (upd H1 h1.objs.size (.ext fun h => h.get? h1.objs.size = some (PySem.W.kla_obj "<lambda>" lamName params body scope [] ((X.mg "__name__").getD .none) c' ctv))) := same_upd nf
    exact ⟨.ref h1.objs.size, _, I2, rfl, q _ _ (s1.trans s2) (.lam ⟨params, body, scope, _, ctv, c', M.is, upd_same, s2.at hc' fun _ z => by unfold LamX.CodeO at z; cases z⟩)⟩
  cases hc : codeAmong pos ps.toList with
  | none =>
    refine PySem.W.kla_makeFunction (mg := X.mg) (c := c) (P := P) (ps := ps) clo I.ok.glob (I.mod.glob.keeps I.bk) hcode (TB.code.keeps I.bk) hP' ht hc TB.gP bP fun c' ctv h1 tk hx hge hlt hrec htb => ?_
    obtain ⟨c2, oc, vs, t, e2, hoc, hd, hv⟩ := hrec
    cases e2
    rw [hq] at hv
    have nC : H c' = none := I.hok.fresh hge
    have nPc : P ≠ c' := ne_of_none hP nC
    have I1 := LamX.inv_table (t' := tk) (more := #[rawInt pos.line, rawInt pos.col, .ref c']) (h' := h1) I hP (fun b o hb e => hx b o hb e) htb hge ⟨oc, vs, t, hoc, hd, hv⟩
    have eL : (ps ++ #[rawInt pos.line, rawInt pos.col, .ref c']).toList = ps.toList ++ [rawInt pos.line, rawInt pos.col, .ref c'] := by simp
    have kp : ∀ b o, H b = some o → NT o → upd (upd H P (.tbl (ps ++ #[rawInt pos.line, rawInt pos.col, .ref c']))) c' (LamX.CodeO c' lamName) b = some o := fun b o e n => by
      rw [upd_ne (ne_of_none e nC), upd_ne (fun z => n ps (Option.some.inj (e.symm.trans (by rw [z]; exact hP))))]
      exact e
    have co : ∀ {x : Addr}, H x = some (LamX.CodeO x lamName) → upd (upd H P (.tbl (ps ++ #[rawInt pos.line, rawInt pos.col, .ref c']))) c' (LamX.CodeO c' lamName) x = some (LamX.CodeO x lamName) := fun {x} e => kp x _ e fun _ z => by unfold LamX.CodeO at z; cases z
    have sm : Same H (upd (upd H P (.tbl (ps ++ #[rawInt pos.line, rawInt pos.col, .ref c']))) c' (LamX.CodeO c' lamName)) := by
      refine ⟨kp, fun b qs e => ?_, fun b tb => ?_⟩
      · by_cases hb : b = P
        · exact ⟨_, by rw [hb, upd_ne nPc, upd_same]⟩
        · exact ⟨qs, by rw [upd_ne (ne_of_none e nC), upd_ne hb]; exact e⟩
      · obtain ⟨qs, a1, a2, a3⟩ := tb
        by_cases hb : b = P
        · subst hb
          rw [hP] at a1
          cases a1
          refine ⟨_, by rw [upd_ne nPc, upd_same], by rw [eL]; exact PySem.TriplesOk_snoc _ _ _ _ ht, fun p' cv hcv => ?_⟩
          rw [eL] at hcv
          rcases LamX.among_app _ ht hcv with z | z
          · obtain ⟨c0, e1, e2⟩ := known p' cv z
            exact ⟨c0, e1, co e2⟩
          · exact ⟨c', z, upd_same⟩
        · refine ⟨qs, by rw [upd_ne (ne_of_none a1 nC), upd_ne hb]; exact a1, a2, fun p' cv hcv => ?_⟩
          obtain ⟨c0, e1, e2⟩ := a3 p' cv hcv
          exact ⟨c0, e1, co e2⟩
    exact fin I1 sm upd_same
  | some cv =>
    obtain ⟨c', e, hco⟩ := known pos cv hc
    subst e
    refine PySem.W.kla_makeFunctionHit (mg := X.mg) (c := c) (P := P) (ps := ps) clo I.ok.glob (I.mod.glob.keeps I.bk) hcode (TB.code.keeps I.bk) hP' ht hc bP fun ctv h1 tk hx hsz => ?_
    exact fin (t1 := tk) (I.kept fun b o e => hx b o e) (Same.refl H) hco
end
/-! ### the call of what was handed -/
structure LamOk (P : Program) (w : World) (K : PySem.W.Frag) (mg : Str → Option Value) (base : Heap) (cm : Nat → Addr) (k : Nat) (Gl : List D → R D) : Prop where
  run : ∀ {A : Around} {outer : List Env} {s : Shared} {H : Hp} {f : Addr} {u : Value} {v : V} {Q : VK} {E : XK}, LamAt K H f → Room k A → A.guards = some [] → Env0 P w K mg base A outer s H → RelV v u → spZ K cm Gl [v] H Q E →
    codeAny (model P w) A (.call (.ref f) ⟨[u], []⟩) (CR (L2N.CX P w) outer P w H s Q E) s
def runL (g : Rho → R D) (ds : List D) : R D := if ds.length = 1 then g (startR 1 ds) else .no
theorem lamOk_of {P : Program} {w : World} {K : PySem.W.Frag} {mg : Str → Option Value} {base : Heap} {cm : Nat → Addr} {k : Nat} {params : Arguments} {body : Expr} {scope : Scope} {x : Str} {g : Rho → R D} (hL : LamIs K params body scope) (S : FnScope [x] [x] scope)
    (hb : ∀ (pm cv ctv u : Value), bindArgs (PySem.W.kla_fn "<lambda>" lamName params body scope [] pm cv ctv) ⟨[u], []⟩ = pure [(x, u)])
    (he : ∀ (f c' : Addr) (A : Around) (outer : List Env) (s : Shared) (H : Hp) (E : XK), AmbS (cxOf (L2N.CX P w) P w K mg base [x] lamName scope f (.ref c') A outer s H E) (fun c d _ H' => E c d H') k →
      ZE (cxOf (L2N.CX P w) P w K mg base [x] lamName scope f (.ref c') A outer s H E) cm (fun c d _ H' => E c d H') body g) : LamOk P w K mg base cm (k + 1) (runL g) := by
  refine ⟨fun {A outer s H f u v Q E} la hr hg e0 rv ⟨B, ds, nb, tb, ra, q⟩ => ?_⟩
  obtain ⟨p', b', sc', pm, ctv, c', hL', hf, hc⟩ := la
  obtain ⟨rfl, rfl, rfl⟩ := hL.uniq hL'
  obtain ⟨of1, _, _⟩ := e0.hok f _ hf
  obtain ⟨⟨oc, vs, t, hoc, hdc, hvc⟩, _, _⟩ := e0.hok c' _ hc
  have lim : s.heap.NoLimit := e0.mod.nolimit.keeps fun b o e => (e0.bs b o e).1
  refine PySem.W.kla_callFunE hr.depth of1 rfl S.co S.gen rfl ⟨c', oc, vs, t, rfl, hoc, hdc, hvc⟩ ?_
  rw [hb]
  have hkind : ∀ y ∈ [x].zip [u], scope.names.lookup y.1 = some .local ∨ (scope.names.lookup y.1 = some .cell ∧ ((cellsFrom (s.heap.objs.size + 1) scope.names []).lookup y.1).isSome = true) := fun ⟨n, z⟩ m => by
    rcases S.par n (List.of_mem_zip m).1 with z | z
    · exact .inl z
    · exact .inr ⟨z, PySem.W.cellsFrom_some _ _ _ (.inl z)⟩
  refine wpAny_pure (wpAny_newFunctionEnv_cells S.kind hkind fun env hv s1 y => ?_)
  subst hv
  refine ⟨lim.keeps y.toInCall.keep, PySem.W.kla_codeExpr ?_⟩
  have I : Inv (cxOf (L2N.CX P w) P w K mg base [x] lamName scope f (.ref c') A outer s H E) [] (L2.start [x] [v]) H s1 := inv_start S hr.hd e0 rfl (.cons rv .nil) y
  have Am : AmbS (cxOf (L2N.CX P w) P w K mg base [x] lamName scope f (.ref c') A outer s H E) (fun c d _ H' => E c d H') k := ⟨⟨rfl, S.nd, takesF_of (L2N.takes_of rfl rfl rfl rfl) rfl, .def_ rfl rfl, hr.deeper _, hg⟩, passes_of rfl, L2N.takes_of rfl rfl rfl rfl⟩
  unfold runL at q
  by_cases hl : ds.length = 1
  rotate_left
  · rw [if_neg hl] at q
    exact (show False from q).elim
  rw [if_pos hl] at q
  have run1 := (he f c' A outer s H E Am).run [] s1 (L2.start [x] [v]) H (fun v2 H2 => Same H H2 ∧ Q v2 H2) I ⟨⟨H, B, none⟩, startR [x].length ds, start_env nb tb ra, ?_⟩
  rotate_left
  · have q' : (match g (startR 1 ds) with
      | .ok d => ∀ v H', Same H H' → Rp K H' B v d → Q v H'
      | .ex k => ∀ H', Same H H' → E (.ref (cm k)) none H'
      | .no => False) := q
    show pst cm _ _ H (g (startR 1 ds)) _
    cases hG : g (startR 1 ds) with
    | ok d => rw [hG] at q'; exact fun v2 H2 s2 r2 => ⟨s2, q' v2 H2 s2 (r2.mono (Same.refl _) fun a z => .inl (.inl z))⟩
    | ex j => rw [hG] at q'; exact fun H2 s2 => q' H2 s2
    | no => rw [hG] at q'; exact q'
  exact wpAny_mono run1 (fun u2 s2 ⟨v2, H2, J, r2, _, q2⟩ => ⟨v2, H2, J.os, J.bare, J.base, J.hok, r2, q2⟩) fun _ _ z => z
/-- the slot i holds a def of the table, or the lambda -/
def cCallL (i : Nat) (tbl : List (Str × (List D → R D))) (Gl : List D → R D) (fa : Rho → R (List D)) : Rho → R D := fun r => match r[i]? with
  | some (.sh (.dict [(.none, .none)])) => (fa r).bind Gl
  | _ => cCallV i tbl fa r
section
variable {X : Cx} {cm : Nat → Addr} {W : WX} {k : Nat} {e : Expr} {pos : Pos}
theorem ze_callL (i : Nat) {x : Str} {p : Pos} {j : Nat} {tbl : List (Str × (List D → R D))} {Gl : List D → R D} {g : Rho → R D} (Y : ∀ y Gd, (y, Gd) ∈ tbl → ZFn X.prog X.w X.K X.mg X.base cm y j Gd) (L : LamOk X.prog X.w X.K X.mg X.base cm j Gl) (A : Amb X W k) (hj : j ≤ k) (ha : ZE X cm W e g)
    (hN : X.N[i]? = some x := by rfl) (hv : Vis X.env.scope x := by first | exact Or.inl rfl | exact Or.inr (Or.inl rfl) | exact Or.inr (Or.inr rfl)) (hd : (x == ("__debug__" : Str)) = false := by decide) (hcd : (x == ("__classdict__" : Str)) = false := by decide)
    (he : starEach (e :: []) X.env = (false, eval e X.env) :: starEach [] X.env := by rfl) (hpl : (backTo pos (starEach [] X.env)).any (·.1) = false := by rfl) : ZE X cm W (.Call (.Name x p) [e] [] pos) (cCallL i tbl Gl (cCons g cNil)) := by
  refine ⟨fun pins s σ H Q I ⟨C, r, E, q⟩ => ?_⟩
  have q : Res X.K cm W σ (BB C r σ) H (match r[i]? with
    | some (.sh (.dict [(.none, .none)])) => ((cCons g cNil) r).bind Gl
    | _ => cCallV i tbl (cCons g cNil) r) Q := q
  split at q
  rotate_left
  · exact (ze_callV (pos := pos) (p := p) i Y A hj (za_cons ha za_nil he) hN hv hd hcd he hpl).run pins s σ H Q I ⟨C, r, E, q⟩
  rename_i hr
  obtain ⟨v, hs, rv⟩ := E.sh i _ hr
  cases rv with
  | lam la =>
    rename_i f
    refine wpAny_Call_Name_kw (thn ((pe_var (pos := p) (i := i) hN hv hd hcd).run pins s σ H (fun w G => w = V.ref f ∧ G = H) I ⟨_, hs, rfl, rfl⟩) fun u s1 ⟨w, G, I1, rw_, e1, e2⟩ => ?_)
    subst e1
    subst e2
    cases rw_
    have fnAt : ∀ {σ' : St} {G' : Hp} {s' : Shared}, Inv X pins σ' G' s' → LamAt X.K G' f → PySem.W.FnAt f s'.heap := fun {σ' G' s'} J la' => by
      obtain ⟨_, _, _, _, _, _, _, hf, _⟩ := la'
      exact ⟨_, _, _, _, (J.hok f _ hf).1⟩
    have q2 := pst_bind q
    refine PySem.W.callWith_F (first := []) (fnAt I1 la) (thn ((za_cons ha za_nil he).run pos pins s1 σ G (fun vs G2 => LamAt X.K G2 f ∧ spZ X.K cm Gl vs G2 Q (WE W σ) ∧ vs.length = 1) I1 ?_) fun us s2 ⟨vs, G2, I2, ru, la2, hsp, hl⟩ => ⟨fnAt I2 la2, ?_⟩) he hpl
    · refine ⟨C, r, E, ?_⟩
      show pst cm W σ G (((g r).bind fun x => (R.ok ([] : List Z.D)).bind fun xs => R.ok (x :: xs)) : R (List Z.D)) _
      have q3 : pst cm W σ G (((g r).bind fun x => (R.ok ([] : List Z.D)).bind fun xs => R.ok (x :: xs)) : R (List Z.D)) (fun ds => Res X.K cm W σ (BB C r σ) G (Gl ds) Q) := q2
      cases hgr : g r with
      | no => rw [hgr] at q3; exact q3
      | ex j => rw [hgr] at q3; exact q3
      | ok d =>
        rw [hgr] at q3
        have q4 : Res X.K cm W σ (BB C r σ) G (Gl [d]) Q := q3
        intro vs G2 s2 rvs
        refine ⟨la.step fun a φ h => s2.at h, ⟨BB C r σ, [d], E.nb.go s2, E.tb.go s2, rvs, ?_⟩, by rw [rvs.length]; rfl⟩
        cases hG : Gl [d] with
        | ok d => rw [hG] at q4; exact fun v H2 s3 rd => q4 v H2 (s2.trans s3) rd
        | ex j => rw [hG] at q4; exact fun H2 s3 => q4 H2 (s2.trans s3)
        | no => rw [hG] at q4; exact q4
    · have one : ∃ v1 u1, vs = [v1] ∧ us = [u1] ∧ RelV v1 u1 := by
        cases ru with
        | nil => exact nomatch hl
        | cons r1 rest =>
          cases rest with
          | nil => exact ⟨_, _, rfl, rfl, r1⟩
          | cons r2 r3 => exact absurd hl (by simp)
      obtain ⟨v1, u1, e1, e2, r1⟩ := one
      subst e1 e2
      refine wpAny_call (codeAny_mono (L.run la2 (A.hr.mono hj) A.gd I2.env0 r1 hsp) fun res s3 z => ?_)
      cases res with
      | error u => exact passAtF A.tf σ pins G2 s2 u s3 I2 z
      | ok fl =>
        cases fl with
        | ret u => exact I2.after z
        | next => exact (show False from z).elim
        | brk => exact (show False from z).elim
        | cont => exact (show False from z).elim
end
end Z


set_option Elab.async false
set_option linter.all false
set_option maxRecDepth 100000
/-! set(xs) of a list or tuple of whole numbers, as a set that sorted() may read (the library's rule gives no promise about its order) -/
namespace SX
open PySem PySem.Spec PyProof.Rows L2
/-- the first i numbers are in the set at a -/
def Filled (w : World) (h : Heap) (a : Addr) (ns : List Int) (i : Nat) : Prop := ∃ c, c ≤ i ∧ SetR w h a (fun k => decide (k ∈ ns.take i)) c
theorem Filled.at {w : World} {h h' : Heap} {a : Addr} {ns : List Int} {i : Nat} (F : Filled w h a ns i) (k : ∀ o, h.get? a = some o → h'.get? a = some o) : Filled w h' a ns i := by
  obtain ⟨c, hc, R⟩ := F
  exact ⟨c, hc, R.at k⟩
section
variable {P : Program} {w : World} {A : Around} {R : Result → Shared → Prop} {I : Addr} {fp wr : List Addr} {G : Array GenState → Array GenState → Prop} {n : Nat} {PP : Nat → Value → Prop} {St : Nat → Shared → Prop}
theorem fill_loop (W : WalksS P w A.in1 I fp wr G n PP St) (T : Addr) (hT : T ∉ fp) (ns : List Int) (hsz : ns.length = n) (hfew : n + 1 < scanBound)
    (hval : ∀ i v, PP i v → ∃ t, v = .int (ns.getD i 0) t) :
    ∀ (todo i : Nat) (s : Shared), n - i = todo → i ≤ n → St i s → Filled w s.heap T ns i →
      (∀ s2, Moved (T :: wr) G s s2 → Filled w s2.heap T ns n → R (.ok (.ret .none)) s2) →
      codeAny (model P w) A (.builtin "set.update.loop" ⟨[.ref T, .ref I], []⟩) R s := by
  have hTw : T ∉ wr := fun z => hT (W.sub _ z)
  have more : ∀ b ∈ wr, b ∈ T :: wr := fun b z => List.mem_cons_of_mem _ z
  intro todo
  induction todo with
  | zero =>
    intro i s e1 e2 st F out
    obtain rfl : i = n := by omega
    refine codeAny_builtin PyProof.Rows.F.entry_set_update_loop ?_
    rw [Around.under_plainId PyProof.Rows.F.plain_set_update_loop _]
    show wpAny _ A.in1 (pyNext (.ref I) >>= _) _ _ s
    refine wpAny_bind (W.done s _ _ st fun s2 mv => ?_)
    show wpAny _ A.in1 (ret Value.none) _ _ s2
    exact wpAny_pure (out s2 (mv.mono more) (F.at fun o ho => mv.heap T _ hTw ho))
  | succ todo ih =>
    intro i s e1 e2 st F out
    have lt : i < n := by omega
    refine codeAny_builtin PyProof.Rows.F.entry_set_update_loop ?_
    rw [Around.under_plainId PyProof.Rows.F.plain_set_update_loop _]
    show wpAny _ A.in1 (pyNext (.ref I) >>= _) _ _ s
    refine wpAny_bind (W.item i s _ _ lt st fun v s2 hP st2 mv => ?_)
    obtain ⟨t, rfl⟩ := hval i v hP
    obtain ⟨c, hc, R0⟩ := F.at (h' := s2.heap) fun o ho => mv.heap T _ hTw ho
    show wpAny _ A.in1 (holding [Value.int (ns.getD i 0) t] (setAdd T (.int (ns.getD i 0) t)) >>= _) _ _ s2
    refine wpAny_bind (wpAny_holding ?_)
    unfold setAdd
    refine wpAny_holding ?_
    refine wpAny_bind ((intKind P w).pyHash (k := ns.getD i 0) (intKind_is _ _ _ _) ?_)
    refine setR_add_hashed (s := { s2 with toks := s2.toks + 1 }) R0 (by omega) fun hp sb R1 => ?_
    have hi : i < ns.length := by omega
    have hg : ns.getD i 0 = ns[i] := by rw [List.getD_eq_getElem?_getD, List.getElem?_eq_getElem hi] <;> rfl
    have F1 : Filled w hp T ns (i + 1) := by
      refine ⟨_, ?_, R1.congr fun k => ?_⟩
      · split <;> omega
      · rw [List.take_succ, List.getElem?_eq_getElem hi, hg]
        simp only [Option.toList_some, List.mem_append, List.mem_singleton, Bool.decide_or]
    refine wpAny_pure ⟨plainId_quiet PyProof.Rows.F.plain_set_update_loop _, ih (i + 1) _ (by omega) lt (W.frame _ s2 _ _ st2 (Nat.le_succ _) fun b hb o e => ?_) F1 fun s3 mv3 F3 => ?_⟩
    · exact (sb.2 b fun z : b = T => hT (z ▸ hb)).trans e
    · refine out s3 (Moved.trans W.gtrans ((mv.mono more).then_heap (Nat.le_succ _) fun b o hb e => ?_) mv3) F3
      exact (sb.2 b fun z : b = T => hb (z ▸ List.mem_cons_self)).trans e
end
section
variable {P : Program} {w : World} {A : Around} {E : Value → Shared → Prop} {s : Shared}
/-- the fresh set -/
abbrev raw (w : World) : Obj := { cls := .type "set", dict := none, data := .set #[] 0 (.fresh 0 0 (!w.params.followText "set-order")) }
theorem code_set_led1 (a : Value) {Q1 : Value → Shared → Prop} (h : Q1 (.ref s.heap.objs.size) { s with heap := s.heap.push (raw w) }) :
    codeAny (model P w) A (.call (.builtin "set.__new__") ⟨[.type "set", a], []⟩) (wants Q1 E) s := by
  refine codeAny_of_tree ?_
  show wpAny _ A.in1 (do checkBuiltinCall "set.__new__" ⟨[.type "set", a], []⟩; again (.builtin "set.__new__" ⟨[.type "set", a], []⟩)) _ _ s
  refine wpAny_bind (wpAny_of_eq (PySem.F.newCall_set_1 a) (wpAny_pure ⟨plainId_quiet F.plain_set_new _, codeAny_builtin F.entry_set_new ?_⟩))
  rw [Around.under_plainId F.plain_set_new _]
  unfold Builtin.«set.__new__» Builtin.Frozenset.newClass
  have hs := sub_set_self
  obtain ⟨hp, g, d, tk, os⟩ := s
  dsimp only
  wp_walk
  refine wpAny_askSetting (wpAny_pure ?_)
  dsimp only
  simp only [newObj]
  exact wpAny_bind (wpAny_alloc (wpAny_pure (wpAny_pure h)))
set_option maxHeartbeats 3200000 in
theorem set_of_list {l : Addr} {items : Array Value} {ns : List Int} {Q : Value → Shared → Prop}
    (hh : A.handled = none) (hl : s.heap.IsList l items) (hi : IntsAre items.toList ns) (hfew : ns.length + 1 < scanBound)
    (fin : ∀ (hp : Heap) (tk : Nat), Filled w hp s.heap.objs.size ns ns.length → (∀ b o, b < s.heap.objs.size → s.heap.get? b = some o → hp.get? b = some o) → Q (.ref s.heap.objs.size) { s with heap := hp, toks := tk }) :
    wpAny (model P w) A (call (.type "set") [.ref l]) Q E s := by
  have hsz : ns.length = items.size := by rw [← IntsAre.length hi, Array.length_toList]
  obtain ⟨c, tl, hmro⟩ := PySem.F.called_set.mro
  have h3 := PySem.F.called_set.made
  have h4 := PySem.F.called_set.sub
  refine wpAny_call (codeAny_of_tree ?_)
  show wpAny _ _ (callAny (.type "set") _) _ _ _
  refine wpAny_pure ⟨Code.quiet_builtin _ (by decide +kernel), codeAny_builtin PySem.F.entry_type_call ?_⟩
  rw [Around.under_plain (weight_type_call_type "set" [.ref l] []) rfl]
  have h1 := PySem.F.called_set.notType
  have h2 := PySem.F.called_set.canCreate
  have h5 := PySem.F.typeCall_set_1 (.ref l)
  repeat (any_goals (first | assumption | wp_step))
  refine codeAny_mono (code_set_led1 (.ref l) (E := E) (Q1 := fun v s1 => v = .ref s.heap.objs.size ∧ s1 = { s with heap := s.heap.push (raw w) }) ⟨rfl, rfl⟩) fun r s1 hr => ?_
  cases r with
  | error e => exact hr
  | ok fl =>
    cases fl with
    | ret v =>
      obtain ⟨rfl, rfl⟩ := hr
      have hS : (s.heap.push (raw w)).get? s.heap.objs.size = some (raw w) := Heap.get?_push_size _ rfl
      have hT : Shared.TypeIs { s with heap := s.heap.push (raw w) } (.ref s.heap.objs.size) "set" := ⟨_, hS, rfl⟩
      have h6 := PySem.F.called_set.init.lookup
      have h7 := PySem.F.called_set.init.bind (.ref s.heap.objs.size)
      repeat (any_goals (first | assumption | wp_step))
      refine codeAny_mono (codeAny_call_builtin (R := wants (fun r s2 => r = .none ∧ ∃ hp tk, s2 = { s with heap := hp, toks := tk } ∧ Filled w hp s.heap.objs.size ns ns.length ∧
          (∀ b o, b < s.heap.objs.size → s.heap.get? b = some o → hp.get? b = some o)) E) PySem.F.called_set.init.plain PySem.F.entry_set_init (check_set_init_1 hT ?_)) fun r2 s2 hr2 => ?_
      · obtain ⟨ol, hol, hcl, nl, hdl⟩ := hl
        obtain ⟨ocls, odict, odata, oslots⟩ := ol
        simp only at hcl hdl
        subst hcl; subst hdl
        have g1 : (s.heap.push (raw w)).get? l = some { cls := .type "list", dict := odict, data := .seq items nl, slots := oslots } := Heap.get?_push_of_some _ hol
        have h8 := PySem.F.sub_list_set
        have h9 := PySem.F.sub_list_frozenset
        have h10 : (Value.type "list" == Value.type "dict") = false := by decide
        have g2 : (s.heap.push (raw w)).IsList l items := ⟨_, g1, rfl, nl, rfl⟩
        unfold Builtin.«set.__init__» noKeywords Builtin.Frozenset.updateFrom
        generalize hPI : pyIter = PI
        wp_walk
        subst hPI
        refine wpAny_pyIter_list g2 ?_
        refine wpAny_bind (wpAny_runValue ?_)
        have hlS : l < s.heap.objs.size := Heap.lt_size hol
        have hh3 : A.in1.in1.in1.handled = none := by simp [hh]
        have n1 : l ≠ (s.heap.push (raw w)).objs.size := by
          rw [Heap.size_push]; exact Nat.ne_of_lt (Nat.lt_succ_of_lt hlS)
        have n2 : s.heap.objs.size ∉ [(s.heap.push (raw w)).objs.size, l] := by
          rw [Heap.size_push]; simp only [List.mem_cons, List.mem_singleton, List.not_mem_nil, or_false, not_or]
          exact ⟨Nat.ne_of_lt (Nat.lt_succ_self _), Nat.ne_of_gt hlS⟩
        refine fill_loop ((Walks.list hh3 _ l n1 items).toS) s.heap.objs.size n2 ns hsz (by omega) (fun i v hv => IntsAre.int_at hi i v (by rw [Array.getElem?_toList]; exact hv)) (items.size - 0) 0 _ (by omega) (Nat.zero_le _)
          ⟨⟨_, Heap.get?_push_size _ rfl, rfl, rfl⟩, (g2.push _)⟩ ?start ?stop
        case start =>
          exact Filled.at ⟨0, Nat.le_refl _, (setR_fresh (h := s.heap) w).congr fun k => by simp⟩ fun o ho => Heap.get?_push_of_some _ ho
        case stop =>
          intro s3 mv F3
          obtain ⟨hp, gg, dd, tk, oo⟩ := s3
          obtain rfl : gg = s.gens := mv.gens
          obtain rfl : dd = s.drawn := mv.drawn
          obtain rfl : oo = s.os := mv.os
          show wpAny _ _ _ _ _ _
          refine wpAny_pure ?_
          show wpAny _ _ (ret Value.none) _ _ _
          refine wpAny_pure ⟨rfl, hp, tk, rfl, by rw [hsz]; exact F3, fun b o hb e => ?_⟩
          refine mv.heap b o ?_ (Heap.get?_push_of_some _ (Heap.get?_push_of_some _ e))
          simp only [List.mem_cons, List.mem_singleton, List.not_mem_nil, or_false, not_or]
          exact ⟨Nat.ne_of_lt hb, by rw [Heap.size_push]; exact Nat.ne_of_lt (Nat.lt_succ_of_lt hb)⟩
      · cases r2 with
        | error e => exact hr2
        | ok f2 =>
          cases f2 with
          | ret r =>
            obtain ⟨rfl, hp, tk, rfl, F2, k2⟩ := hr2
            repeat (any_goals (first | assumption | wp_step))
            exact fin _ _ F2 k2
          | _ => exact hr2.elim
    | _ => exact hr.elim
set_option maxHeartbeats 3200000 in
theorem set_of_tuple {l : Addr} {items : Array Value} {ns : List Int} {Q : Value → Shared → Prop}
    (hh : A.handled = none) (hl : s.heap.IsTuple l items) (hi : IntsAre items.toList ns) (hfew : ns.length + 1 < scanBound)
    (fin : ∀ (hp : Heap) (tk : Nat), Filled w hp s.heap.objs.size ns ns.length → (∀ b o, b < s.heap.objs.size → s.heap.get? b = some o → hp.get? b = some o) → Q (.ref s.heap.objs.size) { s with heap := hp, toks := tk }) :
    wpAny (model P w) A (call (.type "set") [.ref l]) Q E s := by
  have hsz : ns.length = items.size := by rw [← IntsAre.length hi, Array.length_toList]
  obtain ⟨c, tl, hmro⟩ := PySem.F.called_set.mro
  have h3 := PySem.F.called_set.made
  have h4 := PySem.F.called_set.sub
  refine wpAny_call (codeAny_of_tree ?_)
  show wpAny _ _ (callAny (.type "set") _) _ _ _
  refine wpAny_pure ⟨Code.quiet_builtin _ (by decide +kernel), codeAny_builtin PySem.F.entry_type_call ?_⟩
  rw [Around.under_plain (weight_type_call_type "set" [.ref l] []) rfl]
  have h1 := PySem.F.called_set.notType
  have h2 := PySem.F.called_set.canCreate
  have h5 := PySem.F.typeCall_set_1 (.ref l)
  repeat (any_goals (first | assumption | wp_step))
  refine codeAny_mono (code_set_led1 (.ref l) (E := E) (Q1 := fun v s1 => v = .ref s.heap.objs.size ∧ s1 = { s with heap := s.heap.push (raw w) }) ⟨rfl, rfl⟩) fun r s1 hr => ?_
  cases r with
  | error e => exact hr
  | ok fl =>
    cases fl with
    | ret v =>
      obtain ⟨rfl, rfl⟩ := hr
      have hS : (s.heap.push (raw w)).get? s.heap.objs.size = some (raw w) := Heap.get?_push_size _ rfl
      have hT : Shared.TypeIs { s with heap := s.heap.push (raw w) } (.ref s.heap.objs.size) "set" := ⟨_, hS, rfl⟩
      have h6 := PySem.F.called_set.init.lookup
      have h7 := PySem.F.called_set.init.bind (.ref s.heap.objs.size)
      repeat (any_goals (first | assumption | wp_step))
      refine codeAny_mono (codeAny_call_builtin (R := wants (fun r s2 => r = .none ∧ ∃ hp tk, s2 = { s with heap := hp, toks := tk } ∧ Filled w hp s.heap.objs.size ns ns.length ∧
          (∀ b o, b < s.heap.objs.size → s.heap.get? b = some o → hp.get? b = some o)) E) PySem.F.called_set.init.plain PySem.F.entry_set_init (check_set_init_1 hT ?_)) fun r2 s2 hr2 => ?_
      · obtain ⟨ol, hol, hcl, nl, hdl⟩ := hl
        obtain ⟨ocls, odict, odata, oslots⟩ := ol
        simp only at hcl hdl
        subst hcl; subst hdl
        have g1 : (s.heap.push (raw w)).get? l = some { cls := .type "tuple", dict := odict, data := .seq items nl, slots := oslots } := Heap.get?_push_of_some _ hol
        have h8 := PySem.F.sub_tuple_set
        have h9 := PySem.F.sub_tuple_frozenset
        have h10 : (Value.type "tuple" == Value.type "dict") = false := by decide
        have g2 : (s.heap.push (raw w)).IsTuple l items := ⟨_, g1, rfl, nl, rfl⟩
        unfold Builtin.«set.__init__» noKeywords Builtin.Frozenset.updateFrom
        generalize hPI : pyIter = PI
        wp_walk
        subst hPI
        refine wpAny_pyIter_tuple g2 ?_
        refine wpAny_bind (wpAny_runValue ?_)
        have hlS : l < s.heap.objs.size := Heap.lt_size hol
        have hh3 : A.in1.in1.in1.handled = none := by simp [hh]
        have n1 : l ≠ (s.heap.push (raw w)).objs.size := by
          rw [Heap.size_push]; exact Nat.ne_of_lt (Nat.lt_succ_of_lt hlS)
        have n2 : s.heap.objs.size ∉ [(s.heap.push (raw w)).objs.size, l] := by
          rw [Heap.size_push]; simp only [List.mem_cons, List.mem_singleton, List.not_mem_nil, or_false, not_or]
          exact ⟨Nat.ne_of_lt (Nat.lt_succ_self _), Nat.ne_of_gt hlS⟩
        refine fill_loop ((Walks.tuple hh3 _ l n1 items).toS) s.heap.objs.size n2 ns hsz (by omega) (fun i v hv => IntsAre.int_at hi i v (by rw [Array.getElem?_toList]; exact hv)) (items.size - 0) 0 _ (by omega) (Nat.zero_le _)
          ⟨⟨_, Heap.get?_push_size _ rfl, rfl, rfl⟩, (g2.push _)⟩ ?start ?stop
        case start =>
          exact Filled.at ⟨0, Nat.le_refl _, (setR_fresh (h := s.heap) w).congr fun k => by simp⟩ fun o ho => Heap.get?_push_of_some _ ho
        case stop =>
          intro s3 mv F3
          obtain ⟨hp, gg, dd, tk, oo⟩ := s3
          obtain rfl : gg = s.gens := mv.gens
          obtain rfl : dd = s.drawn := mv.drawn
          obtain rfl : oo = s.os := mv.os
          show wpAny _ _ _ _ _ _
          refine wpAny_pure ?_
          show wpAny _ _ (ret Value.none) _ _ _
          refine wpAny_pure ⟨rfl, hp, tk, rfl, by rw [hsz]; exact F3, fun b o hb e => ?_⟩
          refine mv.heap b o ?_ (Heap.get?_push_of_some _ (Heap.get?_push_of_some _ e))
          simp only [List.mem_cons, List.mem_singleton, List.not_mem_nil, or_false, not_or]
          exact ⟨Nat.ne_of_lt hb, by rw [Heap.size_push]; exact Nat.ne_of_lt (Nat.lt_succ_of_lt hb)⟩
      · cases r2 with
        | error e => exact hr2
        | ok f2 =>
          cases f2 with
          | ret r =>
            obtain ⟨rfl, hp, tk, rfl, F2, k2⟩ := hr2
            repeat (any_goals (first | assumption | wp_step))
            exact fin _ _ F2 k2
          | _ => exact hr2.elim
    | _ => exact hr.elim
end
end SX
namespace L2
open PySem PySem.Spec PyProof.Rows
/-- set(xs) -/
def rSetOf (K : PySem.W.Frag) (w : World) : List V → Hp → VK → Prop := fun xs H Q => ∃ (l : Addr) (ns : List Int), xs = [V.ref l] ∧ (SqL K H l (ns.map V.int) ∨ SqT K H l (ns.map V.int)) ∧ ns.length < 64 ∧
  ∀ p c, c ≤ ns.length → H p = none → Q (.ref p) (upd H p (SetO w p (fun k => decide (k ∈ ns)) c))
theorem cr_setOf {X : Cx} (hc : X.calm = true) : CallR X (.type "set") (rSetOf X.K X.w) := by
  intro pins s σ H xs us Q I r h
  obtain ⟨l, ns, rfl, hq, h64, q⟩ := h
  rw [Vals.ref1 r]
  have fin : ∀ (hp : Heap) (tk : Nat), SX.Filled X.w hp s.heap.objs.size ns ns.length → (∀ b o, b < s.heap.objs.size → s.heap.get? b = some o → hp.get? b = some o) →
      EP X pins σ Q (.ref s.heap.objs.size) { s with heap := hp, toks := tk } := fun hp tk ⟨c, hle, R⟩ k => by
    rw [List.take_length] at R
    exact ⟨.ref _, upd H s.heap.objs.size (SetO X.w s.heap.objs.size (fun k => decide (k ∈ ns)) c), I.laid (t' := tk) (fun b u e => k b u (Heap.lt_size e) e) (Nat.le_refl _) (setO_new R), rfl, q _ c hle (I.hok.fresh (Nat.le_refl _))⟩
  rcases hq with hq | hq
  · obtain ⟨its, r1, pl, hz⟩ := I.list hq
    exact SX.set_of_list (I.ok.hd hc) pl.isList (by simpa using RZ.intsAre_vals r1) (by unfold scanBound; omega) fin
  · obtain ⟨its, r1, pl, hz⟩ := I.tuple hq
    exact SX.set_of_tuple (I.ok.hd hc) pl (by simpa using RZ.intsAre_vals r1) (by unfold scanBound; omega) fin
end L2


set_option Elab.async false
set_option linter.all false
set_option maxRecDepth 100000
set_option maxHeartbeats 4000000
namespace Z
open PySem PySem.Spec PyProof.Rows L2
/-! ### sorted(set(xs)) of whole numbers -/
def insS (k : Int) : List Int → List Int
  | [] => [k]
  | a :: r => if k < a then k :: a :: r else if k = a then a :: r else a :: insS k r
def setS : List Int → List Int
  | [] => []
  | a :: r => insS a (setS r)
theorem mem_insS (k j : Int) : ∀ l : List Int, j ∈ insS k l ↔ j = k ∨ j ∈ l
  | [] => by simp [insS]
  | a :: r => by
    unfold insS
    split
    · simp only [List.mem_cons]
    · split
      · rename_i h1 h2
        subst h2
        simp only [List.mem_cons]
        exact ⟨.inr, fun z => z.elim .inl id⟩
      · simp only [List.mem_cons, mem_insS k j r]
        exact ⟨fun z => z.elim (fun e => .inr (.inl e)) fun z => z.elim .inl fun z => .inr (.inr z), fun z => z.elim (fun e => .inr (.inl e)) fun z => z.elim .inl fun z => .inr (.inr z)⟩
theorem ord_insS (k : Int) : ∀ l : List Int, l.Pairwise (· < ·) → (insS k l).Pairwise (· < ·)
  | [], _ => by simp [insS]
  | a :: r, h => by
    obtain ⟨h1, h2⟩ := List.pairwise_cons.mp h
    unfold insS
    split
    · rename_i lt
      refine List.pairwise_cons.mpr ⟨fun b hb => ?_, h⟩
      rcases List.mem_cons.mp hb with rfl | hb
      · exact lt
      · exact Int.lt_trans lt (h1 b hb)
    · split
      · exact h
      · rename_i n1 n2
        refine List.pairwise_cons.mpr ⟨fun b hb => ?_, ord_insS k r h2⟩
        rcases (mem_insS k b r).mp hb with rfl | hb
        · omega
        · exact h1 b hb
theorem mem_setS (j : Int) : ∀ l : List Int, j ∈ setS l ↔ j ∈ l
  | [] => by simp [setS]
  | a :: r => by
    show j ∈ insS a (setS r) ↔ _
    rw [mem_insS, mem_setS j r, List.mem_cons]
theorem ord_setS : ∀ l : List Int, (setS l).Pairwise (· < ·)
  | [] => .nil
  | a :: r => ord_insS a _ (ord_setS r)
theorem ord_uniq : ∀ {a b : List Int}, a.Pairwise (· < ·) → b.Pairwise (· < ·) → (∀ k, k ∈ a ↔ k ∈ b) → a = b
  | [], [], _, _, _ => rfl
  | [], y :: s, _, _, h => absurd ((h y).mpr List.mem_cons_self) (by simp)
  | x :: r, [], _, _, h => absurd ((h x).mp List.mem_cons_self) (by simp)
  | x :: r, y :: s, ha, hb, h => by
    obtain ⟨a1, a2⟩ := List.pairwise_cons.mp ha
    obtain ⟨b1, b2⟩ := List.pairwise_cons.mp hb
    have e : x = y := by
      rcases List.mem_cons.mp ((h x).mp List.mem_cons_self) with e | m
      · exact e
      · rcases List.mem_cons.mp ((h y).mpr List.mem_cons_self) with e | m2
        · exact e.symm
        · have l1 := b1 x m
          have l2 := a1 y m2
          omega
    subst e
    rw [ord_uniq a2 b2 fun k => ⟨fun m => ?_, fun m => ?_⟩]
    · rcases List.mem_cons.mp ((h k).mp (List.mem_cons_of_mem _ m)) with e | z
      · have l1 := a1 k m
        omega
      · exact z
    · rcases List.mem_cons.mp ((h k).mpr (List.mem_cons_of_mem _ m)) with e | z
      · have l1 := b1 k m
        omega
      · exact z
/-- a strictly increasing list is its own -/
theorem setS_id {l : List Int} (h : l.Pairwise (· < ·)) : setS l = l := ord_uniq (ord_setS l) h fun k => mem_setS k l
theorem setS_iff (l : List Int) : setS l = l ↔ l.Pairwise (· < ·) := ⟨fun e => e ▸ ord_setS l, setS_id⟩
def setSD : D → R (List D)
  | .list ds => (intsOf ds).bind fun bs => if bs.length < 64 then .ok ((setS bs).map .int) else .no
  | .tuple ds => (intsOf ds).bind fun bs => if bs.length < 64 then .ok ((setS bs).map .int) else .no
  | _ => .no
section
variable {X : Cx} {cm : Nat → Addr} {W : WX} {k : Nat} {a : Expr} {f : Rho → R D} {pos p p2 q : Pos}
theorem setS_step {K : PySem.W.Frag} {w : World} {σ : St} {B : Addr → Prop} {H : Hp} {Q : VK} {bs : List Int} {l : Addr} (hs : SqL K H l (bs.map V.int) ∨ SqT K H l (bs.map V.int))
    (g : ResF K cm W σ B H (if bs.length < 64 then .ok ((setS bs).map .int) else .no) Q) : rSetOf K w [.ref l] H fun y H1 => rSortedSet w [y] H1 Q := by
  by_cases hz : bs.length < 64
  · rw [if_pos hz] at g
    refine ⟨l, bs, rfl, hs, hz, fun a c hc ha => ⟨a, _, c, rfl, upd_same, by omega, fun ns b ho hm _ hb => ?_⟩⟩
    have e : ns = setS bs := ord_uniq ho (ord_setS bs) fun j => by
      rw [hm j, mem_setS]
      exact decide_eq_true_iff
    subst e
    have hb0 : H b = none := (same_upd (o := SetO w a (fun k => decide (k ∈ bs)) c) ha).free hb
    exact g b _ _ ((same_upd ha).trans (same_upd hb)) hb0 upd_same (RpAll.ints _)
  · rw [if_neg hz] at g
    exact (show False from g).elim
theorem zf_sortedSet (hc : X.calm = true) (ha : ZK X cm W a f) (hm : X.mg "sorted" = none) (hm2 : X.mg "set" = none) (hg : Gl X "sorted" := by rfl) (hg2 : Gl X "set" := by rfl)
    (he2 : starEach (a :: []) X.env = (false, eval a X.env) :: starEach [] X.env := by rfl)
    (he : starEach (.Call (.Name "set" p2) [a] [] q :: []) X.env = (false, eval (.Call (.Name "set" p2) [a] [] q) X.env) :: starEach [] X.env := by rfl) :
    ZF X cm W (.Call (.Name "sorted" p) [.Call (.Name "set" p2) [a] [] q] [] pos) (fun r => (f r).bind setSD) :=
  PE.imp (pe_callB (cr_sortedSet hc) hg hm (by decide +kernel) (pa_cons (pe_callTy (cr_setOf hc) hg2 hm2 (by decide +kernel) (pa_cons ha pa_nil he2) (by decide) (by decide) he2 rfl) pa_nil he) (by decide) (by decide) he rfl)
    (then1F (F := setSD) (kk := fun x H Q => rSetOf X.K X.w [x] H fun y H1 => rSortedSet X.w [y] H1 Q) fun σ H B x d Q hb rx g => by
      cases d with
      | list ds =>
        obtain ⟨l, xs, rfl, h1, r1⟩ := rx.lstE
        obtain ⟨bs, e, g⟩ := resF_bind (ints_nox ds) (show ResF X.K cm W σ B H ((intsOf ds).bind fun bs => if bs.length < 64 then .ok ((setS bs).map .int) else .no) Q from g)
        exact setS_step (.inl (by rw [← ints_rp e r1]; exact h1)) g
      | tuple ds =>
        obtain ⟨l, xs, rfl, h1, r1⟩ := rx.tup
        obtain ⟨bs, e, g⟩ := resF_bind (ints_nox ds) (show ResF X.K cm W σ B H ((intsOf ds).bind fun bs => if bs.length < 64 then .ok ((setS bs).map .int) else .no) Q from g)
        exact setS_step (.inr (by rw [← ints_rp e r1]; exact h1)) g
      | _ => exact (show False from g).elim)
end
end Z


set_option Elab.async false
set_option linter.all false
set_option maxRecDepth 100000
set_option maxHeartbeats 4000000
namespace Z
open PySem PySem.Spec PyProof.Rows L2
/-! ### a op b op c -/
section
variable {X : Cx} {cm : Nat → Addr} {W : WX} {k : Nat} {a b c : Expr} {f g h : Rho → R D} {pos : Pos} {op op' : CmpOp} {F G : D → D → R Bool}
theorem chain_step {r r' : R2} {Q1 : VK} {QT : Bool → Hp → Prop} (hk : ∀ (H : Hp) (B : Addr → Prop) (x y : V) (d e : D) (Q : VK), RpC X.K H B x d → RpC X.K H B y e → (∃ t, F d e = .ok t ∧ Q (.bl t) H) → r x y H Q)
    (hk' : ∀ (H : Hp) (B : Addr → Prop) (x y : V) (d e : D) (Q : VK), RpC X.K H B x d → RpC X.K H B y e → (∃ t, G d e = .ok t ∧ Q (.bl t) H) → r' x y H Q)
    (nx : ∀ d e j, F d e ≠ .ex j) (nx' : ∀ d e j, G d e ≠ .ex j) (hQ : ∀ t H, QT t H → Q1 (.bl t) H) {σ : St} {H : Hp} (q : tT X.K cm W (cCh F G f g h) σ H QT) : tChain r r' (tC X.K cm W f) (tC X.K cm W g) (tC X.K cm W h) σ H Q1 := by
  obtain ⟨C, ρ, E, q⟩ := q
  refine ⟨C, ρ, E, pst_imp (pst_bind q) fun d q v H1 s1 r1 => ⟨C, ρ, E.go s1, pst_imp (pst_bind (pst_go q s1)) fun e q w H2 s2 r2 => ?_⟩⟩
  have q2 : pst cm W σ H2 ((F d e).bind fun t => if t = true then (h ρ).bind fun z => G e z else .ok false) fun b => ∀ H', Same H H' → QT b H' := pst_go q s2
  cases hF : F d e with
  | ok t =>
    rw [hF] at q2
    refine hk H2 _ v w d e _ (r1.mono s2 (fun _ z => .inl z)) r2 ⟨t, hF, t, rfl, ?_⟩
    cases t with
    | false => exact hQ _ _ (q2 H2 (s1.trans s2))
    | true =>
      refine ⟨C, ρ, E.go (s1.trans s2), pst_imp (pst_bind q2) fun z q u H3 s3 r3 => ?_⟩
      cases hG : G e z with
      | ok t2 =>
        rw [hG] at q
        exact hk' H3 _ w u e z _ (r2.mono s3 (fun _ z => .inl z)) r3 ⟨t2, hG, hQ _ _ (q H3 ((s1.trans s2).trans s3))⟩
      | ex j => exact (nx' e z j hG).elim
      | no =>
        rw [hG] at q
        exact (show False from q).elim
  | ex j => exact (nx d e j hF).elim
  | no =>
    rw [hF] at q2
    exact (show False from q2).elim
theorem ze_chain (h1 : Cmp X op F) (h2 : Cmp X op' G) (ha : ZK X cm W a f) (hb : ZK X cm W b g) (hc : ZK X cm W c h) (nx : ∀ d e j, F d e ≠ .ex j) (nx' : ∀ d e j, G d e ≠ .ex j) (hm : lastMarks [op, op'] [b, c] = false := by with_unfolding_all rfl) :
    ZE X cm W (.Compare a [op, op'] [b, c] pos) (cBl (cCh F G f g h)) := by
  obtain ⟨r, o1, k1⟩ := h1
  obtain ⟨r', o2, k2⟩ := h2
  exact PE.imp (pe_chain o1 o2 ha hb hc hm) fun σ H Q ⟨C, ρ, E, q⟩ => chain_step k1 k2 nx nx' (QT := fun t H' => Q (.bl t) H') (fun t H z => z) ⟨C, ρ, E, pst_imp (pst_bind q) fun t q H' s => q (.bl t) H' s (.bl t)⟩
end
end Z


set_option Elab.async false
set_option linter.all false
set_option maxRecDepth 100000
set_option maxHeartbeats 1000000
/-! repr of lists and tuples of data; sequences times a number. -/
namespace Z
open PySem PySem.Spec PyProof.Rows L2
/-! ### repr -/
def reprD : D → R D
  | .list ds => if SeqAt.shaped (.list ds) && (PyData.list ds).showable && decide ((PyData.list ds).depth ≤ 100) && decide ((PyData.list ds).shown.length ≤ sizeLine) then .ok (.str (PyData.list ds).shown) else .no
  | _ => .no
section
variable {X : Cx} {cm : Nat → Addr} {W : WX} {k : Nat} {a b : Expr} {f g : Rho → R D} {pos p : Pos}
def rRepr (K : PySem.W.Frag) : List V → Hp → VK → Prop := fun xs H Q => ∃ (v : V) (ds : List D), xs = [v] ∧ Dp K H v (.list ds) ∧ SeqAt.shaped (.list ds) = true ∧ (PyData.list ds).showable = true ∧ (PyData.list ds).depth ≤ 100 ∧ (PyData.list ds).shown.length ≤ sizeLine ∧ Q (.str (PyData.list ds).shown) H
theorem call_repr (A : Amb X W k) : CallR X (.builtin "repr") (rRepr X.K) := by
  intro pins s σ H xs us Q I rv ⟨v, ds, e, dp, sh, sw, dep, len, q⟩
  subst e
  cases rv with
  | cons r1 rr =>
    cases rr
    obtain ⟨as, rd⟩ := Dp.reads I _ _ _ dp r1
    cases dp with
    | lst hl ha =>
      cases r1
      have nd := PyData.hasDict_of_canLay _ (SeqAt.canLay_of_shaped sh)
      exact repr_of_reads' rd sw (fun z => by rw [nd] at z; exact nomatch z) A.gd (by have := A.hr.un; omega) (fun b o e => e) (fun h' u tk hk => ⟨.str _, H, I.kept hk, ⟨u, rfl⟩, q⟩) len
theorem op1_repr (A : Amb X W k) (hm : X.mg "repr" = none) (hg : Gl X "repr" := by rfl) (he : starEach (a :: []) X.env = (false, eval a X.env) :: starEach [] X.env := by rfl) : Op1 X cm W a (.Call (.Name "repr" p) [a] [] pos) reprD :=
  op1_b1 (call_repr A) (fun σ H B x d Q hb rx q => by
    cases d with
    | list ds =>
      obtain ⟨hz, q⟩ := res_ite q
      simp only [Bool.and_eq_true, decide_eq_true_eq] at hz
      obtain ⟨⟨⟨h1, h2⟩, h3⟩, h4⟩ := hz
      exact ⟨x, ds, rfl, rx.dp h1, h1, h2, h3, h4, q.ok (.str _)⟩
    | _ => exact (show False from q).elim) (by decide +kernel) hm hg (by decide) (by decide) he rfl
theorem ze_repr (A : Amb X W k) (ha : ZK X cm W a f) (hm : X.mg "repr" = none) (hg : Gl X "repr" := by rfl) (he : starEach (a :: []) X.env = (false, eval a X.env) :: starEach [] X.env := by rfl) : ZE X cm W (.Call (.Name "repr" p) [a] [] pos) (cB1 reprD f) := ze_of1 (op1_repr A hm hg he) ha

/-! ### times a number -/
def repD : D → D → R D
  | .tuple xs, .int n => if xs ≠ [] ∧ 2 ≤ n ∧ n ≤ 1000 ∧ xs.length ≤ 1000 then .ok (.tuple (List.replicate n.toNat xs).flatten) else .no
  | .str x, .int n => if 1 < n ∧ n ≤ 1000000 ∧ 0 < x.length ∧ x.length * n.toNat ≤ 1000000 then .ok (.str ⟨(List.replicate n.toNat x.cps).foldl (· ++ ·) #[]⟩) else .no
  | _, _ => .no
def rRepS : R2 := fun x y H Q => ∃ (z : Str) (n : Int), x = .str z ∧ y = .int n ∧ 1 < n ∧ n ≤ 1000000 ∧ 0 < z.length ∧ z.length * n.toNat ≤ 1000000 ∧ Q (.str ⟨(List.replicate n.toNat z.cps).foldl (· ++ ·) #[]⟩) H
theorem foldl_cat_size {α : Type} (x : Array α) : ∀ (n : Nat) (acc : Array α), ((List.replicate n x).foldl (· ++ ·) acc).size = acc.size + n * x.size
  | 0, acc => by simp
  | n + 1, acc => by
    rw [List.replicate_succ, List.foldl_cons, foldl_cat_size x n, Array.size_append, Nat.succ_mul]
    omega
theorem op_repS : OpR X (binaryOp .Mult) rRepS := by
  intro pins s σ H x y v u Q I rx ry ⟨z, n, ex, ey, h1, h2, h3, h4, q⟩
  subst ex ey
  obtain ⟨t, rfl⟩ := rx
  obtain ⟨t2, rfl⟩ := ry
  have hlen : z.length ≤ 1000000 := by
    have : z.length * 1 ≤ z.length * n.toNat := Nat.mul_le_mul_left _ (by omega)
    omega
  refine PySem.P.mul_str (by rw [decide_eq_false (by omega), decide_eq_false (by omega)] <;> rfl) (fun _ _ => ?_) (fun _ _ => ?_) ?_
  · have : (1000000 : Int) ≤ (2 ^ 63 - 1) / n := by
      apply Int.le_ediv_of_mul_le (by omega)
      have : (1000000 : Int) * n ≤ 1000000 * 1000000 := by omega
      omega
    omega
  · unfold Builtin.Str.tooLong
    simp only [decide_eq_false_iff_not]
    have e := sizeLine_eq
    omega
  · rw [if_neg (by omega), if_neg (by
      have e1 : (n == 1) = false := beq_eq_false_iff_ne.mpr (by omega)
      have e2 : (z.length == 0) = false := beq_eq_false_iff_ne.mpr (by omega)
      rw [e1, e2]
      exact Bool.false_ne_true)]
    refine ⟨?_, ⟨.str _, H, I.tok _, ⟨_, rfl⟩, q⟩⟩
    have : Str.length ⟨(List.replicate n.toNat z.cps).foldl (· ++ ·) #[]⟩ = n.toNat * z.length := by
      show ((List.replicate n.toNat z.cps).foldl (· ++ ·) #[]).size = _
      rw [foldl_cat_size]
      simp [Str.length]
    rw [this, Nat.mul_comm, sizeLine_eq]
    omega
theorem op2_rep : Op2 X cm W a b (.BinOp a .Mult b pos) repD :=
  ⟨_, fun _ _ ha hb => pe_op (op_repT.or op_repS) ha hb, fun σ H B x y d e Q hb rx ry q => by
    cases d with
    | tuple xs =>
      cases e with
      | int n =>
        obtain ⟨⟨h1, h2, h3, h4⟩, q⟩ := res_ite q
        obtain ⟨a, vs, rfl, hs, r1⟩ := rx.tup
        refine .inl ⟨a, n, vs, rfl, ry.int, hs, fun z => h1 ?_, h2, h3, by rw [r1.length]; exact h4, fun p hp => q.tup ?_ hp⟩
        · subst z
          cases r1
          rfl
        · have rep : ∀ m : Nat, RpAll X.K H B (List.replicate m vs).flatten (List.replicate m xs).flatten := fun m => by
            induction m with
            | zero => exact .nil
            | succ m ih =>
              rw [List.replicate_succ, List.replicate_succ, List.flatten_cons, List.flatten_cons]
              exact r1.append ih
          exact rep _
      | _ => exact (show False from q).elim
    | str z =>
      cases e with
      | int n =>
        obtain ⟨⟨h1, h2, h3, h4⟩, q⟩ := res_ite q
        exact .inr ⟨z, n, rx.str, ry.int, h1, h2, h3, h4, q.ok (.str _)⟩
      | _ => exact (show False from q).elim
    | _ => cases e <;> exact (show False from q).elim⟩
theorem ze_rep (ha : ZK X cm W a f) (hb : ZK X cm W b g) : ZE X cm W (.BinOp a .Mult b pos) (cB2 repD f g) := ze_of2 op2_rep ha hb
/-- a new list, times a number -/
def cRepF (f : Rho → R (List D)) (n : Int) : Rho → R (List D) := fun r => (f r).bind fun ds => if 0 ≤ n ∧ n ≤ 1000000 ∧ ds.length * n.toNat ≤ sizeLine then .ok (List.replicate n.toNat ds).flatten else .no
theorem zf_rep {f : Rho → R (List D)} {n : Int} {p2 : Pos} {kk} (ha : ZF X cm W a f) : ZF X cm W (.BinOp a .Mult (.Constant (.int n) kk p2) pos) (cRepF f n) :=
  PE.imp (pe_op op_rep ha pe_int) fun σ H Q ⟨C, r, E, q⟩ => ⟨C, r, E, pst_imp (pst_bind q) fun ds q p vs H1 s1 np hp rv => by
    by_cases hz : 0 ≤ n ∧ n ≤ 1000000 ∧ ds.length * n.toNat ≤ sizeLine
    · rw [if_pos hz] at q
      refine ⟨p, n, vs, rfl, rfl, hp, by omega, by omega, by rw [rv.length]; exact hz.2.2, fun p2 hp2 => ?_⟩
      have rep : ∀ m : Nat, RpAll X.K H1 (BB C r σ) (List.replicate m vs).flatten (List.replicate m ds).flatten := fun m => by
        induction m with
        | zero => exact .nil
        | succ m ih =>
          rw [List.replicate_succ, List.replicate_succ, List.flatten_cons, List.flatten_cons]
          exact (rv.mono (Same.refl _) fun a z => .inl (.inl z)).append ih
      exact q p2 _ _ (s1.trans (same_upd hp2)) (s1.free hp2) upd_same ((rep _).mono (same_upd hp2) fun a z => z.elim .inl fun e => .inr (by rw [e]; exact hp2))
    · rw [if_neg hz] at q
      exact (show False from q).elim⟩
end
end Z


set_option Elab.async false
set_option linter.all false
set_option maxRecDepth 100000
set_option maxHeartbeats 1000000
/-! try: .. except X as n: suite, where what is caught may have a context -/
namespace Z
open PySem PySem.Spec PyProof.Rows L2
/-- the caught exception, and its context if it has one, among what the suite pins -/
structure Caught (pn : List (Addr × Obj)) (a : Addr) (oe : Obj) (cls : Value) (d : Option Addr) : Prop where
  mem : (a, oe) ∈ pn
  cls : oe.cls = cls
  dict : oe.dict = d
  ctx : ∃ vs, oe.data = .fields vs ∧ (vs[2]? = some .none ∨ ∃ (x2 : Addr) (o2 : Obj) (ws : Array Value), vs[2]? = some (.ref x2) ∧ (x2, o2) ∈ pn ∧ o2.data = .fields ws ∧ ws[2]? = some .none)
section
variable {X : Cx} {pins : List (Addr × Obj)} {σ : St} {H : Hp} {s : Shared}
theorem repin {a : Addr} {pn pn2 : List (Addr × Obj)} (I : Inv (X.suite a pn) [] σ H s) (h : ∀ p ∈ pn2, p ∈ pn ∨ (s.heap.get? p.1 = some p.2 ∧ H p.1 = none ∧ p.1 ≠ X.env.locals ∧ p.1 ∉ X.fs ∧ ∀ v, p.2.data ≠ .cell v)) : Inv (X.suite a pn2) [] σ H s :=
  ⟨⟨I.ok.mod, I.ok.kind, I.ok.glob, I.ok.blt, I.ok.above, I.ok.inj, I.ok.has, I.ok.cab, I.ok.hd, I.ok.frames, I.ok.stk, I.ok.exf, I.ok.bs, I.ok.bsz, I.ok.noex, I.ok.exfs, I.ok.funs, I.ok.frf⟩, I.os, I.bare, I.base, I.loc, I.cell, I.free, I.freeC, fun p m => by
    have m : p ∈ pn2 := by simpa using m
    rcases h p m with z | z
    · exact I.pin p (by simpa using z)
    · exact z, I.hok, I.len⟩
theorem unsuite2 {a : Addr} {pn pn' : List (Addr × Obj)} (I : Inv (X.suite a pn) pn' σ H s) (ok : X.Ok) (h : ∀ p ∈ X.pn ++ pins, p ∈ pn) : Inv X pins σ H s :=
  ⟨ok, I.os, I.bare, I.base, I.loc, I.cell, I.free, I.freeC, fun p m => I.pin p (List.mem_append_left _ (h p m)), I.hok, I.len⟩
end
/-- what is wanted of what flies out of the body: it is caught, and the suite goes on -/
def wAs2 (K : PySem.W.Frag) (c : Value) (i : Nat) (ts : Addr → Value → Option Addr → TS) (Dn : Ends) : WX := fun cls d σ H =>
  PySem.W.exmOne K cls c = some true ∧ ∀ a, H a = none → ts a cls d { nx := fun σ1 H1 => Dn.nx (σ1.set i none) H1, rt := Dn.rt, bk := fun σ1 H1 => Dn.bk (σ1.set i none) H1, ct := fun σ1 H1 => Dn.ct (σ1.set i none) H1 } (σ.set i (some (.ref a))) H
section
variable {X : Cx} {x n : Str} {c : Value} {i : Nat} {body suite : List Stmt} {b0 : Stmt} {np pos pos' : Pos} {tb : WX → TS} {ts : Addr → Value → Option Addr → TS}
theorem ps_try_as2 (hst : X.stack = X.env :: X.outer) (hf : X.env.frame = some X.env.locals) (nd : X.N.Nodup) (hi : X.N[i]? = some n) (hl : X.env.kindOf n = some .local) (hc : Names X x c)
    (hb : ∀ (W : WX) (pn : List (Addr × Obj)) (xe : Value → Shared → Prop), Takes2 (X.tr pn xe) W → PassesOwn (model X.prog X.w) X.A X.env xe → PSs (X.tr pn xe) body (tb W))
    (hsu : ∀ (a : Addr) (oe : Obj) (cls : Value) (d : Option Addr) (pn : List (Addr × Obj)), Caught pn a oe cls d → PSs (X.suite a pn) (b0 :: suite) (ts a cls d)) :
    PS X (.Try body [.ExceptHandler (some (.Name x np)) (some n) (b0 :: suite) pos'] [] [] pos) (fun Dn σ H => tb (wAs2 X.K c i ts Dn) Dn σ H) := by
  refine ⟨fun pins s σ H Dn I want => ?_⟩
  have ok := I.ok
  have frm : X.A.frames = some (X.env :: X.outer) := ok.frames.trans (by rw [hst])
  refine wpAny_Try_except (wpAny_mono ((hb (wAs2 X.K c i ts Dn) (X.pn ++ pins) (fun u t1 => wpAny (model X.prog X.w) X.A (noteFrame u X.env) (fun _ t2 => wpAny (model X.prog X.w) X.A (setFlight u none) (fun _ t3 =>
    wpAny (model X.prog X.w) X.A (handleBy u X.env [.ExceptHandler (some (.Name x np)) (some n) (b0 :: suite) pos']) (SP X pins Dn) X.xe t3) X.xe t2) X.xe t1) (fun u t air => ?_) PassesOwn.looking).run [] s σ H Dn (I.toTry _) want) (fun f t sp => ?_) fun _ _ z => z)
  rotate_left
  · cases f with
    | next =>
      obtain ⟨σ1, H1, J, q⟩ := sp
      exact wpAny_execs_nil ⟨σ1, H1, J.ofTry ok, q⟩
    | brk =>
      obtain ⟨σ1, H1, J, q⟩ := sp
      exact ⟨σ1, H1, J.ofTry ok, q⟩
    | cont =>
      obtain ⟨σ1, H1, J, q⟩ := sp
      exact ⟨σ1, H1, J.ofTry ok, q⟩
    | ret v =>
      obtain ⟨w, σ1, H1, J, rv, q⟩ := sp
      exact ⟨w, σ1, H1, J.ofTry ok, rv, q⟩
  obtain ⟨a, B, sI, pl, σ1, H1, cls, d, hu, J0, nb, up, sky, na, os, ag, yes, go⟩ := air
  subst hu
  have J : Inv X pins σ1 H1 sI := J0.ofTry ok
  have sky1 : Sky B (X.env :: X.outer) a (Zm B H1 cls d) X.env.locals t.heap := by rw [← hst]; exact sky
  show wpAny (model X.prog X.w) X.A (noteFrame (.ref a) X.env) _ _ _
  refine L2N.Sky.land Zm.steady frm hf sky1 fun h3 fl3 up3 => ?_
  -- an exception's record is no frame
  have off : ∀ {h : Heap} {b : Addr} {o : Obj} {vs : Array Value}, h.FunFrames B (X.env :: X.outer) → h.get? b = some o → o.data = .fields vs → b ∉ frs (X.env :: X.outer) := fun {h b o vs} ff e dd m => by
    obtain ⟨_, o1, e1, nf⟩ := ff.mem m
    rw [e] at e1
    cases e1
    exact nf _ dd
  have sep : ∀ {b : Addr}, b ∉ frs (X.env :: X.outer) → b ≠ X.env.locals ∧ b ∉ X.fs := fun {b} z => ⟨fun e => z (List.mem_filterMap.mpr ⟨X.env, List.mem_cons_self, by rw [hf, e]⟩), fun m => by
    obtain ⟨e, he, q⟩ := List.mem_filterMap.mp m
    exact z (List.mem_filterMap.mpr ⟨e, List.mem_cons_of_mem _ he, q⟩)⟩
  obtain ⟨oe3, vs3, he3, hz3, hd3⟩ := fl3.there
  have J3 : Inv X pins σ1 H1 { t with heap := h3 } := J.landed nb fl3.1 (up.trans up3) os ag
  obtain ⟨l3, f3⟩ := sep (off fl3.2.2.1 he3 hd3)
  have S3 := J3.suite he3 hd3 na l3 f3
  refine wpAny_handleBy_cons (codeAny_handlers_test ?_) (by intro q; cases q)
  have LT : PySem.W.Looks (model X.prog X.w) h3 (typeOf (.ref a)) cls := fun A Q E s k q => wpAny_typeOf_ref (k _ _ he3) (by rw [hz3.1]; exact q)
  have test : ∀ {Q : Value → Shared → Prop} {E : Value → Shared → Prop}, Q c { t with heap := h3 } → wpAny (model X.prog X.w) (X.A.mark (some (.ref a))) (eval (.Name x np) X.env) Q E { t with heap := h3 } := fun {Q E} q => by
    obtain ⟨g1, g2, m1 | ⟨m1, m2, m3⟩⟩ := hc
    · exact ld_glob (X := X.suite a ((a, oe3) :: (X.pn ++ pins))) S3 g1 m1 q g2
    · exact ld_blt (X := X.suite a ((a, oe3) :: (X.pn ++ pins))) S3 g1 m1 m2 q m3 g2
  refine test ((PySem.W.exm_one (M := model X.prog X.w) J3.kIn LT yes).here ?_)
  refine codeAny_handlers_suite_as (HandSPX.lands_againZ fl3 fun h4 fl4 up4 => ?_)
  obtain ⟨oe4, vs4, he4, hz4, hd4⟩ := fl4.there
  have J4 : Inv X pins σ1 H1 { t with heap := h4 } := J.landed nb fl4.1 ((up.trans up3).trans up4) os ag
  obtain ⟨l4, f4⟩ := sep (off fl4.2.2.1 he4 hd4)
  have S4 := J4.suite he4 hd4 na l4 f4
  have fin : ∀ pn, Caught pn a oe4 cls d → (∀ p ∈ X.pn ++ pins, p ∈ pn) → Inv (X.suite a pn) [] σ1 H1 { t with heap := h4 } → wpAny (model X.prog X.w) (X.A.mark (some (.ref a))) (storeName X.env n (.ref a)) (fun _ s2 => wpAny (model X.prog X.w) (X.A.mark (some (.ref a))) (execs (b0 :: suite) X.env) (fun f s3 =>
      wpAny (model X.prog X.w) X.A (do bindName X.env n .none; unbindBehindTheSuite X.env n pos') (fun _ s4 => SP X pins Dn f s4) X.xe s3) (fun _ _ => False) s2) (fun _ _ => False) { t with heap := h4 } := fun pn ct sub S => by
    refine store_ok (X := X.suite a pn) (v := .ref a) S nd hi (.inl hl) rfl (fun s5 S5 => ?_) (.inr hl)
    refine wpAny_mono ((hsu a oe4 cls d pn ct).run [] s5 _ H1 _ S5 (go a na)) (fun f s6 sp => ?_) fun _ _ z => z
    have gone : ∀ {σ6 : St} {H6 : Hp} {Q : Shared → Prop}, Inv (X.suite a pn) [] σ6 H6 s6 → (∀ s7, Inv X pins (σ6.set i none) H6 s7 → Q s7) → wpAny (model X.prog X.w) X.A (do bindName X.env n .none; unbindBehindTheSuite X.env n pos') (fun _ s7 => Q s7) X.xe s6 :=
      fun {σ6 H6 Q} S6 q => gone_ok (unsuite2 S6 ok sub) nd hi hl q
    cases f with
    | next =>
      obtain ⟨σ6, H6, S6, q6⟩ := sp
      exact gone S6 fun s7 J7 => ⟨_, _, J7, q6⟩
    | brk =>
      obtain ⟨σ6, H6, S6, q6⟩ := sp
      exact gone S6 fun s7 J7 => ⟨_, _, J7, q6⟩
    | cont =>
      obtain ⟨σ6, H6, S6, q6⟩ := sp
      exact gone S6 fun s7 J7 => ⟨_, _, J7, q6⟩
    | ret u =>
      obtain ⟨v6, σ6, H6, S6, r6, q6⟩ := sp
      exact gone S6 fun s7 J7 => ⟨_, _, _, J7, r6, q6⟩
  have last : wpAny (model X.prog X.w) (X.A.mark (some (.ref a))) (storeName X.env n (.ref a)) (fun _ s2 => wpAny (model X.prog X.w) (X.A.mark (some (.ref a))) (execs (b0 :: suite) X.env) (fun f s3 =>
      wpAny (model X.prog X.w) X.A (do bindName X.env n .none; unbindBehindTheSuite X.env n pos') (fun _ s4 => SP X pins Dn f s4) X.xe s3) (fun _ _ => False) s2) (fun _ _ => False) { t with heap := h4 } := by
    rcases hz4.2.2 vs4 hd4 with ctx | ⟨x2, o2, ws, ctx, e2, n2, d2, c2⟩
    · exact fin ((a, oe4) :: (X.pn ++ pins)) ⟨List.mem_cons_self, hz4.1, hz4.2.1, vs4, hd4, .inl ctx⟩ (fun p m => List.mem_cons_of_mem _ m) S4
    · have e2' : h4.get? x2 = some o2 := fl4.1 _ _ e2
      obtain ⟨l2, f2⟩ := sep (off fl4.2.2.1 e2' d2)
      refine fin ((a, oe4) :: (x2, o2) :: (X.pn ++ pins)) ⟨List.mem_cons_self, hz4.1, hz4.2.1, vs4, hd4, .inr ⟨x2, o2, ws, ctx, by simp, d2, c2⟩⟩ (fun p m => List.mem_cons_of_mem _ (List.mem_cons_of_mem _ m)) (repin S4 fun p m => ?_)
      rcases List.mem_cons.mp m with z | z
      · exact .inl (by rw [z]; exact List.mem_cons_self)
      · rcases List.mem_cons.mp z with z | z
        · subst z
          exact .inr ⟨e2', n2, l2, f2, fun v y => by rw [d2] at y; exact nomatch y⟩
        · exact .inl (List.mem_cons_of_mem _ z)
  refine wpAny_mono last (fun _ s2 z2 => wpAny_mono z2 (fun f s3 z3 => z3) fun _ _ z => False.elim z) fun _ _ z => False.elim z
end
end Z


set_option Elab.async false
set_option linter.all false
set_option maxRecDepth 100000
set_option maxHeartbeats 1000000
/-! A def that is called while an exception is handled, with that exception. -/
namespace Z
open PySem PySem.Spec PyProof.Rows L2
/-- b is o in every state of Y, out of reach -/
structure PinY (Y : Cx) (b : Addr) (o : Obj) : Prop where
  at_ : ∀ {pins : List (Addr × Obj)} {σ : St} {H : Hp} {s : Shared}, Inv Y pins σ H s → s.heap.get? b = some o ∧ H b = none
  nofr : b ∉ frs Y.stack
  old : b < Y.s_0.heap.objs.size
  noex : b ∉ Y.ex
def HotY (Y : Cx) : Prop := ∃ (x1 : Addr) (o : Obj) (vs : Array Value), Y.A.handled = some (.ref x1) ∧ PinY Y x1 o ∧ o.data = .fields vs ∧
  (vs[2]? = some .none ∨ ∃ (x2 : Addr) (o2 : Obj) (ws : Array Value), vs[2]? = some (.ref x2) ∧ PinY Y x2 o2 ∧ o2.data = .fields ws ∧ ws[2]? = some .none)
theorem PinY.blk {Y : Cx} {b : Addr} {o : Obj} (t : PinY Y b o) {pins : List (Addr × Obj)} {σ : St} {G : Hp} {s : Shared} {scope : Scope} {ce : Env} {fp : List Addr} (I : Inv Y pins σ G s) (hf : ∀ b ∈ fp, FpOk Y pins G b) : PinY (Y.blk s G scope ce fp) b o := by
  obtain ⟨e, n⟩ := t.at_ I
  have nfp : b ∉ fp := fun m => (hf b m).2.2.2.1.elim t.noex fun z => absurd (Nat.lt_of_lt_of_le t.old z) (Nat.lt_irrefl _)
  exact ⟨fun {_ _ _ _} J => ⟨J.base.keep b o e n t.nofr nfp, J.base.free b o e n nfp⟩, t.nofr, Heap.lt_size e, nfp⟩
theorem HotY.blk {Y : Cx} (t : HotY Y) {pins : List (Addr × Obj)} {σ : St} {G : Hp} {s : Shared} {scope : Scope} {ce : Env} {fp : List Addr} (I : Inv Y pins σ G s) (hf : ∀ b ∈ fp, FpOk Y pins G b) : HotY (Y.blk s G scope ce fp) := by
  obtain ⟨x1, o, vs, h, p, d, c⟩ := t
  exact ⟨x1, o, vs, h, p.blk I hf, d, c.imp id fun ⟨x2, o2, ws, e, p2, r⟩ => ⟨x2, o2, ws, e, p2.blk I hf, r⟩⟩
theorem HotY.hot {Y : Cx} (t : HotY Y) {pins : List (Addr × Obj)} {σ : St} {H : Hp} {s : Shared} (I : Inv Y pins σ H s) : ∃ x1, HotH Y.A x1 s.heap := by
  obtain ⟨x1, o, vs, h, p, d, c⟩ := t
  exact ⟨x1, h, o, vs, (p.at_ I).1, d, c.imp id fun ⟨x2, o2, ws, e, p2, r⟩ => ⟨x2, o2, ws, e, (p2.at_ I).1, r⟩⟩
/-! ### a list walked -/
theorem turn_hot {P : Program} {w : World} {K : PySem.W.Frag} {tg : Expr} (a it : Addr) : TurnG HotY P w K tg (Itl K a) [it] it (fun i h => h.IsListIter it a i) where
  obj := fun i h st b hb => by
    obtain ⟨o, e, c, d⟩ := st
    rw [List.mem_singleton.mp hb]
    exact ⟨o, e, fun v z => by rw [d] at z; exact nomatch z⟩
  keep := fun i h h' st k => st.at fun o e => k it List.mem_cons_self o e
  item := by
    rintro Y rfl rfl rfl hot i pins s σ H E I hf st ⟨xs, x, hq, hx⟩
    obtain ⟨its, rv, p, hz⟩ := I.list hq
    obtain ⟨u, hu, ru⟩ := rv.get hx
    obtain ⟨f0, f1, f2, f3, f4, f5⟩ := hf it List.mem_cons_self
    refine wpAny_pyNext_list_item st p.isList (x := u) (by simpa using hu) fun h' st' sb => ?_
    obtain ⟨o, e, c, d⟩ := id st'
    exact ⟨u, rfl, go_of (s := { s with heap := h' }) e c d (by decide) ⟨x, H, I.turned (t' := s.toks) (fun b o hb e => (sb.2 b hb).trans e) f0 f1 f3 f4 f5, ru, ⟨rfl, fun ys hy => by rw [I.list_inj hy hq]; exact hx⟩, st', fun b hb => (hf b hb).1⟩⟩
  done := by
    rintro Y rfl rfl rfl hot i pins s σ H E I hf st ⟨xs, hq, hx⟩
    obtain ⟨its, rv, p, hz⟩ := I.list hq
    obtain ⟨f0, f1, f2, f3, f4, f5⟩ := hf it List.mem_cons_self
    obtain ⟨x1, t⟩ := hot.hot I
    have hl := rv.length
    exact next_end_hot t st p.isList (by simp; omega) fun h' k => ⟨rfl, I.turned (t' := s.toks) k f0 f1 f3 f4 f5⟩
  self := fun _ _ _ _ _ st h => wpAny_pyIter_listiter st h
theorem pig_hot {Y : Cx} {tg l : Expr} {tl : TE} (hl : PE Y l tl) : PIG HotY Y tg l (iList Y.K tl) := by
  refine ⟨fun pins s σ H R I h => thn (hl.run pins s σ H _ I h) fun v s1 ⟨x, H1, I1, r1, a, ex, ⟨xs, hq⟩, q⟩ => ?_⟩
  subst ex
  cases r1
  obtain ⟨its, rv, p, hz⟩ := I1.list hq
  refine wpAny_pyIter_list p.isList ⟨s1.heap.objs.size, [s1.heap.objs.size], _, _, H1, rfl, I1.kept (t' := s1.toks) fun b o e => Heap.get?_push_of_some _ e, turn_hot a _, ⟨_, Heap.get?_push_size _ rfl, rfl, rfl⟩, fun b hb => ?_, q⟩
  rw [List.mem_singleton.mp hb]
  exact I1.fpOk (Nat.le_refl _) (I1.hok.fresh (Nat.le_refl _))
section
variable {X : Cx} {cm : Nat → Addr} {W : WX} {k : Nat} {e a b : Expr} {f g : Rho → R D} {pos p p1 p2 apos : Pos}
/-! ### such a context -/
structure AmbH (X : Cx) : Prop where
  nd : X.N.Nodup
  hot : HotY X
  tp : TopF X
  un : X.A.units + 65 < cLine
def listOnly : D → R (List D)
  | .list ds => .ok ds
  | _ => .no
/-- a comprehension over a list, its element raises nothing -/
theorem zf_lcH {elt tg iter : Expr} {scope : Scope} {is : List Nat} {fi : Rho → R D} {G : D → Rho → Option Rho} (own : List (Str × Nat)) (A : AmbH X) (hi : ZE X cm W0 iter fi) (ok : BlkOk X.N X.env.scope scope own) (hg : ∀ (s : Shared) (H : Hp) (C : Addr) (cl : List (Str × Addr)) (fp : List Addr), ZG (X.blk s H scope (compEnvC scope cl C X.env) fp) tg is G)
    (he : ∀ (s : Shared) (H : Hp) (C : Addr) (cl : List (Str × Addr)) (fp : List Addr) (pl : List (Addr × Obj)) (xe : Value → Shared → Prop) (Wb : WX), ZE ((X.blk s H scope (compEnvC scope cl C X.env) fp).tr pl xe) cm Wb elt f)
    (hv : ∀ i ∈ is, i ∈ own.map (·.2) := by decide) (hs : ∀ x, foldedSetIterable iter X.env x = pure x := by intro _; rfl) : ZF X cm W0 (.ListComp elt [⟨tg, iter, [], 0⟩] scope pos) (cLc (own.map (·.2)) (fun r => (fi r).bind listOnly) G cYes f) := by
  refine PE.imp (pe_lcX (W := W0) (g := tG X.K is G) (tt := tT X.K cm W0 cYes) (te := fun Wb => tE X.K cm Wb f) (Ok := HotY) (fun _ _ _ _ _ _ I hf => A.hot.blk I hf) A.nd (fun u s' ⟨_, _, _, _, _, _, _, _, _, _, _, _, _, _, _, _, w⟩ => w.elim) A.tp (pig_hot (tl := tE X.K cm W0 fi) hi) ok (fun s H C cl fp => (hg s H C cl fp).pg) (fun s H C cl fp => zts_nil) (fun s H C cl fp pl xe Wb tf => he s H C cl fp pl xe Wb) hs) fun σ H Q q => ?_
  have q2 := lc_reads (K := X.K) (cm := cm) (W := W0) (f := f) (T := cYes) (fi := fun r => (fi r).bind listOnly) (hg X.s_0 X.H_0 0 [] []).keep (hg X.s_0 X.H_0 0 [] []).size hv σ H Q q
  -- what is walked is a list
  obtain ⟨C, r, E, q2⟩ := q2
  refine ⟨C, r, E, ?_⟩
  have q3 := pst_bind q2
  refine pst_imp q3 fun d q4 v H1 s1 rv => ?_
  cases d with
  | list ds =>
    have r2 := Rp.toAt (E.go s1) rv
    cases rv with
    | lst hs1 ra1 =>
      rename_i a xs
      cases r2 with
      | lst hs2 ra =>
        refine ⟨a, rfl, ⟨_, hs1.sq⟩, q4 _ H1 s1 fun i H2 s2 => ⟨fun hi => ?_, fun hi => ?_, fun x H3 y hi => ?_⟩⟩
        · rename_i ys
          have hx : i < ys.length := by rw [ra.length]; exact hi
          exact ⟨ys, ys[i], sqL_same s2 hs2.sq, List.getElem?_eq_getElem hx⟩
        · exact ⟨_, sqL_same s2 hs2.sq, by rw [ra.length]; exact hi⟩
        · obtain ⟨e3, y⟩ := y
          subst e3
          obtain ⟨d, hd, rd⟩ := ra.get (y _ (sqL_same s2 hs2.sq))
          exact ⟨Same.refl _, d, hd, fun B hB => rd.mono s2 hB⟩
  | _ => exact (show False from q4).elim
theorem ze_sumH (A : AmbH X) (ha : ZK X cm W a f) (hm : X.mg "sum" = none) (hg : Gl X "sum" := by rfl) (he : starEach (a :: []) X.env = (false, eval a X.env) :: starEach [] X.env := by rfl) : ZE X cm W (.Call (.Name "sum" p) [a] [] pos) (cB1 sumD f) :=
  ze_of1 (op1_b1 (rr := rSum X.K) (fun pins s σ H xs us Q I rv ⟨l, ns, ex, hs, q⟩ => by
    subst ex
    obtain ⟨its, ri, hl, _⟩ := I.list hs
    obtain ⟨x1, t⟩ := A.hot.hot I
    rw [Vals.ref1 rv]
    exact sum_hot t hl.isList ri.ints fun h' tk t' hk => ⟨.int _, H, I.kept hk, ⟨_, rfl⟩, q⟩) (fun σ H B x d Q hb rx q => by
    cases d with
    | list ds =>
      obtain ⟨l, xs, rfl, h1, r1⟩ := rx.lstE
      obtain ⟨ns, e, q⟩ := res_bind (ints_nox ds) (show Res X.K cm W σ B H ((intsOf ds).bind fun ns => .ok (.int ns.sum)) Q from q)
      exact ⟨l, ns, rfl, by rw [← ints_rp e r1]; exact h1, q.ok (.int _)⟩
    | _ => exact (show False from q).elim) (by decide +kernel) hm hg (by decide) (by decide) he rfl) ha
theorem cmpH_ne (A : AmbH X) : Cmp X .NotEq neD := ⟨_, op_neD (by have := A.un; omega), fun H B x y d e Q rx ry ⟨t, h, q⟩ => by
  obtain ⟨hs, h⟩ := rs_ite h
  rw [Bool.and_eq_true] at hs
  cases h
  exact ⟨d, e, rx.dp hs.1, ry.dp hs.2, hs.1, hs.2, q⟩⟩
theorem zs_setH (i : Nat) {x : Str} {pos' : Pos} (A : AmbH X) (he : ZE X cm W e f) (hi : X.N[i]? = some x := by rfl) (hx : Loc X.env.scope x := by first | exact Or.inl rfl | exact Or.inr rfl) (hs : swapsWith e (some (.Name x pos')) pos.line X.env = pure false := by rfl)
    (hf : X.fn x = true ∨ X.env.scope.names.lookup x = some .local := by first | exact .inl rfl | exact .inr rfl | assumption) : ZS X cm W (.Assign [.Name x pos'] e pos) (sSet i f) := PS.imp (ps_set A.nd hi hx he hs hf) fun Dn σ H ⟨C, r, E, q⟩ =>
  ⟨C, r, E, pst_imp (pso_of E q) fun d q v H1 s1 r1 => q _ H1 ((E.go s1).set_sh r1)⟩
/-- l.index(e) -/
def idxOf (d : D) : List D → Nat → Option Nat
  | [], _ => none
  | z :: zs, j => if PyData.eqv z d then some j else idxOf d zs (j + 1)
def optI : Option Nat → R D
  | some j => .ok (.int (j : Nat))
  | none => .no
def idxD (ds : List D) (d : D) : R D := if SeqAt.shaped (.list ds) && SeqAt.shaped d then optI (idxOf d ds 0) else .no
def cIdx (f g : Rho → R D) : Rho → R D := fun r => (f r).bind fun x => (listOnly x).bind fun ds => (g r).bind fun d => idxD ds d
theorem idxOf_at {d : D} : ∀ {ds : List D} {i j : Nat}, idxOf d ds i = some j → i ≤ j ∧ (∃ z, ds[j - i]? = some z ∧ PyData.eqv z d = true) ∧ ∀ m z, m < j - i → ds[m]? = some z → PyData.eqv z d = false
  | [], _, _, h => nomatch h
  | z :: zs, i, j, h => by
    unfold idxOf at h
    by_cases e : PyData.eqv z d = true
    · rw [if_pos e] at h
      cases h
      exact ⟨Nat.le_refl _, ⟨z, by rw [Nat.sub_self]; rfl, e⟩, fun m _ l => by omega⟩
    · rw [if_neg e] at h
      obtain ⟨h1, ⟨y, h2, h3⟩, h4⟩ := idxOf_at h
      refine ⟨by omega, ⟨y, ?_, h3⟩, fun m z' l hz => ?_⟩
      · have : j - i = (j - (i + 1)) + 1 := by omega
        rw [this, List.getElem?_cons_succ]
        exact h2
      · cases m with
        | zero =>
          cases hz
          exact Bool.eq_false_iff.mpr e
        | succ m => exact h4 m z' (by omega) (by simpa using hz)
theorem ze_index (Ah : AmbH X) (ho : ZK X cm W a f) (he : ZK X cm W b g) (hbase : attributeBase a "index" X.env (eval a X.env) = eval a X.env := by rfl)
    (hfew : ((backTo pos (starEach (b :: []) X.env)).all (fun x => !x.1) && (backToKw pos (keywordEach [] X.env)).all (fun x => x.1.isSome)
      && decide ((b :: []).length + ([] : List Keyword).length + (if ([] : List Keyword).isEmpty then 0 else 1) < 30)) = true := by rfl)
    (hline : (apos.endLine == pos.line) = true := by rfl) (hst : starEach (b :: []) X.env = (false, eval b X.env) :: starEach [] X.env := by rfl) :
    ZE X cm W (.Call (.Attribute a "index" apos) [b] [] pos) (cIdx f g) :=
  PE.imp (pe_bm PySem.F.plainAttrs_list PySem.F.slot_list_index PySem.F.type_list_index (mt_indexD Ah.un) ho (pa_cons he pa_nil hst) hbase hfew hline hst rfl) fun σ H Q ⟨C, r, E, q⟩ => ⟨C, r, E, pst_imp (pst_bind q) fun d q v H1 s1 r1 => by
    cases d with
    | list ds =>
      have q : pst cm W σ H ((g r).bind fun d => idxD ds d) fun d => ∀ v H', Same H H' → Rp X.K H' (BB C r σ) v d → Q v H' := q
      obtain ⟨l, xs, ev, h1, ra⟩ := r1.lstE
      subst ev
      refine ⟨.inl ⟨rfl, xs, h1⟩, C, r, E.go s1, pst_imp (pst_bind (pst_go q s1)) fun d2 q w H2 s2 r2 => ?_⟩
      have q' : Res X.K cm W σ (BB C r σ) H1 (if SeqAt.shaped (.list ds) && SeqAt.shaped d2 then optI (idxOf d2 ds 0) else .no) (fun v H' => Q v H') := pst_imp (pst_go q (Same.refl _)) fun _ z v H3 s3 rv => z v H3 (s1.trans s3) rv
      obtain ⟨hz, q'⟩ := res_ite q'
      rw [Bool.and_eq_true] at hz
      cases hj : idxOf d2 ds 0 with
      | none => rw [hj] at q'; exact (show False from q').elim
      | some j =>
        rw [hj] at q'
        obtain ⟨_, ⟨z, h2, h3⟩, h4⟩ := idxOf_at hj
        exact ⟨l, w, d2, ds, j, z, rfl, rfl, RpC.dp hz.1 (RpC.mono s2 (fun _ z => .inl z) (show RpC X.K H1 _ (.ref l) (.list ds) from r1)), r2.dp hz.2, hz.1, hz.2, h2, h3, fun m z' l => h4 m z' (by omega), q' _ H2 s2 (.int _)⟩
    | _ => exact (show False from q).elim⟩
end
end Z


set_option Elab.async false
set_option linter.all false
set_option maxRecDepth 100000
set_option maxHeartbeats 1000000
/-! The def that tells a caught exception's name; its call in the suite. -/
namespace Z
open PySem PySem.Spec PyProof.Rows L2
abbrev tokD (a : Addr) : D := .dict [(.none, .int (a : Nat))]
def isED (a : Addr) (b : Bool) : D → R D
  | .dict [(.none, .int i)] => if i = (a : Nat) then .ok (.bool b) else .no
  | _ => .no
abbrev CXno : CXT := fun _ _ _ _ _ _ => False
section
variable {X : Cx} {cm : Nat → Addr} {W : WX} {k : Nat} {e : Expr} {f g : Rho → R D} {pos p p2 : Pos}
theorem ze_isE {a D0 E0 : Addr} {oe : Obj} {b : Bool} {x : Str} (hp : PinY X a oe) (hcl : oe.cls = .ref D0) (hdc : oe.dict = none) (hf : ∃ vs, oe.data = .fields vs) (T : ExcC X.K D0) (hx : X.mg x = some (.ref E0)) (hk : PySem.W.kitOne X.K (.ref D0) (.ref E0) = some b) (he : ZE X cm W e f) (hm : X.mg "isinstance" = none)
    (hg : Gl X "isinstance" := by rfl) (hgx : Gl X x := by rfl) (hdb : (x == ("__debug__" : Str)) = false := by decide)
    (h1 : starEach (e :: [.Name x p2]) X.env = (false, eval e X.env) :: starEach [.Name x p2] X.env := by rfl) (h2 : starEach (.Name x p2 :: []) X.env = (false, eval (.Name x p2) X.env) :: starEach [] X.env := by rfl) (hpl : (backTo pos (starEach [.Name x p2] X.env)).any (·.1) = false := by rfl) :
    ZE X cm W (.Call (.Name "isinstance" p) [e, .Name x p2] [] pos) (cB1 (isED a b) f) := by
  have call : CallR X (.builtin "isinstance") (fun xs H Q => xs = [.ref a, .ref E0] ∧ Q (.bl b) H) := fun pins s σ H xs us Q I rv ⟨ex, q⟩ => by
    subst ex
    obtain ⟨hget, _⟩ := hp.at_ I
    obtain ⟨vs, hv⟩ := hf
    cases rv with
    | cons r1 rr =>
      cases rr with
      | cons r2 rr =>
        cases rr
        cases r1
        cases r2
        have J : PySem.W.InstAt s.heap a oe D0 none := by
          obtain ⟨oc, od, oda, osl⟩ := oe
          dsimp only at hcl hdc hv
          subst hcl hdc hv
          exact ⟨hget, rfl, rfl, trivial⟩
        exact PySem.W.kia_one (PySem.W.handS_kitx_exc T.hg T.hk T.hs T.hd T.ha T.hn T.ht T.hm) I.kIn J hk (fun z => nomatch z) fun tk => ⟨.bl b, H, I.kept (t' := tk) fun _ _ z => z, rfl, q⟩
  refine PE.imp (pe_callB call hg hm (by decide +kernel) (pa_cons he (pa_cons (pe_glob (v := .ref E0) hgx hx rfl hdb) pa_nil h2) h1) (by decide) (by decide) h1 hpl) fun σ H Q ⟨C, r, E, q⟩ => ⟨C, r, E, pst_imp (pst_bind q) fun d q v H1 s1 rv => ?_⟩
  have q : pst cm W σ H (isED a b d) fun d => ∀ v H', Same H H' → Rp X.K H' (BB C r σ) v d → Q v H' := q
  cases rv with
  | tok =>
    rename_i a2 q0
    have qq : pst cm W σ H (if ((a2 : Nat) : Int) = (a : Nat) then .ok (.bool b) else .no) fun d => ∀ v H', Same H H' → Rp X.K H' (BB C r σ) v d → Q v H' := q0
    by_cases hi : ((a2 : Nat) : Int) = (a : Nat)
    · rw [if_pos hi] at qq
      have e : a2 = a := Int.ofNat.inj hi
      subst e
      exact ⟨rfl, qq _ H1 s1 (.bl b)⟩
    · rw [if_neg hi] at qq
      exact (show False from qq).elim
  | _ =>
    rename_i q0
    exact (show False from q0).elim
end
/-- the exception at a, out of reach -/
def ErrAt (h : Heap) (H : Hp) (outer : List Env) (a : Addr) (oe : Obj) : Prop := h.get? a = some oe ∧ H a = none ∧ a ∉ frs outer ∧ ∃ vs, oe.data = .fields vs ∧
  (vs[2]? = some .none ∨ ∃ (x2 : Addr) (o2 : Obj) (ws : Array Value), vs[2]? = some (.ref x2) ∧ h.get? x2 = some o2 ∧ H x2 = none ∧ x2 ∉ frs outer ∧ o2.data = .fields ws ∧ ws[2]? = some .none)
structure FnE (P : Program) (w : World) (K : PySem.W.Frag) (mg : Str → Option Value) (base : Heap) (cm : Nat → Addr) (k : Nat) (f : Addr) (fd : FuncData) (n : Str) (ans : Nat → Option Str) : Prop where
  run : ∀ {A : Around} {outer : List Env} {s : Shared} {H : Hp} {args : Args} {a : Addr} {oe : Obj} {i : Nat} {t : Str} {Q : VK} {E : XK}, L2H.RoomH k A → A.handled = some (.ref a) → ErrAt s.heap H outer a oe → oe.cls = .ref (cm i) → oe.dict = none → ans i = some t → TabsK K H →
    Env0 P w K mg base A outer s H → BindsTo s fd args [(n, .ref a)] → (∀ H', Same H H' → Q (.str t) H') → codeAny (model P w) A (.call (.ref f) args) (CR CXno outer P w H s Q E) s
abbrev cxE (P : Program) (w : World) (K : PySem.W.Frag) (mg : Str → Option Value) (base : Heap) (N : List Str) (x : Str) (sc : Scope) (f : Addr) (cdv : Value) (A : Around) (outer : List Env) (s : Shared) (H : Hp) (E : XK) (p : Addr × Obj) : Cx := L2H.cxH CXno P w K mg base N x sc f cdv A outer s H E p
theorem fnE_of {P : Program} {w : World} {K : PySem.W.Frag} {mg : Str → Option Value} {base : Heap} {cm : Nat → Addr} {k : Nat} {x n : Str} {st : Stmt} {f : Addr} {fd : FuncData} {N : List Str} {ans : Nat → Option Str} {F : Addr → Nat → SF} (Fn : Fun K x x st f fd) (S : FnScope N [n] (defScope st))
    (body : ∀ (cdv : Value) (A : Around) (outer : List Env) (s : Shared) (H : Hp) (E : XK) (a : Addr) (oe : Obj) (i : Nat) (t : Str), ans i = some t → oe.cls = .ref (cm i) → oe.dict = none → (∃ vs, oe.data = .fields vs) → AmbH (cxE P w K mg base N x (defScope st) f cdv A outer s H E (a, oe)) → PinY (cxE P w K mg base N x (defScope st) f cdv A outer s H E (a, oe)) a oe →
      ZSs (cxE P w K mg base N x (defScope st) f cdv A outer s H E (a, oe)) cm W0 (defBody st) (F a i)) (plain : ∀ a i t, ans i = some t → runS (F a i) (startR N.length [tokD a]) = .ok (.str t)) : FnE P w K mg base cm (k + 1) f fd n ans := by
  refine ⟨fun {A outer s H args a oe i t Q E} hr hh ea hcl hdc ht tb e0 hb q => ?_⟩
  obtain ⟨oc, od, kV, doc, pm, an, cdv, ct, osl, rfl, lk, hcd⟩ := Fn.ex
  obtain ⟨g1, g2, g3, vs, gd, ctx⟩ := ea
  have KX : K.In s.heap := e0.mod.kin.keeps fun b o e => (e0.bs b o e).1
  have lim : s.heap.NoLimit := e0.mod.nolimit.keeps fun b o e => (e0.bs b o e).1
  have hkind : ∀ y ∈ [n].zip [Value.ref a], (defScope st).names.lookup y.1 = some .local ∨ ((defScope st).names.lookup y.1 = some .cell ∧ ((cellsFrom (s.heap.objs.size + 1) (defScope st).names []).lookup y.1).isSome = true) := fun ⟨m, z⟩ hm => by
    rcases S.par m (List.of_mem_zip hm).1 with z | z
    · exact .inl z
    · exact .inr ⟨z, PySem.W.cellsFrom_some _ _ _ (.inl z)⟩
  have notcell : ∀ v, oe.data ≠ .cell v := fun v z => by rw [gd] at z; exact nomatch z
  refine codeAny_call_function hr.depth (KX _ _ lk) rfl S.co S.gen rfl (PySem.W.codeRec_of KX hcd) (hb _ _ _ _ ?_)
  refine wpAny_newFunctionEnv_cells S.kind hkind fun env hv s1 y => ?_
  subst hv
  refine ⟨lim.keeps y.toInCall.keep, codeAny_func ?_⟩
  have I : Inv (cxE P w K mg base N x (defScope st) f cdv A outer s H E (a, oe)) [] (L2.start N [V.ref a]) H s1 := L2H.inv_startH S ⟨g1, g2, g3, notcell⟩ e0 rfl (.cons rfl .nil) y
  have pin : ∀ {b : Addr} {o : Obj}, s.heap.get? b = some o → H b = none → b ∉ frs outer → PinY (cxE P w K mg base N x (defScope st) f cdv A outer s H E (a, oe)) b o := fun {b o} e1 e2 e3 =>
    ⟨fun {_ _ _ _} J => ⟨J.base.keep b o e1 e2 e3 (fun z => nomatch z), J.base.free b o e1 e2 (fun z => nomatch z)⟩, fun m => by
      rcases List.mem_cons.mp (show b ∈ s.heap.objs.size :: frs outer from m) with z | z
      · exact absurd (Heap.lt_size e1) (by rw [z]; exact Nat.lt_irrefl _)
      · exact e3 z, Heap.lt_size e1, fun z => nomatch z⟩
  have Am : AmbH (cxE P w K mg base N x (defScope st) f cdv A outer s H E (a, oe)) := ⟨S.nd, ⟨a, oe, vs, hh, pin g1 g2 g3, gd, ctx.imp id fun ⟨x2, o2, ws, c1, c2, c3, c4, c5, c6⟩ => ⟨x2, o2, ws, c1, pin c2 c3 c4, c5, c6⟩⟩, .def_ rfl rfl, by have := hr.un; show A.units + 3 + 65 < _; omega⟩
  have run1 := (body cdv A outer s H E a oe i t ht hcl hdc ⟨vs, gd⟩ Am (pin g1 g2 g3)).run [] s1 (L2.start N [V.ref a]) H { nx := fun _ H' => Q .non H', rt := Q } I ⟨⟨H, fun _ => False, none⟩, startR N.length [tokD a], start_env (fun _ z => z.elim) tb (.cons .tok .nil), ?_⟩
  rotate_left
  · have pl := plain a i t ht
    unfold runS at pl
    cases hF : F a i (startR N.length [tokD a]) with
    | nx r' => rw [hF] at pl; exact nomatch pl
    | rt d r' =>
      rw [hF] at pl
      have e : d = .str t := R.ok.inj pl
      subst e
      intro v σ' H' E' rv
      cases rv
      exact q H' E'.same
    | bk r' => rw [hF] at pl; exact nomatch pl
    | ct r' => rw [hF] at pl; exact nomatch pl
    | xx j r' => rw [hF] at pl; exact nomatch pl
    | no => rw [hF] at pl; exact nomatch pl
  refine wpAny_mono run1 (fun fl s' hs => ?_) fun u s' hs => hs
  cases fl with
  | ret u =>
    obtain ⟨v, σ', H', J, rv, q⟩ := hs
    exact ⟨v, H', J.os, J.bare, J.base, J.hok, rv, q⟩
  | next =>
    obtain ⟨σ', H', J, q⟩ := hs
    exact ⟨.non, H', J.os, J.bare, J.base, J.hok, rfl, q⟩
  | brk => obtain ⟨_, _, _, q⟩ := hs; exact False.elim q
  | cont => obtain ⟨_, _, _, q⟩ := hs; exact False.elim q
/-! ### try: .. except X as n: return f(n) -/
structure ZFnE (P : Program) (w : World) (K : PySem.W.Frag) (mg : Str → Option Value) (base : Heap) (cm : Nat → Addr) (x : Str) (k : Nat) (ans : Nat → Option Str) : Prop where
  ex : ∃ (f : Addr) (fd : FuncData) (n : Str), mg x = some (.ref f) ∧ PySem.W.keepIn K (.ref f) = true ∧ Binds K fd [n] [] ∧ FnE P w K mg base cm k f fd n ans
def sTryE (i : Nat) (F : SF) (mt : Nat → Option Bool) (ans : Nat → Option Str) : SF := fun r => match F r with
  | .xx j r' => match mt j with
    | some true => (match ans j with
      | some t => if i < r'.length then .rt (.str t) (r'.set i .un) else .no
      | none => .no)
    | _ => .no
  | o => o
section
variable {X : Cx} {cm : Nat → Addr} {W : WX} {k j : Nat} {pos : Pos}
theorem zs_tryE (i : Nat) {x n y : Str} {body : List Stmt} {np pos' p p1 p2 p3 : Pos} {kc : Nat} {F : SF} {mt : Nat → Option Bool} {ans : Nat → Option Str} (A : AmbS2 X W k) (hx : X.mg x = some (.ref (cm kc))) (hm : ∀ i b, mt i = some b → PySem.W.exmOne X.K (.ref (cm i)) (.ref (cm kc)) = some b)
    (Y : ZFnE X.prog X.w X.K X.mg X.base cm y j ans) (hj : j ≤ k)
    (hb : ∀ (W' : WX) (pn : List (Addr × Obj)) (xe : Value → Shared → Prop), (∀ σ, PassesAt (CX2 X.prog X.w) (X.tr pn xe) σ (WE W' σ)) → AmbS (X.tr pn xe) W' k → ZSs (X.tr pn xe) cm W' body F)
    (hi : X.N[i]? = some n := by rfl) (hl : X.env.kindOf n = some .local := by rfl)
    (hst : X.stack = X.env :: X.outer := by rfl) (hf : X.env.frame = some X.env.locals := by rfl) (hg : Gl X x := by rfl) (hdb : (x == ("__debug__" : Str)) = false := by decide) (hgy : Gl X y := by rfl) (hdy : (y == ("__debug__" : Str)) = false := by decide)
    (hdn : (n == ("__debug__" : Str)) = false := by decide) (hcn : (n == ("__classdict__" : Str)) = false := by decide) (h1 : starEach (.Name n p1 :: []) X.env = (false, eval (.Name n p1) X.env) :: starEach [] X.env := by rfl) (hpl : (backTo p2 (starEach [] X.env)).any (·.1) = false := by rfl) :
    ZS X cm W (.Try body [.ExceptHandler (some (.Name x np)) (some n) [.Return (some (.Call (.Name y p) [.Name n p1] [] p2)) p3] pos'] [] [] pos) (sTryE i F mt ans) := by
  obtain ⟨fE, fdE, nE, m1, m2, m3, FE⟩ := Y.ex
  refine PS.imp (ps_try_as2 (i := i) (tb := fun W' => tS X.K cm W' F) (ts := fun a cls d => fun Dn σ H => σ[i]? = some (some (.ref a)) ∧ TabsK X.K H ∧ d = none ∧ ∃ j t, cls = .ref (cm j) ∧ ans j = some t ∧ ∀ H', Same H H' → Dn.rt (.str t) H') hst hf A.nd hi hl ⟨hg, hdb, .inl hx⟩
    (fun W' pn xe tk po => hb W' pn xe (fun σ => passAt2 tk σ) ⟨⟨A.calm, A.nd, takesF_of tk.n hf, A.tp.tr pn xe, A.hr, A.gd⟩, po, tk.n⟩) (fun a oe cls d pn ct => ?_)) fun Dn σ H ⟨C, r, E, q⟩ => ⟨C, r, E, ?_⟩
  · -- the suite
    have pe : PE (X.suite a pn) (.Call (.Name y p) [.Name n p1] [] p2) (fun σ H Q => σ[i]? = some (some (.ref a)) ∧ TabsK X.K H ∧ d = none ∧ ∃ j t, cls = .ref (cm j) ∧ ans j = some t ∧ ∀ H', Same H H' → Q (.str t) H') := ⟨fun pins s σ H Q I ⟨e1, tb, e2, j', t, e3, e4, q⟩ => by
      refine wpAny_Call_Name_kw (ld_glob I hgy m1 ?_ hdy)
      have arg : PA (X.suite a pn) [.Name n p1] (tCons (L2.tVar i) tNil) := pa_cons (pe_var hi (.inl hl) hdn hcn) pa_nil h1
      refine PySem.W.callWith_K (h₀ := X.base) I.ok.mod.kin m2 (thn (arg.run p2 pins s σ H (fun vs G => vs = [V.ref a] ∧ G = H) I ⟨_, e1, rfl, rfl⟩) fun us s1 ⟨vs, G, I1, rv, ev, eG⟩ => ⟨I1.kIn, ?_⟩) h1 hpl
      subst ev eG
      cases rv with
      | cons ru rn =>
        cases rn
        cases ru
        have P1 := I1.pin (a, oe) (List.mem_append_left _ ct.mem)
        have off : ∀ {b : Addr} {o : Obj}, (b, o) ∈ pn → b ∉ frs X.stack := fun {b o} m z => by
          obtain ⟨_, _, q3, q4, _⟩ := I1.pin (b, o) (List.mem_append_left _ m)
          exact (List.mem_cons.mp (I1.stkSub b z)).elim q3 q4
        obtain ⟨vs, dv, ctx⟩ := ct.ctx
        have ea : ErrAt s1.heap G X.stack a oe := ⟨P1.1, P1.2.1, off ct.mem, vs, dv, ctx.imp id fun ⟨x2, o2, ws, c1, c2, c3, c4⟩ => by
          have P2 := I1.pin (x2, o2) (List.mem_append_left _ c2)
          exact ⟨x2, o2, ws, c1, P2.1, P2.2.1, off c2, c3, c4⟩⟩
        have bd := m3 s1 [.ref a] I1.kIn rfl
        rw [List.append_nil] at bd
        have run1 := FE.run (A := (X.suite a pn).A) (E := fun _ _ _ => False) ⟨(A.hr.mono hj).dp, (A.hr.mono hj).un⟩ rfl ea (ct.cls.trans e3) (ct.dict.trans e2) e4 tb I1.env0 bd q
        refine wpAny_call (codeAny_mono run1 fun res s3 z => ?_)
        cases res with
        | error u => exact (show False from z).elim
        | ok fl =>
          cases fl with
          | ret u => exact I1.after z
          | next => exact (show False from z).elim
          | brk => exact (show False from z).elim
          | cont => exact (show False from z).elim⟩
    exact PSs.imp (pss_one (ps_ret pe)) fun Dn σ H z => z
  · unfold sTryE at q
    cases hF : F r with
    | xx j' r' =>
      rw [hF] at q
      intro σ' H' E'
      cases hmi : mt j' with
      | none => simp only [hmi] at q; exact (show False from q).elim
      | some b =>
        cases b with
        | false => simp only [hmi] at q; exact (show False from q).elim
        | true =>
          cases ha : ans j' with
          | none => simp only [hmi, ha] at q; exact (show False from q).elim
          | some t =>
            simp only [hmi, ha] at q
            by_cases hl2 : i < r'.length
            rotate_left
            · rw [if_neg hl2] at q
              exact (show False from q).elim
            rw [if_pos hl2] at q
            have il : i < σ'.length := by rw [← E'.len]; exact hl2
            exact ⟨hm j' true hmi, fun a na => ⟨List.getElem?_set_self il, E'.tb, rfl, j', t, rfl, ha, fun H2 s2 => q (.str t) (σ'.set i none) H2 ((E'.go s2).set_un) (.str t)⟩⟩
    | nx r' => rw [hF] at q; exact q
    | rt d r9 => rw [hF] at q; exact q
    | bk r' => rw [hF] at q; exact q
    | ct r' => rw [hF] at q; exact q
    | no => rw [hF] at q; exact q
end
end Z


set_option Elab.async false
set_option linter.all false
set_option maxRecDepth 100000
set_option maxHeartbeats 1000000
/-! The end of a law row, for a def that is run where nothing is under way; ts: the code objects whose tables are followed. -/
namespace Z
open PySem PySem.Spec PyProof.Rows L2
/-- the tracked heap at the start: the script (if it is no object of the written part), the tables -/
noncomputable def H00 (K : PySem.W.Frag) (a : Addr) (o : Obj) (ns : List Int) (ts : List (Addr × Addr)) : Hp := fun b =>
  if b = a ∧ K.lookup a = none then some (.frz o (.lst (ns.map V.int))) else if b ∈ ts.map (·.2) then some (.tbl #[]) else none
theorem law_callG {P : Program} {w : World} {K : PySem.W.Frag} {mg mb : Str → Option Value} {CX : CXT} {k : Nat} {fa a : Addr} {ts : List (Addr × Addr)} {fd : FuncData} {x : Str} {sp : Sp} {s1 : Shared} {vs : List Value} {ns : List Int}
    (KX : K.In s1.heap) (g1 : s1.heap.Ns mainGlobals mg) (g2 : s1.heap.Ns builtinsNs mb) (g3 : ∀ x : Str, x ≠ "__name__" → mb x = bootBuiltins x) (g4 : s1.heap.NoLimit) (g5 : s1.gens = #[])
    (t1 : ∀ p ∈ ts, s1.heap.get? p.2 = some { cls := .none, data := .fields #[] }) (t2 : ∀ p ∈ ts, K.lookup p.2 = none) (t3 : ∀ p ∈ ts, PySem.W.CodeHd s1.heap p.1 p.2)
    (t4 : ∃ (bm : Addr) (ob : Obj), mg "__builtins__" = some (.ref bm) ∧ bm ≠ builtinsNs ∧ s1.heap.get? bm = some ob ∧ ob.cls = .type "module" ∧ ob.dict = some builtinsNs ∧ ob.data = .plain)
    (ha : s1.heap.get? a = some { cls := .type "list", data := .seq vs.toArray }) (hi : IntsAre vs ns) (hl : ns.length ≤ sizeLine) (hr : Room k callerA)
    (F : ∀ base : Heap, K.In base → base.Ns mainGlobals mg → (∀ p ∈ ts, LamX.TabB base mg p.1 p.2) → FnG P w K mg base CX k fa fd [x] sp) (hb : ∀ (s : Shared) (u : Value), BindsTo s fd ⟨[u], []⟩ [(x, u)])
    (hsp : ∀ H : Hp, (∀ p ∈ ts, H p.2 = some (.tbl #[])) → SqL K H a (ns.map V.int) → sp [.ref a] H (fun v _ => v = .bl true) fun _ _ _ => False) (hCX : ∀ H e s', CX [] H s1 (fun _ _ _ => False) e s' → False) :
    codeAny (model P w) callerA (.call (.ref fa) ⟨[.ref a], []⟩) (fun r s' => r = .ok (.ret (.bool true)) ∧ OldK s1.heap s'.heap ∧ s'.os = s1.os ∧ AllBare s'.gens) s1 := by
  generalize eo : ({ cls := .type "list", data := .seq vs.toArray } : Obj) = oa at ha
  have tabOf : ∀ {b : Addr}, b ∈ ts.map (·.2) → ∃ p ∈ ts, p.2 = b := fun {b} m => by
    obtain ⟨p, hp, e⟩ := List.mem_map.mp m
    exact ⟨p, hp, e⟩
  have atT : ∀ {b : Addr}, b ∈ ts.map (·.2) → s1.heap.get? b = some { cls := .none, data := .fields #[] } := fun {b} m => by
    obtain ⟨p, hp, e⟩ := tabOf m
    rw [← e]
    exact t1 p hp
  have aT : a ∉ ts.map (·.2) := fun m => by
    have z := atT m
    rw [ha, ← eo] at z
    exact nomatch congrArg Obj.data (Option.some.inj z)
  have kind : ∀ {b : Addr} {u : HO}, H00 K a oa ns ts b = some u → (b = a ∧ K.lookup a = none ∧ u = .frz oa (.lst (ns.map V.int))) ∨ (b ∈ ts.map (·.2) ∧ u = .tbl #[]) := fun {b u} e => by
    unfold H00 at e
    split at e
    · rename_i z
      exact .inl ⟨z.1, z.2, (Option.some.inj e).symm⟩
    · split at e
      · rename_i z
        exact .inr ⟨z, (Option.some.inj e).symm⟩
      · cases e
  have tblAt : ∀ p ∈ ts, H00 K a oa ns ts p.2 = some (.tbl #[]) := fun p hp => by
    have m : p.2 ∈ ts.map (·.2) := List.mem_map.mpr ⟨p, hp, rfl⟩
    unfold H00
    rw [if_neg (show ¬ (p.2 = a ∧ K.lookup a = none) from fun z => aT (z.1 ▸ m)), if_pos m]
  have listAt : SqL K (H00 K a oa ns ts) a (ns.map V.int) := by
    cases hk : K.lookup a with
    | some o =>
      have e := KX a o hk
      rw [ha] at e
      cases e
      subst eo
      exact .inr ⟨_, vs.toArray, _, hk, rfl, rfl, rfl, by rw [List.size_toArray, hi.length]; exact hl, by simpa using vals_ints hi⟩
    | none => exact .inl (.inr ⟨oa, by unfold H00; exact if_pos ⟨rfl, hk⟩⟩)
  have hok : HOk P w (H00 K a oa ns ts) s1.heap := fun b u e => by
    rcases kind e with ⟨z, _, z2⟩ | ⟨z, z2⟩
    · subst z z2
      exact ⟨ha, by rw [List.length_map]; exact hl, vs, _, vals_ints hi, by rw [← eo] at ha; exact ha⟩
    · subst z2
      exact atT z
  have off : ∀ {b : Addr} {o : Obj}, s1.heap.get? b = some o → (∀ us n, o.data ≠ .seq us n) → o.data ≠ .fields #[] → H00 K a oa ns ts b = none := fun {b o} e d1 d2 => by
    cases q : H00 K a oa ns ts b with
    | none => rfl
    | some u =>
      rcases kind q with ⟨z, _, _⟩ | ⟨z, _⟩
      · subst z
        rw [ha] at e
        cases e
        exact (d1 vs.toArray _ (by rw [← eo])).elim
      · rw [atT z] at e
        cases e
        exact (d2 rfl).elim
  have hid : ∀ {b : Addr} {o : Obj}, s1.heap.get? b = some o → H00 K a oa ns ts b = none → (hidT s1.heap (H00 K a oa ns ts)).get? b = some o := fun e n => hidT_get e n
  have ns_ : ∀ {b : Addr} {m : Str → Option Value}, s1.heap.Ns b m → (hidT s1.heap (H00 K a oa ns ts)).Ns b m := fun {b m} ⟨o, es, ep, e, d, r⟩ => ⟨o, es, ep, hid e (off e (fun us n z => by rw [d] at z; exact nomatch z) fun z => by rw [d] at z; exact nomatch z), d, r⟩
  have kin : K.In (hidT s1.heap (H00 K a oa ns ts)) := fun b o e => hid (KX b o e) (by
    cases q : H00 K a oa ns ts b with
    | none => rfl
    | some u =>
      rcases kind q with ⟨z, z2, _⟩ | ⟨z, _⟩
      · rw [z, z2] at e; cases e
      · obtain ⟨p, hp, ep⟩ := tabOf z
        rw [← ep, t2 p hp] at e
        cases e)
  have hM : L2.Mod K mg (hidT s1.heap (H00 K a oa ns ts)) := ⟨kin, ns_ g1, ⟨mb, ns_ g2, g3⟩, by obtain ⟨mc, z1, z2⟩ := g4; exact ⟨mc, ns_ z1, z2⟩⟩
  have tabs : ∀ p ∈ ts, LamX.TabB (hidT s1.heap (H00 K a oa ns ts)) mg p.1 p.2 := fun p hp => by
    obtain ⟨gO, ge, gp, gE, gD, _⟩ := id g1
    refine ⟨?_, ?_, fun z => ?_⟩
    · obtain ⟨o, us, file, tf, fl, tg, inF, tx, tt, e1, q1, q2, q3, q4⟩ := t3 p hp
      refine ⟨o, us, file, tf, fl, tg, inF, tx, tt, hid e1 (off e1 (fun ws n z => by rw [q2] at z; exact nomatch z) fun z => ?_), q1, q2, q3, q4⟩
      rw [q2] at z
      have : us = #[] := Data.fields.inj z
      rw [this] at q3
      simp at q3
    · obtain ⟨bm, ob, b1, b2, b3, b4, b5, b6⟩ := t4
      refine ⟨bm, ob, b1, b2, fun z => ?_, fun z => ?_, hid b3 (off b3 (fun ws n z => by rw [b6] at z; exact nomatch z) fun z => by rw [b6] at z; exact nomatch z), b4, b5, b6⟩
      · rw [z, gE] at b3
        cases b3
        rw [gD] at b6
        exact nomatch b6
      · rw [z, t1 p hp] at b3
        cases b3
        exact nomatch b6
    · rw [z, t1 p hp] at gE
      cases gE
      exact nomatch gD
  have e0 : Env0 P w K mg (hidT s1.heap (H00 K a oa ns ts)) callerA [] s1 (H00 K a oa ns ts) := ⟨rfl, hM, fun b o e => of_hidT e, Nat.le_of_eq (hidT_size _ _), trivial, (fun b m => nomatch m), hok, AllBare.of_eq g5⟩
  refine codeAny_mono ((F _ kin (ns_ g1) tabs).run (us := [.ref a]) (vs := [.ref a]) hr rfl e0 (hb s1 (.ref a)) (.cons rfl .nil) (hsp _ tblAt listAt)) fun res s' z => ?_
  cases res with
  | error e => exact (hCX _ e s' z).elim
  | ok fl =>
    cases fl with
    | next => exact (show False from z).elim
    | brk => exact (show False from z).elim
    | cont => exact (show False from z).elim
    | ret u =>
      obtain ⟨v, H', os, bare, un, hok', rv, q⟩ := z
      have q : v = .bl true := q
      subst q
      have eu : u = Value.bool true := rv
      subst eu
      have stay : ∀ b o, b ∉ ts.map (·.2) → s1.heap.get? b = some o → s'.heap.get? b = some o := fun b o nb e => by
        cases q : H00 K a oa ns ts b with
        | none => exact un.keep b o e q (fun m => nomatch m) fun m => nomatch m
        | some u =>
          rcases kind q with ⟨z1, z2, z3⟩ | ⟨z1, _⟩
          · subst z3
            obtain ⟨f1, _⟩ := hok' b _ (un.frzs b _ _ q)
            rw [z1, ha] at e
            cases e
            rw [z1] at f1 ⊢
            exact f1
          · exact absurd z1 nb
      have grew : ∀ p ∈ ts, ∃ more : Array Value, s'.heap.get? p.2 = some { cls := .none, data := .fields more } := fun p hp => by
        obtain ⟨more, z⟩ := un.tbls p.2 #[] (tblAt p hp)
        exact ⟨_, hok' p.2 _ z⟩
      refine ⟨rfl, ⟨fun b o e => ?_, fun b o e => ?_⟩, os, bare⟩
      · by_cases m : b ∈ ts.map (·.2)
        · obtain ⟨p, hp, ep⟩ := tabOf m
          obtain ⟨more, z⟩ := grew p hp
          rw [← ep] at e ⊢
          rw [t1 p hp] at e
          cases e
          exact .inr (.inl ⟨((t3 p hp).tab (t1 p hp)).isCodeTable, rfl, #[], more, rfl, by rw [Array.empty_append]; exact z⟩)
        · exact .inl (stay b o m e)
      · by_cases m : b ∈ ts.map (·.2)
        · obtain ⟨p, hp, ep⟩ := tabOf m
          obtain ⟨more, z⟩ := grew p hp
          rw [← ep]
          exact ⟨_, z⟩
        · exact ⟨o, stay b o m e⟩
/-- what is known of the law's def at the head -/
def LawG (l : PySem.W.OpenLaw) (w : World) (K : PySem.W.Frag) (CX : CXT) (k n : Nat) (x : Str) (mg : Str → Option Value) (fa : Addr) (h : Heap) : Prop :=
  ∃ (fd : FuncData) (ts : List (Addr × Addr)) (sp : Sp), (∀ p ∈ ts, PySem.W.CodeHd h p.1 p.2 ∧ h.get? p.2 = some { cls := .none, data := .fields #[] } ∧ K.lookup p.2 = none) ∧ (∀ (s : Shared) (u : Value), BindsTo s fd ⟨[u], []⟩ [(x, u)]) ∧
    (∀ (H : Hp) (a : Addr) (ns : List Int), ns.length ≤ n → (∀ z ∈ ns, Builtin.Int.intBits z ≤ 1048576) → (∀ p ∈ ts, H p.2 = some (.tbl #[])) → SqL K H a (ns.map V.int) → sp [.ref a] H (fun v _ => v = .bl true) fun _ _ _ => False) ∧
    ∀ base : Heap, K.In base → base.Ns mainGlobals mg → (∀ p ∈ ts, LamX.TabB base mg p.1 p.2) → FnG l.prog w K mg base CX k fa fd [x] sp
theorem walk_G {l : PySem.W.OpenLaw} {n k : Nat} {q : Program} {loose : List Str} {XP : (Str → Option Value) → Heap → Prop} {YP : World → Heap → Prop} {d : DefRec} {K : Params → PySem.W.Frag} {CX : World → CXT} {x : Str}
    (hn : l.most = some n) (hn2 : n ≤ sizeLine) (hdf : d.params.defaults = []) (hr : Room k callerA) (hY : ∀ (w : World) (h : Heap), YP w h → (K w.params).In h)
    (F : ∀ (w : World) (mg mb : Str → Option Value) (fa : Addr) (s0 : Shared) (h : Heap), PySem.W.Ground q loose [] XP w s0 mg mb h → YP w h → (K w.params).In h → h.Ns mainGlobals mg → mg d.name = some (.ref fa) → LawG l w (K w.params) (CX w) k n x mg fa h)
    (hCX : ∀ (w : World) (H : Hp) (s : Shared) (e : Value) (s' : Shared), CX w [] H s (fun _ _ _ => False) e s' → False) :
    PySem.W.WalkO q loose XP YP l.row.toRowW d [] (fun f vs => PySem.call f vs) := by
  refine Att.attach_callB hn hdf fun w s0 s1 mg mb fa o pm cd doc a vs ns G Y ho hd hcd hmg hobj hints hlen hbits hg => ?_
  have KX := hY w _ Y
  obtain ⟨fd, ts, sp, hT, hb, hsp, hF⟩ := F w mg mb fa s0 _ G Y KX G.T.g hmg
  exact law_callG KX G.T.g G.T.b G.T.builtins G.T.nolimit hg (fun p hp => (hT p hp).2.1) (fun p hp => (hT p hp).2.2) (fun p hp => (hT p hp).1) G.T.bmain hobj hints (Nat.le_trans hlen hn2) hr hF hb (fun H z1 z2 => hsp H a ns hlen hbits z1 z2) fun H e s' => hCX w H s1 e s'
end Z


set_option Elab.async false
set_option linter.all false
set_option maxRecDepth 100000
set_option maxHeartbeats 1000000
/-! Tables of defs as values; a def that lets nothing out. -/
namespace Z
open PySem PySem.Spec PyProof.Rows L2
theorem tY_nil {P : Str → (List D → R D) → Prop} : ∀ y Gd, (y, Gd) ∈ ([] : List (Str × (List D → R D))) → P y Gd := fun _ _ m => nomatch m
theorem tY_cons {P : Str → (List D → R D) → Prop} {x : Str} {G : List D → R D} {l : List (Str × (List D → R D))} (h : P x G) (t : ∀ y Gd, (y, Gd) ∈ l → P y Gd) : ∀ y Gd, (y, Gd) ∈ (x, G) :: l → P y Gd := fun y Gd m => by
  rcases List.mem_cons.mp m with z | z
  · cases z
    exact h
  · exact t y Gd z
theorem globD_fn {K : PySem.W.Frag} {mg : Str → Option Value} {x : Str} {f : Addr} (h : mg x = some (.ref f)) (n : PySem.W.nsIn K mainGlobals x = some (some (.ref f))) (k : PySem.W.keepIn K (.ref f) = true) : GlobD K mg x (fnD x) := ⟨_, .ref f, h, rfl, fun _ _ => .fn n k⟩
theorem ZFn2.calm {P : Program} {w : World} {K : PySem.W.Frag} {mg : Str → Option Value} {base : Heap} {cm : Nat → Addr} {x : Str} {k : Nat} {Gd : List D → R D} (Y : ZFn2 P w K mg base cm x k Gd) (nx : ∀ ds j, Gd ds ≠ .ex j) : ZFn P w K mg base cm x k Gd := by
  obtain ⟨f, fd, ps, h1, h2, h3, h4⟩ := Y.ex
  refine ⟨f, fd, ps, h1, h2, h3, h4.len, fun {A outer s H args us vs Q E} hr hg e0 hb hv ⟨B, ds, nb, tb, rv, q⟩ => ?_⟩
  have calm : spZ K cm Gd vs H Q (fun _ _ _ => False) := ⟨B, ds, nb, tb, rv, by
    cases hG : Gd ds with
    | ok d => rw [hG] at q; exact q
    | ex j => exact (nx ds j hG).elim
    | no => rw [hG] at q; exact q⟩
  refine codeAny_mono (h4.run hr hg e0 hb hv calm) fun res s' z => ?_
  cases res with
  | error u =>
    obtain ⟨_, _, _, _, _, _, _, _, _, _, _, _, z⟩ := z
    exact z.elim
  | ok fl =>
    cases fl with
    | ret u => exact z
    | next => exact (show False from z).elim
    | brk => exact (show False from z).elim
    | cont => exact (show False from z).elim
theorem tryE_nx {i : Nat} {F : SF} {mt : Nat → Option Bool} {ans : Nat → Option Str} {n m : Nat} (ds : List D) (j : Nat) : runF n m (sTryE i F mt ans) ds ≠ .ex j := fun h => by
  unfold runF at h
  split at h
  · unfold runS sTryE at h
    cases hF : F (startR n ds) with
    | nx r' => rw [hF] at h; exact nomatch h
    | rt d r' => rw [hF] at h; exact nomatch h
    | bk r' => rw [hF] at h; exact nomatch h
    | ct r' => rw [hF] at h; exact nomatch h
    | no => rw [hF] at h; exact nomatch h
    | xx k r' =>
      rw [hF] at h
      cases hm : mt k with
      | none => simp only [hm] at h; exact nomatch h
      | some b =>
        cases b with
        | false => simp only [hm] at h; exact nomatch h
        | true =>
          cases ha : ans k with
          | none => simp only [hm, ha] at h; exact nomatch h
          | some t =>
            simp only [hm, ha] at h
            by_cases hl : i < r'.length
            · rw [if_pos hl] at h; exact nomatch h
            · rw [if_neg hl] at h; exact nomatch h
  · exact nomatch h
section
variable {X : Cx} {cm : Nat → Addr} {W : WX} {k : Nat} {e : Expr} {pos : Pos}
/-- the call of what an expression gives, where what flies may have a context -/
theorem ze_callE2 {fe : Expr} {ff : Rho → R D} {es : List Expr} {j : Nat} {tbl : List (Str × (List D → R D))} {fa : Rho → R (List D)} (px : ∀ σ, PassesAt (CX2 X.prog X.w) X σ (WE W σ)) (hf : ZE X cm W fe ff) (Y : ∀ y Gd, (y, Gd) ∈ tbl → ZFn2 X.prog X.w X.K X.mg X.base cm y j Gd) (A : Amb X W k) (hj : j ≤ k) (ha : ZA X cm W (e :: es) fa)
    (he : starEach (e :: es) X.env = (false, eval e X.env) :: starEach es X.env := by rfl) (hpl : (backTo pos (starEach es X.env)).any (·.1) = false := by rfl)
    (ht : eval (.Call fe (e :: es) [] pos) X.env = (do callWith pos (← eval fe X.env) [] (backTo pos (starEach (e :: es) X.env)) (backToKw pos (keywordEach [] X.env))) := by rfl) : ZE X cm W (.Call fe (e :: es) [] pos) (cCallE tbl ff fa) := by
  refine ⟨fun pins s σ H Q I ⟨C, r, E, q⟩ => ?_⟩
  have fst_ : tE X.K cm W ff σ H fun v H1 => ∃ f x Gd, v = .ref f ∧ PySem.W.nsIn X.K mainGlobals x = some (some (.ref f)) ∧ tbl.lookup x = some Gd ∧ tE X.K cm W (cCall Gd fa) σ H1 Q := ⟨C, r, E, pst_imp (pst_bind q) fun d q v H1 s1 rv => by
    have q : pst cm W σ H (match d with
      | .dict [(.str x, .none)] => (match tbl.lookup x with
        | some Gd => (fa r).bind Gd
        | none => .no)
      | _ => .no) fun d => ∀ v H', Same H H' → Rp X.K H' (BB C r σ) v d → Q v H' := q
    split at q
    rotate_left
    · exact (show False from q).elim
    rename_i y qq
    cases rv with
    | fn h1 h2 =>
      cases hx : tbl.lookup y with
      | none => rw [hx] at q; exact (show False from q).elim
      | some Gd =>
        rw [hx] at q
        exact ⟨_, y, Gd, rfl, h1, hx, C, r, E.go s1, pst_imp (pst_go q s1) fun d q v H2 s2 rd => q v H2 (s1.trans s2) rd⟩⟩
  rw [ht]
  refine wpAny_bind (thn (hf.run pins s σ H _ I fst_) fun u s1 ⟨v, H1, I1, ru, f, x, Gd, ev, h1, hx, q1⟩ => ?_)
  subst ev
  cases ru
  obtain ⟨f2, fd, ps, g1, g2, g3, g4⟩ := ((Y x Gd (lookup_mem hx)).up hj).ex
  have ef : f2 = f := by
    have z := PySem.W.mg_of I1.ok.mod.kin I1.ok.mod.glob h1
    rw [g1] at z
    exact Value.ref.inj (Option.some.inj z)
  subst ef
  have q2 : tCallS (spZ X.K cm Gd) (WE W) (tA X.K cm W fa) σ H1 Q := call_reads σ H1 Q q1
  exact PySem.W.callWith_K (h₀ := X.base) I1.ok.mod.kin g2 (thn (ha.run pos pins s1 σ H1 _ I1 q2) fun us s2 ⟨vs, G2, I2, rus, q3⟩ => ⟨I2.kIn, run_fnG g4 A.hr A.gd g3 (px σ) I2 rus q3⟩) he hpl
end
end Z
namespace Z
theorem isED_at (a : PySem.Addr) (b : Bool) : isED a b (tokD a) = .ok (PySem.PyData.bool b) := by
  show (if ((a : Nat) : Int) = (a : Nat) then R.ok (PySem.PyData.bool b) else .no) = _
  rw [if_pos rfl]
theorem LamOk.up {P : PySem.Program} {w : PySem.World} {K : PySem.W.Frag} {mg : PySem.Str → Option PySem.Value} {base : PySem.Heap} {cm : Nat → PySem.Addr} {i j : Nat} {Gl : List D → R D} (L : LamOk P w K mg base cm i Gl) (h : i ≤ j) : LamOk P w K mg base cm j Gl := ⟨fun la hr => L.run la (hr.mono h)⟩
end Z
namespace Z
theorem seq_lst {i : Nat} {f : Rho → R (List D)} {G : SF} {r : Rho} {ds : List D} (h : f r = .ok ds) (hz : ds.length ≤ PySem.sizeLine) : sSeq (sSet i (cL (cLst f))) G r = G (r.set i (.sh (.list ds))) := by
  have e : cL (cLst f) r = .ok (.list ds) := by
    unfold cL cLst
    show ((f r).bind fun ds => sizeD ds).bind _ = _
    rw [h]
    show (sizeD ds).bind _ = _
    unfold sizeD
    rw [if_pos hz]
    rfl
  unfold sSeq sSet
  show (match onE (cL (cLst f) r) r fun d => Out.nx (r.set i (.sh d)) with
    | .nx r' => G r'
    | o => o) = _
  rw [e]
  rfl
theorem cons_ok {f : Rho → R D} {g : Rho → R (List D)} {r : Rho} {d : D} {ds : List D} (h1 : f r = .ok d) (h2 : g r = .ok ds) : cCons f g r = .ok (d :: ds) := by
  unfold cCons
  rw [h1]
  show (g r).bind _ = _
  rw [h2]
  rfl
end Z
namespace Z
open PySem PySem.Spec PyProof.Rows L2
/-- the ints of a written tuple -/
def intVals : List Value → Option (List Int)
  | [] => some []
  | .int x _ :: r => (intVals r).map (x :: ·)
  | _ :: _ => none
theorem intVals_ok : ∀ {us : List Value} {xs : List Int}, intVals us = some xs → Vals (xs.map V.int) us
  | [], xs, h => by
    have e : xs = [] := (Option.some.inj h).symm
    subst e
    exact .nil
  | .int x t :: r, xs, h => by
    have h' : (intVals r).map (x :: ·) = some xs := h
    cases e : intVals r with
    | none => rw [e] at h'; cases h'
    | some ys =>
      rw [e] at h'
      have e2 : xs = x :: ys := (Option.some.inj h').symm
      subst e2
      exact .cons ⟨t, rfl⟩ (intVals_ok e)
  | .none :: _, _, h => nomatch h
  | .bool _ :: _, _, h => nomatch h
  | .str _ _ :: _, _, h => nomatch h
  | .ref _ :: _, _, h => nomatch h
  | .type _ :: _, _, h => nomatch h
theorem globD_ints {K : PySem.W.Frag} {mg : Str → Option Value} {x : Str} {a : Addr} {dd : Option Addr} {its : Array Value} {n : Nat} {sl : Array (Option Value)} {ys : List Int} (h : mg x = some (.ref a)) (hk : K.lookup a = some ⟨.type "tuple", dd, .seq its n, sl⟩)
    (hv : intVals its.toList = some ys) (hz : ys.length ≤ 1000) : GlobD K mg x (.tuple (ys.map .int)) := by
  have r := intVals_ok hv
  have l := r.length
  rw [List.length_map] at l
  exact ⟨_, .ref a, h, rfl, fun _ _ => .tup (.inr ⟨_, its, n, hk, rfl, rfl, by have := small1000 hz; have := Array.length_toList (xs := its); omega, r⟩) (RpAll.ints _)⟩
/-! ### the law's promise -/
def spLaw (K : PySem.W.Frag) : Sp := fun vs H Q _ => ∃ (a : Addr) (ns : List Int), vs = [.ref a] ∧ SqL K H a (ns.map V.int) ∧ ns.length ≤ 63 ∧ (∀ z ∈ ns, Builtin.Int.intBits z ≤ 1048576) ∧ TabsK K H ∧ ∀ H', Q (.bl true) H'
theorem spLaw_to {K : PySem.W.Frag} {cm : Nat → Addr} {G : List D → R D} (hl : ∀ ns : List Int, ns.length ≤ 63 → (∀ z ∈ ns, Builtin.Int.intBits z ≤ 1048576) → G [.list (ns.map PyData.int)] = .ok (.bool true)) : ∀ vs H Q E, spLaw K vs H Q E → spZ K cm G vs H Q E := by
  rintro vs H Q E ⟨a, ns, rfl, hs, hn, hz, tb, hQ⟩
  refine ⟨fun _ => False, [.list (ns.map PyData.int)], (fun _ z => z.elim), tb, .cons (.lst (hs.elim (fun z => .inl ⟨z, id⟩) .inr) (RpAll.ints ns)) .nil, ?_⟩
  rw [hl ns hn hz]
  intro v H1 _ r
  cases r
  exact hQ H1
theorem tabsK_start {K : PySem.W.Frag} {H : Hp} {c P : Addr} (e : PySem.W.tabIn K lamDef = some (c, P)) (h : H P = some (.tbl #[])) : TabsK K H := fun c1 P1 e1 => by
  rw [e] at e1
  cases e1
  exact LamX.TabS.nil h
end Z


set_option Elab.async false
set_option linter.all false
set_option maxRecDepth 100000
set_option maxHeartbeats 4000000
namespace Z
open PySem PySem.Spec PyProof.Rows L2

/-! ### lines of words -/
abbrev sepS : Str := Str.ofString " "
theorem tl_sp : TL.tl sepS = [32] := by decide +kernel
def line (ws : List Str) : Str := Txt.join sepS ws
def Wd (w : Str) : Prop := 32 ∉ TL.tl w ∧ w.length ≤ 100 ∧ (TL.tl w).all (· < 1114112) = true
instance (w : Str) : Decidable (Wd w) := inferInstanceAs (Decidable (_ ∧ _ ∧ _))
theorem tl_line (ws : List Str) : TL.tl (line ws) = TL.joinL [32] (ws.map TL.tl) := by
  unfold line
  rw [TL.join_eq, TL.tl_join, tl_sp]
theorem joinL_append {S : List Nat} : ∀ {ws us : List (List Nat)}, ws ≠ [] → us ≠ [] → TL.joinL S (ws ++ us) = TL.joinL S ws ++ (S ++ TL.joinL S us)
  | [], _, h, _ => absurd rfl h
  | [p], [], _, h => absurd rfl h
  | [p], q :: r, _, _ => rfl
  | p :: q :: r, us, _, h => by
    show p ++ (S ++ TL.joinL S (q :: r ++ us)) = p ++ (S ++ TL.joinL S (q :: r)) ++ (S ++ TL.joinL S us)
    rw [joinL_append (ws := q :: r) (by simp) h]
    simp only [List.append_assoc]
theorem line_append {ws us : List Str} (h1 : ws ≠ []) (h2 : us ≠ []) : line (ws ++ us) = line ws ++ (sepS ++ line us) := by
  apply TL.ext_tl
  rw [tl_line, TL.tl_append, TL.tl_append, tl_line, tl_line, tl_sp, List.map_append, joinL_append (by simpa using h1) (by simpa using h2)]
theorem line_one (w : Str) : line [w] = w := by
  apply TL.ext_tl
  rw [tl_line]
  rfl
theorem line_cons {w : Str} {us : List Str} (h : us ≠ []) : line (w :: us) = w ++ (sepS ++ line us) := by
  have := line_append (ws := [w]) (us := us) (by simp) h
  rw [line_one] at this
  exact this
theorem split_line {ws : List Str} (h : ws ≠ []) (hw : ∀ w ∈ ws, Wd w) : Txt.split (line ws) sepS = ws :=
  TL.split_join tl_sp (by decide +kernel) h fun w m => (hw w m).1
theorem line_len : ∀ {ws : List Str}, (∀ w ∈ ws, Wd w) → (line ws).length ≤ 101 * ws.length := by
  intro ws hw
  have h1 : (line ws).length ≤ (ws.map (·.length)).sum + ws.length * sepS.length := by
    unfold line
    rw [TL.join_eq]
    exact StrLaws.join_length_le sepS ws
  have h2 : sepS.length = 1 := by decide +kernel
  rw [h2] at h1
  have h3 : ∀ {us : List Str}, (∀ w ∈ us, Wd w) → (us.map (·.length)).sum ≤ 100 * us.length := by
    intro us
    induction us with
    | nil => intro _; simp
    | cons u us ih =>
      intro hu
      have a := (hu u (List.mem_cons_self ..)).2.1
      have b := ih fun w m => hu w (List.mem_cons_of_mem _ m)
      simp only [List.map_cons, List.sum_cons, List.length_cons]
      omega
  have := h3 hw
  omega
theorem join_ok {ws : List Str} (hw : ∀ w ∈ ws, Wd w) (hn : ws.length ≤ 1000) : joinW sepS ws = .ok (.str (line ws)) := by
  unfold joinW
  have h2 : sepS.length = 1 := by decide +kernel
  have h3 : ∀ {us : List Str}, (∀ w ∈ us, Wd w) → (us.map (·.length)).sum ≤ 100 * us.length := by
    intro us
    induction us with
    | nil => intro _; simp
    | cons u us ih =>
      intro hu
      have a := (hu u (List.mem_cons_self ..)).2.1
      have b := ih fun w m => hu w (List.mem_cons_of_mem _ m)
      simp only [List.map_cons, List.sum_cons, List.length_cons]
      omega
  have := h3 hw
  rw [h2, if_pos (by omega)]
  rfl
theorem split_ok {ws : List Str} (h : ws ≠ []) (hw : ∀ w ∈ ws, Wd w) (hn : ws.length ≤ 1000) : splitD (line ws) (.str sepS) = .ok (ws.map .str) := by
  have := line_len hw
  have h2 : (sepS.length == 0) = false := by decide +kernel
  show (if (sepS.length == 0) = false ∧ (line ws).length + 2 ≤ sizeLine then R.ok ((Txt.split (line ws) sepS).map PyData.str) else .no) = _
  rw [if_pos ⟨h2, by have : sizeLine = 16777216 := rfl; omega⟩, split_line h hw]
/-! ### cuts -/
theorem tl_cut (z : Str) (lo hi : Option Int) : TL.tl (cutS z lo hi) = ((TL.tl z).drop (HT.sIx z.length 0 lo)).take (HT.sIx z.length z.length hi - HT.sIx z.length 0 lo) := rfl
theorem cut_from (a b : Str) : cutS (a ++ b) (some (a.length : Int)) none = b := by
  apply TL.ext_tl
  rw [tl_cut, HT.sIx_nat, HT.sIx_none, TL.tl_append, Str.length_append]
  have e : min a.length (a.length + b.length) = a.length := by omega
  rw [e]
  have e2 : (TL.tl a ++ TL.tl b).drop a.length = TL.tl b := by
    rw [TL.len_tl a]; exact List.drop_left
  rw [e2]
  exact List.take_of_length_le (by rw [← TL.len_tl]; omega)
theorem cut_from' {a b : Str} {n : Int} (h : n = (a.length : Int)) : cutS (a ++ b) (some n) none = b := by rw [h]; exact cut_from a b
theorem cut_to' {a b : Str} {n : Int} (h : n = (a.length : Int)) : cutS (a ++ b) none (some n) = a := by
  subst h
  apply TL.ext_tl
  rw [tl_cut, HT.sIx_nat, HT.sIx_none, TL.tl_append, Str.length_append]
  have e : min a.length (a.length + b.length) - 0 = a.length := by omega
  rw [e, List.drop_zero, TL.len_tl a]
  exact List.take_left
/-! ### split with a limit -/
theorem partsFrom_take (x y : Str) : ∀ (k : Nat) (cuts : List Nat) (a f : Nat), StrLaws.ChainTo x y x.length a cuts f → k ≤ cuts.length →
    StrLaws.partsFrom x y.length a (cuts.take k) = (StrLaws.partsFrom x y.length a cuts).take k ++ [Str.join y ((StrLaws.partsFrom x y.length a cuts).drop k)]
  | 0, cuts, a, f, h, _ => by
    rw [List.take_zero, List.take_zero, List.drop_zero, StrLaws.join_partsFrom x y cuts a f h]
    rfl
  | k + 1, [], a, f, h, hk => by simp at hk
  | k + 1, c :: r, a, f, h, hk => by
    have ih := partsFrom_take x y k r (c + y.length) f h.2.2 (by simpa using hk)
    show _ :: StrLaws.partsFrom x y.length (c + y.length) (r.take k) = _
    rw [ih]
    rfl
theorem occ_stop (x y : Str) (hi limit : Nat) : ∀ (l : List Nat) (A : Array Nat) (f : Nat), limit ≤ A.size → (forIn l (A, f) (StrLaws.occBody x y hi limit)).run.fst = A
  | [], _, _, _ => rfl
  | a :: l, A, f, h => by
    rw [List.forIn_cons]
    unfold StrLaws.occBody
    rw [if_neg (by intro q; have := q.1.1.1; simp at this; omega)]
    exact occ_stop x y hi limit l A f h
theorem occ_pre (x y : Str) (hi limit : Nat) : ∀ (l : List Nat) (A : Array Nat) (f : Nat), ∃ B : List Nat, (forIn l (A, f) (StrLaws.occBody x y hi limit)).run.fst.toList = A.toList ++ B
  | [], A, _ => ⟨[], by simp⟩
  | a :: l, A, f => by
    rw [List.forIn_cons]
    unfold StrLaws.occBody
    by_cases c : ((A.size < limit ∧ f ≤ a) ∧ a + y.length ≤ hi) ∧ Builtin.Str.subAt x y a = true
    · rw [if_pos c]
      obtain ⟨B, hB⟩ := occ_pre x y hi limit l (A.push a) (a + y.length)
      refine ⟨a :: B, hB.trans ?_⟩
      simp
    · rw [if_neg c]
      exact occ_pre x y hi limit l A f
theorem occ_take (x y : Str) (hi k n : Nat) (hkn : k ≤ n) : ∀ (l : List Nat) (A : Array Nat) (f : Nat), A.size ≤ k →
    (forIn l (A, f) (StrLaws.occBody x y hi k)).run.fst.toList = (forIn l (A, f) (StrLaws.occBody x y hi n)).run.fst.toList.take k
  | [], A, f, h => by
    show A.toList = A.toList.take k
    rw [List.take_of_length_le (by simpa using h)]
  | a :: l, A, f, h => by
    by_cases hs : k ≤ A.size
    · rw [occ_stop x y hi k _ A f hs]
      obtain ⟨B, hB⟩ := occ_pre x y hi n (a :: l) A f
      rw [hB]
      have : A.toList.length = k := by simp; omega
      rw [← this, List.take_left]
    · rw [List.forIn_cons, List.forIn_cons]
      unfold StrLaws.occBody
      by_cases c : (f ≤ a ∧ a + y.length ≤ hi) ∧ Builtin.Str.subAt x y a = true
      · have c1 : ((A.size < k ∧ f ≤ a) ∧ a + y.length ≤ hi) ∧ Builtin.Str.subAt x y a = true := ⟨⟨⟨by omega, c.1.1⟩, c.1.2⟩, c.2⟩
        have c2 : ((A.size < n ∧ f ≤ a) ∧ a + y.length ≤ hi) ∧ Builtin.Str.subAt x y a = true := ⟨⟨⟨by omega, c.1.1⟩, c.1.2⟩, c.2⟩
        rw [if_pos c1, if_pos c2]
        exact occ_take x y hi k n hkn l (A.push a) (a + y.length) (by simp; omega)
      · have c1 : ¬ (((A.size < k ∧ f ≤ a) ∧ a + y.length ≤ hi) ∧ Builtin.Str.subAt x y a = true) := fun q => c ⟨⟨q.1.1.2, q.1.2⟩, q.2⟩
        have c2 : ¬ (((A.size < n ∧ f ≤ a) ∧ a + y.length ≤ hi) ∧ Builtin.Str.subAt x y a = true) := fun q => c ⟨⟨q.1.1.2, q.1.2⟩, q.2⟩
        rw [if_neg c1, if_neg c2]
        exact occ_take x y hi k n hkn l A f h
theorem occ_limit (x y : Str) (k n : Nat) (h : k ≤ n) : Builtin.Str.occurrences x y 0 x.length k = (Builtin.Str.occurrences x y 0 x.length n).take k := by
  rw [StrLaws.occ_eq, StrLaws.occ_eq]
  exact occ_take x y x.length k n h _ #[] 0 (Nat.zero_le _)
theorem partsFrom_length (x : Str) (w : Nat) : ∀ (cuts : List Nat) (a : Nat), (StrLaws.partsFrom x w a cuts).length = cuts.length + 1
  | [], _ => rfl
  | c :: r, a => by
    show (StrLaws.partsFrom x w (c + w) r).length + 1 = _
    rw [partsFrom_length x w r]
    rfl
/-- x.split(y, k) where there are more than k cuts -/
theorem splitMax_of (x y : Str) (k : Nat) (hk : 1 ≤ k) (h : k < (Txt.split x y).length) : Txt.splitMax x y (k : Int) = (Txt.split x y).take k ++ [Str.join y ((Txt.split x y).drop k)] := by
  unfold Txt.split at h ⊢
  unfold Txt.splitMax
  by_cases c : (decide (x.length < y.length) || decide (Builtin.Str.strKind x < Builtin.Str.strKind y)) = true
  · rw [if_pos c] at h
    simp at h
    omega
  · rw [if_neg c] at h ⊢
    rw [if_neg c]
    by_cases e : (Builtin.Str.occurrences x y 0 x.length (x.length + 1)).isEmpty = true
    · rw [if_pos e] at h
      simp at h
      omega
    · rw [if_neg e] at h ⊢
      rw [StrLaws.partsBetween_eq] at h ⊢
      rw [partsFrom_length] at h
      have hlim : limitOf x (k : Int) = k := by
        unfold limitOf
        rw [if_neg (by omega)]
        simp
      have hle : k ≤ x.length + 1 := by
        have := StrLaws.occ_length_le x y 0 x.length (x.length + 1)
        omega
      rw [hlim, occ_limit x y k (x.length + 1) hle]
      have hne : ((Builtin.Str.occurrences x y 0 x.length (x.length + 1)).take k).isEmpty = false := by
        cases ho : Builtin.Str.occurrences x y 0 x.length (x.length + 1) with
        | nil => rw [ho] at e; exact absurd rfl e
        | cons a r =>
          obtain ⟨j, rfl⟩ : ∃ j, k = j + 1 := ⟨k - 1, by omega⟩
          rfl
      rw [if_neg (by rw [hne]; exact Bool.false_ne_true), StrLaws.partsBetween_eq]
      obtain ⟨f, hc⟩ := StrLaws.occ_chain x y (x.length + 1)
      exact partsFrom_take x y k _ 0 f hc (by omega)
theorem splitMax_ok {a b : Str} {us : List Str} (hu : us ≠ []) (hw : ∀ w ∈ a :: b :: us, Wd w) (hn : us.length ≤ 900) : splitMaxD (line (a :: b :: us)) (.str sepS) (.int 2) = .ok [.str a, .str b, .str (line us)] := by
  have l := line_len hw
  have h2 : (sepS.length == 0) = false := by decide +kernel
  have hs : Txt.split (line (a :: b :: us)) sepS = a :: b :: us := split_line (by simp) hw
  have hlen : 2 < (Txt.split (line (a :: b :: us)) sepS).length := by
    rw [hs]
    cases us with
    | nil => exact absurd rfl hu
    | cons c r => simp only [List.length_cons]; omega
  have key := splitMax_of (line (a :: b :: us)) sepS 2 (by decide) hlen
  rw [hs] at key
  show (if (sepS.length == 0) = false ∧ -(2 ^ 63) ≤ (2 : Int) ∧ (2 : Int) < 2 ^ 63 ∧ (line (a :: b :: us)).length + 2 ≤ sizeLine then R.ok ((Txt.splitMax (line (a :: b :: us)) sepS 2).map PyData.str) else .no) = _
  rw [if_pos ⟨h2, by decide, by decide, by have : sizeLine = 16777216 := rfl; simp only [List.length_cons] at l; omega⟩]
  have k2 : Txt.splitMax (line (a :: b :: us)) sepS 2 = [a, b, line us] := by
    refine key.trans ?_
    show [a, b] ++ [Str.join sepS us] = _
    unfold line
    rw [TL.join_eq]
    rfl
  rw [k2]
  rfl
/-! ### numbers -/
abbrev numS (n : Nat) : Str := Str.ofString (toString ((n : Nat) : Int))
theorem log2_small {n : Nat} (h : n < 2 ^ 64) : n.log2 < 1920 := by
  by_cases e : n = 0
  · subst e; decide
  · exact Nat.lt_trans ((Nat.log2_lt e).mpr h) (by decide : 64 < 1920)
theorem strD_num {n : Nat} (h : n < 2 ^ 64) : strD (.int (n : Int)) = .ok (.str (numS n)) := by
  show (if ((n : Nat) : Int).natAbs.log2 < 1920 then R.ok (PyData.str (numS n)) else .no) = _
  rw [if_pos (by rw [Int.natAbs_natCast]; exact log2_small h)]
theorem wd_num {n : Nat} (h : n < 1000) : Wd (numS n) := by
  refine ⟨?_, ?_, ?_⟩
  · rw [TL.tl_num]; exact TL.numL_free (.inl (by decide))
  · rw [TL.len_tl, TL.tl_num]
    exact Nat.le_trans (TL.numL_len (k := 3) (by decide) (by omega)) (by decide)
  · rw [TL.tl_num, List.all_eq_true]
    intro c hc
    have := TL.numL_digits n c hc
    simp
    omega
/-! ### equality of data -/
theorem line_cps : ∀ {ws : List Str}, (∀ w ∈ ws, Wd w) → (TL.tl (line ws)).all (· < 1114112) = true := by
  intro ws hw
  rw [tl_line]
  induction ws with
  | nil => rfl
  | cons w us ih =>
    have a := (hw w (List.mem_cons_self ..)).2.2
    have b := ih fun w m => hw w (List.mem_cons_of_mem _ m)
    cases us with
    | nil => exact a
    | cons u r =>
      show (TL.tl w ++ ([32] ++ TL.joinL [32] ((u :: r).map TL.tl))).all (· < 1114112) = true
      rw [List.all_append, a, List.all_append, b]
      rfl
theorem line_strOk {ws : List Str} (hw : ∀ w ∈ ws, Wd w) : PyData.strOk (line ws) = true := by
  have := line_cps hw
  unfold PyData.strOk
  rw [← Array.all_toList]
  exact this
theorem lay_str {x : Str} (h : PyData.strOk x = true) : SeqAt.shaped (.str x) = true := by
  unfold SeqAt.shaped
  simp [PyData.canLay0, PyData.depth, h]
theorem eqD_str {x y : Str} (hx : PyData.strOk x = true) (hy : PyData.strOk y = true) : eqD (.str x) (.str y) = .ok (x == y) := by
  unfold eqD
  rw [lay_str hx, lay_str hy]
  simp [PyData.eqv]
theorem neD_str {x y : Str} (hx : PyData.strOk x = true) (hy : PyData.strOk y = true) : neD (.str x) (.str y) = .ok (x != y) := by
  unfold neD
  rw [lay_str hx, lay_str hy]
  simp [PyData.eqv, bne]
mutual
theorem eqv_self : ∀ d : D, d.canLay0 = true → PyData.eqv d d = true
  | .none, _ => by simp [PyData.eqv]
  | .bool _, _ => by simp [PyData.eqv]
  | .int _, _ => by simp [PyData.eqv]
  | .str _, _ => by simp [PyData.eqv]
  | .list xs, h => by
    simp only [PyData.eqv]
    exact eqvAll_self xs (by simpa [PyData.canLay0] using h)
  | .tuple xs, h => by
    simp only [PyData.eqv]
    exact eqvAll_self xs (by simpa [PyData.canLay0] using h)
  | .dict _, h => by simp [PyData.canLay0] at h
theorem eqvAll_self : ∀ ds : List D, PyData.canLayAll0 ds = true → PyData.eqvAll ds ds = true
  | [], _ => by simp [PyData.eqvAll]
  | d :: ds, h => by
    simp only [PyData.canLayAll0, Bool.and_eq_true] at h
    simp only [PyData.eqvAll, eqv_self d h.1, eqvAll_self ds h.2, Bool.and_self]
end
theorem neD_self {d : D} (h : SeqAt.shaped d = true) : neD d d = .ok false := by
  unfold neD
  rw [h, eqv_self d (SeqAt.canLay_of_shaped h)]
  rfl
theorem eqD_self {d : D} (h : SeqAt.shaped d = true) : eqD d d = .ok true := by
  unfold eqD
  rw [h, eqv_self d (SeqAt.canLay_of_shaped h)]
  rfl
end Z


set_option Elab.async false
set_option linter.all false
set_option maxRecDepth 100000
set_option maxHeartbeats 4000000
namespace Z
open PySem PySem.Spec PyProof.Rows L2

/-! ### evaluation, rule by rule -/
section
variable {r r' : Rho} {F G : SF} {o : Out} {d x y z : D} {f g h : Rho → R D} {ds es : List D} {fa ga : Rho → R (List D)} {i m n : Nat} {b c : Bool} {t u : Rho → R Bool}
theorem ev_run (hl : ds.length = m) (h : F (startR n ds) = .rt d r') : runF n m F ds = .ok d := by
  unfold runF runS
  rw [if_pos hl, h]
theorem ev_seq (h1 : F r = .nx r') (h2 : G r' = o) : sSeq F G r = o := by unfold sSeq; rw [h1]; exact h2
theorem ev_seqr (h1 : F r = .rt d r') : sSeq F G r = .rt d r' := by unfold sSeq; rw [h1]
theorem ev_set (h : f r = .ok d) : sSet i f r = .nx (r.set i (.sh d)) := by unfold sSet onE; rw [h]
theorem ev_own (h : fa r = .ok ds) (hl : i < r.length) (h0 : i ≠ 0 := by decide) : sOwn i fa r = .nx (r.set i (.ow ds)) := by unfold sOwn onE; rw [h]; exact if_pos ⟨hl, h0⟩
theorem ev_ret (h : f r = .ok d) : sRet f r = .rt d r := by unfold sRet onE; rw [h]
theorem ev_ift (h : t r = .ok true) (h1 : F r = o) : sIf t F G r = o := by unfold sIf onE; rw [h]; exact h1
theorem ev_iff (h : t r = .ok false) (h1 : G r = o) : sIf t F G r = o := by unfold sIf onE; rw [h]; exact h1
theorem ev_asg {A : D → Rho → Option Rho} (h : f r = .ok d) (h1 : A d r = some r') : sAsg A f r = .nx r' := by unfold sAsg onE; rw [h]; simp only []; rw [h1]
theorem ev_app (h : r[i]? = some (.ow ds)) (h1 : f r = .ok d) (hl : ds.length < sizeLine) : sApp i f r = .nx (r.set i (.ow (ds ++ [d]))) := by unfold sApp onE; rw [h]; simp only []; rw [h1]; exact if_pos hl
theorem ev_b1 {O : D → R D} (h1 : f r = .ok x) (h2 : O x = .ok y) : cB1 O f r = .ok y := by unfold cB1; rw [h1]; exact h2
theorem ev_b2 {O : D → D → R D} (h1 : f r = .ok x) (h2 : g r = .ok y) (h3 : O x y = .ok z) : cB2 O f g r = .ok z := by unfold cB2; rw [h1]; show (g r).bind _ = _; rw [h2]; exact h3
theorem ev_t1 {O : D → R Bool} (h1 : f r = .ok x) (h2 : O x = .ok b) : cT1 O f r = .ok b := by unfold cT1; rw [h1]; exact h2
theorem ev_t2 {O : D → D → R Bool} (h1 : f r = .ok x) (h2 : g r = .ok y) (h3 : O x y = .ok b) : cT2 O f g r = .ok b := by unfold cT2; rw [h1]; show (g r).bind _ = _; rw [h2]; exact h3
theorem ev_not (h : t r = .ok b) : cNot t r = .ok (!b) := by unfold cNot; rw [h]; rfl
theorem ev_ort (h : t r = .ok true) : cOr t u r = .ok true := by unfold cOr; rw [h]; rfl
theorem ev_orf (h : t r = .ok false) (h2 : u r = .ok b) : cOr t u r = .ok b := by unfold cOr; rw [h]; exact h2
theorem ev_bl (h : t r = .ok b) : cBl t r = .ok (.bool b) := by unfold cBl; rw [h]; rfl
theorem ev_andV (h : f r = .ok (.bool true)) (h2 : g r = .ok d) : cAndV f g r = .ok d := by unfold cAndV; rw [h]; exact h2
theorem ev_l (h : fa r = .ok ds) : cL fa r = .ok (.list ds) := by unfold cL; rw [h]; rfl
theorem ev_cons (h1 : f r = .ok x) (h2 : fa r = .ok ds) : cCons f fa r = .ok (x :: ds) := by unfold cCons; rw [h1]; show (fa r).bind _ = _; rw [h2]; rfl
theorem ev_star (h1 : f r = .ok x) (hs : starD x = .ok es) (h2 : fa r = .ok ds) : cStar f fa r = .ok (es ++ ds) := by unfold cStar; rw [h1]; show (starD x).bind _ = _; rw [hs]; show (fa r).bind _ = _; rw [h2]; rfl
theorem ev_tup (h : fa r = .ok ds) (hl : ds.length ≤ sizeLine) : cTup fa r = .ok (.tuple ds) := by unfold cTup; rw [h]; show (sizeD ds).bind _ = _; unfold sizeD; rw [if_pos hl]; rfl
theorem ev_lst (h : fa r = .ok ds) (hl : ds.length ≤ sizeLine) : cLst fa r = .ok ds := by unfold cLst; rw [h]; show sizeD ds = _; unfold sizeD; rw [if_pos hl]
theorem ev_call {Gd : List D → R D} (h : fa r = .ok ds) (h2 : Gd ds = .ok d) : cCall Gd fa r = .ok d := by unfold cCall; rw [h]; exact h2
theorem ev_m1 {O : Str → D → R D} {a : Str} (h1 : f r = .ok (.str a)) (h2 : g r = .ok y) (h3 : O a y = .ok z) : cM1 O f g r = .ok z := by unfold cM1; rw [h1]; show (g r).bind _ = _; rw [h2]; exact h3
theorem ev_m0 {O : Str → R D} {a : Str} (h1 : f r = .ok (.str a)) (h3 : O a = .ok z) : cM0 O f r = .ok z := by unfold cM0; rw [h1]; exact h3
theorem ev_m1F {O : Str → D → R (List D)} {a : Str} (h1 : f r = .ok (.str a)) (h2 : g r = .ok y) (h3 : O a y = .ok ds) : cM1F O f g r = .ok ds := by unfold cM1F; rw [h1]; show (g r).bind _ = _; rw [h2]; exact h3
theorem ev_m2F {O : Str → D → D → R (List D)} {a : Str} (h1 : f r = .ok (.str a)) (h2 : g r = .ok y) (h4 : h r = .ok z) (h3 : O a y z = .ok ds) : cM2F O f g h r = .ok ds := by unfold cM2F; rw [h1]; show (g r).bind _ = _; rw [h2]; show (h r).bind _ = _; rw [h4]; exact h3
theorem ev_sl {l hh : OF} {lo hi : Option Int} (h1 : f r = .ok x) (h2 : l r = .ok lo) (h3 : hh r = .ok hi) (h4 : slD lo hi x = .ok y) : cSl f l hh r = .ok y := by
  unfold cSl; rw [h1]; show (l r).bind _ = _; rw [h2]; show (hh r).bind _ = _; rw [h3]; exact h4
theorem ev_o {k : Int} (h : f r = .ok (.int k)) : cO f r = .ok (some k) := by unfold cO; rw [h]; rfl
theorem ev_it (h : f r = .ok x) (h2 : walkD x = .ok ds) : cIt f r = .ok ds := by unfold cIt; rw [h]; exact h2
/-- a comprehension over items that are all taken -/
theorem comp_map {A : D → Rho → Option Rho} {T : Rho → R Bool} {r0 : Rho} {k : D → D} : ∀ (ds acc : List D), (∀ d ∈ ds, ∃ r1, A d r0 = some r1 ∧ T r1 = .ok true ∧ f r1 = .ok (k d)) → acc.length + ds.length ≤ sizeLine → compL A T f r0 acc ds = .ok (acc ++ ds.map k)
  | [], acc, _, _ => by simp [compL]
  | d :: ds, acc, hd, hl => by
    obtain ⟨r1, h1, h2, h3⟩ := hd d (List.mem_cons_self ..)
    unfold compL
    rw [h1]
    simp only []
    rw [h2]
    simp only []
    rw [h3]
    simp only []
    rw [if_pos (by simp only [List.length_cons] at hl; omega), comp_map ds (acc ++ [k d]) (fun e m => hd e (List.mem_cons_of_mem _ m)) (by simp only [List.length_append, List.length_cons, List.length_nil] at hl ⊢; omega)]
    simp
theorem ev_lc {vs : List Nat} {fi : Rho → R (List D)} {A : D → Rho → Option Rho} {T : Rho → R Bool} {k : D → D} (hn : noOw r vs = true) (h : fi r = .ok ds) (hl : ds.length ≤ sizeLine)
    (hd : ∀ d ∈ ds, ∃ r1, A d (wipeR r vs) = some r1 ∧ T r1 = .ok true ∧ f r1 = .ok (k d)) : cLc vs fi A T f r = .ok (ds.map k) := by
  unfold cLc
  rw [if_pos hn, h]
  show compL A T f (wipeR r vs) [] ds = _
  rw [comp_map ds [] hd (by simpa using hl)]
  rfl
/-- a loop whose turns all go on, with an invariant -/
theorem for_inv {A : D → Rho → Option Rho} (I : Nat → Rho → Prop) : ∀ (ds : List D) (k : Nat) (r : Rho), I k r → (∀ (j : Nat) (d : D) (r : Rho), ds[j]? = some d → I (k + j) r → ∃ r1 r2, A d r = some r1 ∧ F r1 = .nx r2 ∧ I (k + j + 1) r2) → ∃ r', forL A F ds r = .nx r' ∧ I (k + ds.length) r'
  | [], k, r, h, _ => ⟨r, rfl, h⟩
  | d :: ds, k, r, h, hd => by
    obtain ⟨r1, r2, h1, h2, h3⟩ := hd 0 d r rfl h
    obtain ⟨r', h4, h5⟩ := for_inv I ds (k + 1) r2 h3 fun j e r hj hI => by
      have := hd (j + 1) e r hj (by have : k + (j + 1) = k + 1 + j := by omega
                                    rw [this]; exact hI)
      have e2 : k + (j + 1) + 1 = k + 1 + j + 1 := by omega
      rw [e2] at this
      exact this
    refine ⟨r', ?_, by have e : k + (ds.length + 1) = k + 1 + ds.length := by omega
                       show I (k + (ds.length + 1)) r'
                       rw [e]; exact h5⟩
    unfold forL
    rw [h1]
    simp only []
    rw [h2]
    exact h4
theorem ev_for {A : D → Rho → Option Rho} {fi : Rho → R (List D)} (I : Nat → Rho → Prop) (h : fi r = .ok ds) (h0 : I 0 r) (hd : ∀ (j : Nat) (d : D) (r : Rho), ds[j]? = some d → I j r → ∃ r1 r2, A d r = some r1 ∧ F r1 = .nx r2 ∧ I (j + 1) r2) :
    ∃ r', sFor fi A F r = .nx r' ∧ I ds.length r' := by
  unfold sFor onE
  rw [h]
  have := for_inv (F := F) (A := A) I ds 0 r h0 fun j d r hj hI => by
    have e : 0 + j = j := Nat.zero_add j
    rw [e] at hI ⊢
    exact hd j d r hj hI
  rw [Nat.zero_add] at this
  exact this
end
theorem slD_str {z : Str} {lo hi : Option Int} (h : z.length ≤ sizeLine) : slD lo hi (.str z) = .ok (.str (cutS z lo hi)) := if_pos h
theorem lenD_str {z : Str} (h : z.length ≤ sizeLine) : lenD (.str z) = .ok (.int z.length) := if_pos h
theorem addD_str {x y : Str} (h : x.length + y.length ≤ sizeLine) : addD (.str x) (.str y) = .ok (.str (x ++ y)) := if_pos h
theorem addD_list {x y : List D} (h : x.length + y.length ≤ sizeLine) : addD (.list x) (.list y) = .ok (.list (x ++ y)) := if_pos h
theorem cut_tail {d : D} {ds : List D} : slD (some 1) none (.list (d :: ds)) = .ok (.list ds) := by
  show R.ok (PyData.list (cutD (d :: ds) (some 1) none)) = _
  unfold cutD
  have e : HT.sIx (d :: ds).length 0 (some 1) = 1 := by
    have := HT.sIx_nat (d :: ds).length 0 1
    rw [show ((1 : Nat) : Int) = 1 from rfl] at this
    rw [this]; simp only [List.length_cons]; omega
  rw [e, HT.sIx_none]
  have : (d :: ds).length - 1 = ds.length := rfl
  rw [this]
  simp
end Z


set_option Elab.async false
set_option linter.all false
set_option maxRecDepth 100000
set_option maxHeartbeats 4000000
/-! Evaluation of what changes an owned list, rule by rule. -/
namespace Z
open PySem PySem.Spec PyProof.Rows L2
section
variable {r r1 r2 : Rho} {F : SF} {o : Out} {d x y z : D} {f g : Rho → RX D} {ds es s s' : List D} {fa ga : Rho → RX (List D)} {i m n : Nat} {b : Bool}
theorem ev_xp {f0 : Rho → R D} (h : f0 r = .ok d) : xP f0 r = .ok d r := by unfold xP; rw [h]; rfl
theorem ev_xcons (h1 : f r = .ok d r1) (h2 : fa r1 = .ok ds r2) : xCons f fa r = .ok (d :: ds) r2 := by unfold xCons; rw [h1]; show (fa r1).bind _ = _; rw [h2]; rfl
theorem ev_xb2 {O : D → D → R D} (h1 : f r = .ok x r1) (h2 : g r1 = .ok y r2) (h3 : O x y = .ok z) : xB2 O f g r = .ok z r2 := by unfold xB2; rw [h1]; show (g r1).bind _ = _; rw [h2]; show liftR (O x y) r2 = _; rw [h3]; rfl
theorem ev_xb1 {O : D → R D} (h1 : f r = .ok x r1) (h3 : O x = .ok z) : xB1 O f r = .ok z r1 := by unfold xB1; rw [h1]; show liftR (O x) r1 = _; rw [h3]; rfl
theorem ev_xt2 {O : D → D → R Bool} (h1 : f r = .ok x r1) (h2 : g r1 = .ok y r2) (h3 : O x y = .ok b) : xT2 O f g r = .ok b r2 := by unfold xT2; rw [h1]; show (g r1).bind _ = _; rw [h2]; show liftR (O x y) r2 = _; rw [h3]; rfl
theorem ev_xtup (h : fa r = .ok ds r1) (hl : ds.length ≤ sizeLine) : xTup fa r = .ok (.tuple ds) r1 := by unfold xTup; rw [h]; show liftR ((sizeD ds).bind _) r1 = _; unfold sizeD; rw [if_pos hl]; rfl
theorem ev_xlst (h : fa r = .ok ds r1) (hl : ds.length ≤ sizeLine) : xLst fa r = .ok (.list ds) r1 := by unfold xLst; rw [h]; show liftR ((sizeD ds).bind _) r1 = _; unfold sizeD; rw [if_pos hl]; rfl
theorem ev_xcall {Gd : List D → R D} (h : fa r = .ok ds r1) (h2 : Gd ds = .ok d) : xCall Gd fa r = .ok d r1 := by unfold xCall; rw [h]; show liftR (Gd ds) r1 = _; rw [h2]; rfl
theorem ev_xcallS {Gd : List D → List D → RS} (h0 : isOw r i = true) (h : fa r = .ok ds r1) (h1 : r1[i]? = some (.ow s)) (h2 : Gd s ds = .ok d s') : xCallS i Gd fa r = .ok d (r1.set i (.ow s')) := by
  unfold xCallS
  rw [if_pos h0, h]
  show xHand i Gd ds r1 = _
  unfold xHand
  rw [h1]
  dsimp only
  rw [h2]
theorem ev_xset (h : f r = .ok d r1) : xSet i f r = .nx (r1.set i (.sh d)) := by unfold xSet onX; rw [h]
theorem ev_xret (h : f r = .ok d r1) : xRet f r = .rt d r1 := by unfold xRet onX; rw [h]
theorem ev_xapp (h0 : isOw r i = true) (h : f r = .ok d r1) (h1 : r1[i]? = some (.ow ds)) (hl : ds.length < sizeLine) : xApp i f r = .nx (r1.set i (.ow (ds ++ [d]))) := by
  unfold xApp
  rw [if_pos h0]
  unfold onX
  rw [h]
  dsimp only
  rw [h1]
  dsimp only
  rw [if_pos hl]
theorem ev_xfor {fi : Rho → RX (List D)} {A : D → Rho → Option Rho} (h : fi r = .ok ds r1) (h1 : forL A F ds r1 = o) : xFor fi A F r = o := by unfold xFor onXL; rw [h]; exact h1
theorem ev_xr1 (h : f r = .ok d r1) (h1 : rng1D d = .ok ds) : xR1 f r = .ok ds r1 := by unfold xR1; rw [h]; show liftR (rng1D d) r1 = _; rw [h1]; rfl
theorem ev_runX (hl : ds.length + 1 = m) (h : F (startX n s ds) = .rt d r1) (h0 : r1[(0 : Nat)]? = some (.ow s')) : runX n m F s ds = .ok d s' := by
  unfold runX
  rw [if_pos hl, h]
  unfold retX
  simp only [h0]
theorem ev_put {f0 g0 : Rho → R D} {k : Int} (h : f0 r = .ok d) (h1 : r[i]? = some (.ow ds)) (h2 : g0 r = .ok (.int k)) (h3 : ixN ds.length k = some m) : sPut i g0 f0 r = .nx (r.set i (.ow (ds.set m d))) := by
  unfold sPut onE
  rw [h]
  dsimp only
  rw [h1]
  dsimp only
  rw [h2]
  dsimp only
  rw [h3]
/-! comprehensions -/
section
variable {vs : List Nat} {A : D → Rho → Option Rho} {T : Rho → RX Bool} {acc : List D} {res : RX (List D)} {r3 : Rho}
theorem compX_go (h1 : A d (wipeR r vs) = some r1) (h2 : T r1 = .ok true r2) (h3 : f r2 = .ok x r3) (hl : acc.length < sizeLine) (ho : sameOw r1 r3 = true) (h : compX vs A T f r3 (acc ++ [x]) ds = res) : compX vs A T f r acc (d :: ds) = res := by
  unfold compX
  simp only [h1, h2, h3]
  rw [if_pos ⟨hl, ho⟩]
  exact h
theorem compX_skip (h1 : A d (wipeR r vs) = some r1) (h2 : T r1 = .ok false r2) (ho : sameOw r1 r2 = true) (h : compX vs A T f r2 acc ds = res) : compX vs A T f r acc (d :: ds) = res := by
  unfold compX
  simp only [h1, h2]
  rw [if_pos ho]
  exact h
/-- all turns go on, with an invariant of the place, the slots and what is collected -/
theorem compX_inv (I : Nat → Rho → List D → Prop) : ∀ (ds : List D) (k : Nat) (r : Rho) (acc : List D), I k r acc → (∀ (j : Nat) (d : D) (r : Rho) (acc : List D), ds[j]? = some d → I (k + j) r acc →
    ∃ r1, A d (wipeR r vs) = some r1 ∧ ((∃ r2 x r3, T r1 = .ok true r2 ∧ f r2 = .ok x r3 ∧ acc.length < sizeLine ∧ sameOw r1 r3 = true ∧ I (k + j + 1) r3 (acc ++ [x])) ∨ ∃ r2, T r1 = .ok false r2 ∧ sameOw r1 r2 = true ∧ I (k + j + 1) r2 acc)) →
    ∃ out r', compX vs A T f r acc ds = .ok out r' ∧ I (k + ds.length) r' out
  | [], k, r, acc, h, _ => ⟨acc, r, rfl, h⟩
  | d :: ds, k, r, acc, h, hd => by
    have next : ∀ {r' : Rho} {acc' : List D}, I (k + 1) r' acc' → ∃ out r2, compX vs A T f r' acc' ds = .ok out r2 ∧ I (k + (ds.length + 1)) r2 out := fun {r' acc'} h' => by
      obtain ⟨out, r2, h1, h2⟩ := compX_inv I ds (k + 1) r' acc' h' fun j e q acc hj hI => by
        have e1 : k + (j + 1) = k + 1 + j := by omega
        have e2 : k + (j + 1) + 1 = k + 1 + j + 1 := by omega
        have := hd (j + 1) e q acc hj (by rw [e1]; exact hI)
        rw [e2] at this
        exact this
      exact ⟨out, r2, h1, by have e : k + (ds.length + 1) = k + 1 + ds.length := by omega
                             rw [e]; exact h2⟩
    obtain ⟨r1, g1, g⟩ := hd 0 d r acc rfl h
    rcases g with ⟨r2, x, r3, g2, g3, g4, g5, g6⟩ | ⟨r2, g2, g3, g4⟩
    · obtain ⟨out, r', h1, h2⟩ := next g6
      exact ⟨out, r', compX_go g1 g2 g3 g4 g5 h1, h2⟩
    · obtain ⟨out, r', h1, h2⟩ := next g4
      exact ⟨out, r', compX_skip g1 g2 g3 h1, h2⟩
theorem ev_xlc {fi : Rho → R (List D)} {out : List D} (hn : noOw r vs = true) (h : fi r = .ok ds) (hc : compX vs A T f r [] ds = .ok out r1) : xLc vs fi A T f r = .ok (.list out) (backR r r1 vs) := by
  unfold xLc
  rw [if_pos hn, h]
  show outR vs r ((compX vs A T f r [] ds).bind _) = _
  rw [hc]
  rfl
end
end
end Z


set_option Elab.async false
set_option linter.all false
set_option maxRecDepth 100000
set_option maxHeartbeats 4000000
/-! Whole numbers, places, small data (from the plain law of k80, for any law). -/
namespace Z
open PySem PySem.Spec PyProof.Rows L2
theorem ix_l {ds : List D} {d : D} {k : Int} (j : Nat) (e : k = (j : Int)) (h : ds[j]? = some d) : ixD (.list ds) (.int k) = .ok d := by
  subst e
  show atD ds (j : Int) = _
  unfold atD
  rw [atI_nat h]
theorem ix_t {ds : List D} {d : D} {k : Int} (j : Nat) (e : k = (j : Int)) (h : ds[j]? = some d) : ixD (.tuple ds) (.int k) = .ok d := by
  subst e
  show atD ds (j : Int) = _
  unfold atD
  rw [atI_nat h]
theorem small {n : Nat} (h : n ≤ 1000000) : n ≤ sizeLine := Nat.le_trans h (by decide)
theorem eq_int {a b : Int} {c : Bool} (h : c = (a == b)) : eqD (.int a) (.int b) = .ok c := by
  show (if SeqAt.shaped (.int a) && SeqAt.shaped (.int b) then R.ok (PyData.eqv (.int a) (.int b)) else .no) = _
  have h1 : ∀ n : Int, SeqAt.shaped (.int n) = true := fun n => rfl
  rw [h1, h1, h]
  simp [PyData.eqv]
theorem mod_nat (a b : Nat) (h : 0 < b) : modD (.int (a : Nat)) (.int (b : Nat)) = .ok (.int ((a % b : Nat) : Int)) := by
  show (if 0 < ((b : Nat) : Int) then R.ok (PyData.int ((a : Int) % (b : Int))) else _) = _
  rw [if_pos (by omega)]
  congr 2
theorem div_nat (a b : Nat) (h : 0 < b) (h2 : b < 2 ^ 64) : fdivD (.int (a : Nat)) (.int (b : Nat)) = .ok (.int ((a / b : Nat) : Int)) := by
  show (if 0 < ((b : Nat) : Int) ∧ ((b : Nat) : Int).natAbs.log2 < 9000 then R.ok (PyData.int ((a : Int) / (b : Int))) else _) = _
  rw [if_pos ⟨by omega, by rw [Int.natAbs_natCast]; exact Nat.lt_trans (log2_small h2) (by decide)⟩]
  congr 2
theorem add_nat (a b : Nat) : addD (.int (a : Nat)) (.int (b : Nat)) = .ok (.int ((a + b : Nat) : Int)) := by
  show R.ok (PyData.int ((a : Int) + (b : Int))) = _
  congr 2
theorem mul_nat (a b : Nat) (h1 : a < 2 ^ 64) (h2 : b < 2 ^ 64) : mulD (.int (a : Nat)) (.int (b : Nat)) = .ok (.int ((a * b : Nat) : Int)) := by
  have l1 := log2_small h1
  have l2 := log2_small h2
  show (if ((a : Nat) : Int).natAbs.log2 + ((b : Nat) : Int).natAbs.log2 < 1000000 then R.ok (PyData.int ((a : Int) * (b : Int))) else .no) = _
  rw [Int.natAbs_natCast, Int.natAbs_natCast, if_pos (by omega)]
  congr 2
theorem int_nat {f : Rho → R D} {r : Rho} {n : Nat} (h : f r = .ok (.int (n : Nat))) : cB1 intD f r = .ok (.int (n : Nat)) := ev_b1 h rfl
theorem bind_okR {α β : Type} {a : α} {f : α → R β} : (R.ok a).bind f = f a := rfl
theorem rng1_nat {n : Nat} (hn : n ≤ 1000000) : rng1D (.int (n : Nat)) = .ok (rngL 0 n) := by
  unfold rng1D
  simp only []
  have e : (2 : Int) ^ 62 = 4611686018427387904 := by decide +kernel
  rw [e, if_pos ⟨by omega, by omega⟩, Int.toNat_natCast]
theorem rng_get {n j : Nat} {d : D} (h : (rngL 0 n)[j]? = some d) : j < n ∧ d = .int (j : Nat) := by
  unfold rngL at h
  rw [List.getElem?_map] at h
  obtain ⟨k, hk, rfl⟩ := Option.map_eq_some_iff.mp h
  obtain ⟨h1, h2⟩ := List.getElem?_eq_some_iff.mp hk
  rw [List.length_range] at h1
  rw [List.getElem_range] at h2
  subst h2
  exact ⟨h1, by simp⟩
theorem rng_len (n : Nat) : (rngL 0 n).length = n := by simp [rngL]
theorem ev_r1 {f : Rho → R D} {r : Rho} {n : Nat} (h : f r = .ok (.int (n : Nat))) (hn : n ≤ 1000000) : cR1 f r = .ok (rngL 0 n) := by
  unfold cR1
  rw [h, bind_okR, rng1_nat hn]
def isN : D → Bool
  | .none => true
  | _ => false
theorem eqv_none : ∀ d : D, PyData.eqv d .none = isN d
  | .none => by simp [PyData.eqv, isN]
  | .bool _ => by simp [PyData.eqv, isN]
  | .int _ => by simp [PyData.eqv, isN]
  | .str _ => by simp [PyData.eqv, isN]
  | .list _ => by simp [PyData.eqv, isN]
  | .tuple _ => by simp [PyData.eqv, isN]
  | .dict _ => by simp [PyData.eqv, isN]
theorem strsOf_map : ∀ ws : List Str, strsOf (ws.map .str) = .ok ws
  | [] => rfl
  | w :: ws => by
    show (strsOf (ws.map .str)).bind _ = _
    rw [strsOf_map ws]
    rfl
theorem joinD_words {ws : List Str} (hw : ∀ w ∈ ws, Wd w) (hn : ws.length ≤ 1000) : joinD sepS (.list (ws.map .str)) = .ok (.str (line ws)) := by
  show (strsOf (ws.map PyData.str)).bind (fun ys => joinW sepS ys) = _
  rw [strsOf_map]
  exact join_ok hw hn
def Smk (k : Nat) (d : D) : Prop := d.canLay0 = true ∧ d.depth ≤ k
theorem smk_all {k : Nat} {ds : List D} (h : ∀ d ∈ ds, Smk k d) : PyData.canLayAll0 ds = true ∧ PyData.depthAll ds ≤ k := by
  induction ds with
  | nil => exact ⟨by simp [PyData.canLayAll0], by simp [PyData.depthAll]⟩
  | cons d ds ih =>
    have a := h d (List.mem_cons_self ..)
    have b := ih fun e m => h e (List.mem_cons_of_mem _ m)
    refine ⟨by simp [PyData.canLayAll0, a.1, b.1], ?_⟩
    simp only [PyData.depthAll]
    exact Nat.max_le.mpr ⟨a.2, b.2⟩
theorem smk_tup {k : Nat} {ds : List D} (h : ∀ d ∈ ds, Smk k d) : Smk (k + 1) (.tuple ds) := by
  have := smk_all h
  refine ⟨by simpa [PyData.canLay0] using this.1, ?_⟩
  simp only [PyData.depth]
  have := this.2
  omega
theorem smk_list {k : Nat} {ds : List D} (h : ∀ d ∈ ds, Smk k d) : Smk (k + 1) (.list ds) := by
  have := smk_all h
  refine ⟨by simpa [PyData.canLay0] using this.1, ?_⟩
  simp only [PyData.depth]
  have := this.2
  omega
theorem smk_int {k : Nat} (n : Int) : Smk k (.int n) := ⟨by simp [PyData.canLay0], by simp [PyData.depth]⟩
theorem smk_none {k : Nat} : Smk k .none := ⟨by simp [PyData.canLay0], by simp [PyData.depth]⟩
theorem smk_str {k : Nat} {x : Str} (h : PyData.strOk x = true) : Smk k (.str x) := ⟨by simp [PyData.canLay0, h], by simp [PyData.depth]⟩
theorem len_nat {ds : List D} : lenD (.list ds) = .ok (.int (ds.length : Nat)) := rfl
end Z


set_option Elab.async false
set_option linter.all false
set_option maxRecDepth 100000
set_option maxHeartbeats 8000000
namespace K95
open PySem PySem.Spec PyProof.Rows L2 Z
def topS (i : Nat) : Stmt := PySem.Challenge.pw_kerbwise_k95_texts_of_systems_duels_and.main.body.getD i (.Pass ⟨0, 0, 0, 0⟩)
abbrev s_common : Stmt := topS 12
abbrev N_common : List Str := [(Str.ofString "first"), (Str.ofString "second")]
theorem sc_common : FnScope N_common [(Str.ofString "first"), (Str.ofString "second")] (defScope s_common) := ⟨rfl, rfl, rfl, by decide +kernel, rfl, by decide +kernel, by decide +kernel⟩
abbrev s_is_ratio : Stmt := topS 13
abbrev N_is_ratio : List Str := [(Str.ofString "pair")]
theorem sc_is_ratio : FnScope N_is_ratio [(Str.ofString "pair")] (defScope s_is_ratio) := ⟨rfl, rfl, rfl, by decide +kernel, rfl, by decide +kernel, by decide +kernel⟩
abbrev s_negated : Stmt := topS 14
abbrev N_negated : List Str := [(Str.ofString "first")]
theorem sc_negated : FnScope N_negated [(Str.ofString "first")] (defScope s_negated) := ⟨rfl, rfl, rfl, by decide +kernel, rfl, by decide +kernel, by decide +kernel⟩
abbrev s_sign_of : Stmt := topS 15
abbrev N_sign_of : List Str := [(Str.ofString "first")]
theorem sc_sign_of : FnScope N_sign_of [(Str.ofString "first")] (defScope s_sign_of) := ⟨rfl, rfl, rfl, by decide +kernel, rfl, by decide +kernel, by decide +kernel⟩
abbrev s_compare : Stmt := topS 16
abbrev N_compare : List Str := [(Str.ofString "first"), (Str.ofString "second")]
theorem sc_compare : FnScope N_compare [(Str.ofString "first"), (Str.ofString "second")] (defScope s_compare) := ⟨rfl, rfl, rfl, by decide +kernel, rfl, by decide +kernel, by decide +kernel⟩
abbrev s_ratio_text : Stmt := topS 17
abbrev N_ratio_text : List Str := [(Str.ofString "first")]
theorem sc_ratio_text : FnScope N_ratio_text [(Str.ofString "first")] (defScope s_ratio_text) := ⟨rfl, rfl, rfl, by decide +kernel, rfl, by decide +kernel, by decide +kernel⟩
abbrev s_is_digits : Stmt := topS 18
abbrev N_is_digits : List Str := [(Str.ofString "text"), (Str.ofString "sign")]
theorem sc_is_digits : FnScope N_is_digits [(Str.ofString "text")] (defScope s_is_digits) := ⟨rfl, rfl, rfl, by decide +kernel, rfl, by decide +kernel, by decide +kernel⟩
abbrev s_read_ratio : Stmt := topS 19
abbrev N_read_ratio : List Str := [(Str.ofString "text"), (Str.ofString "body"), (Str.ofString "pair"), (Str.ofString "first"), (Str.ofString "sign"), (Str.ofString "second")]
theorem sc_read_ratio : FnScope N_read_ratio [(Str.ofString "text")] (defScope s_read_ratio) := ⟨rfl, rfl, rfl, by decide +kernel, rfl, by decide +kernel, by decide +kernel⟩
abbrev s_check_system : Stmt := topS 24
abbrev N_check_system : List Str := [(Str.ofString "system"), (Str.ofString "width"), (Str.ofString "conditions"), (Str.ofString "row"), (Str.ofString "relation"), (Str.ofString "bound"), (Str.ofString "part")]
theorem sc_check_system : FnScope N_check_system [(Str.ofString "system")] (defScope s_check_system) := ⟨rfl, rfl, rfl, by decide +kernel, rfl, by decide +kernel, by decide +kernel⟩
abbrev s_check_events : Stmt := topS 29
abbrev N_check_events : List Str := [(Str.ofString "many")]
theorem sc_check_events : FnScope N_check_events [(Str.ofString "many")] (defScope s_check_events) := ⟨rfl, rfl, rfl, by decide +kernel, rfl, by decide +kernel, by decide +kernel⟩
abbrev s_check_rows : Stmt := topS 30
abbrev N_check_rows : List Str := [(Str.ofString "many"), (Str.ofString "rows"), (Str.ofString "row")]
theorem sc_check_rows : FnScope N_check_rows [(Str.ofString "many"), (Str.ofString "rows")] (defScope s_check_rows) := ⟨rfl, rfl, rfl, by decide +kernel, rfl, by decide +kernel, by decide +kernel⟩
abbrev s_check_claims : Stmt := topS 31
abbrev N_check_claims : List Str := [(Str.ofString "many"), (Str.ofString "claims"), (Str.ofString "rows"), (Str.ofString "relation"), (Str.ofString "told")]
theorem sc_check_claims : FnScope N_check_claims [(Str.ofString "many"), (Str.ofString "claims")] (defScope s_check_claims) := ⟨rfl, rfl, rfl, by decide +kernel, rfl, by decide +kernel, by decide +kernel⟩
abbrev s_check_duel : Stmt := topS 34
abbrev N_check_duel : List Str := [(Str.ofString "duel"), (Str.ofString "row"), (Str.ofString "part")]
theorem sc_check_duel : FnScope N_check_duel [(Str.ofString "duel")] (defScope s_check_duel) := ⟨rfl, rfl, rfl, by decide +kernel, rfl, by decide +kernel, by decide +kernel⟩
abbrev s_row_text : Stmt := topS 37
abbrev N_row_text : List Str := [(Str.ofString "parts"), (Str.ofString "part")]
theorem sc_row_text : FnScope N_row_text [(Str.ofString "parts")] (defScope s_row_text) := ⟨rfl, rfl, rfl, by decide +kernel, rfl, by decide +kernel, by decide +kernel⟩
abbrev s_system_text : Stmt := topS 38
abbrev N_system_text : List Str := [(Str.ofString "system"), (Str.ofString "rows"), (Str.ofString "width"), (Str.ofString "conditions"), (Str.ofString "row"), (Str.ofString "relation"), (Str.ofString "bound")]
theorem sc_system_text : FnScope N_system_text [(Str.ofString "system")] (defScope s_system_text) := ⟨rfl, rfl, rfl, by decide +kernel, rfl, by decide +kernel, by decide +kernel⟩
abbrev s_duel_text : Stmt := topS 39
abbrev N_duel_text : List Str := [(Str.ofString "duel"), (Str.ofString "rows"), (Str.ofString "row")]
theorem sc_duel_text : FnScope N_duel_text [(Str.ofString "duel")] (defScope s_duel_text) := ⟨rfl, rfl, rfl, by decide +kernel, rfl, by decide +kernel, by decide +kernel⟩
abbrev s_claims_text : Stmt := topS 40
abbrev N_claims_text : List Str := [(Str.ofString "many"), (Str.ofString "claims"), (Str.ofString "rows"), (Str.ofString "places"), (Str.ofString "relation"), (Str.ofString "told"), (Str.ofString "words"), (Str.ofString "row"), (Str.ofString "place")]
theorem sc_claims_text : FnScope N_claims_text [(Str.ofString "many"), (Str.ofString "claims")] (defScope s_claims_text) := ⟨rfl, rfl, rfl, by decide +kernel, rfl, by decide +kernel, by decide +kernel⟩
abbrev s_rows_of : Stmt := topS 41
abbrev N_rows_of : List Str := [(Str.ofString "text"), (Str.ofString "rows"), (Str.ofString "row")]
theorem sc_rows_of : FnScope N_rows_of [(Str.ofString "text")] (defScope s_rows_of) := ⟨rfl, rfl, rfl, by decide +kernel, rfl, by decide +kernel, by decide +kernel⟩
abbrev s_number_of : Stmt := topS 42
abbrev N_number_of : List Str := [(Str.ofString "word"), (Str.ofString "sign")]
theorem sc_number_of : FnScope N_number_of [(Str.ofString "word")] (defScope s_number_of) := ⟨rfl, rfl, rfl, by decide +kernel, rfl, by decide +kernel, by decide +kernel⟩
abbrev s_front : Stmt := topS 43
abbrev N_front : List Str := [(Str.ofString "rows"), (Str.ofString "word"), (Str.ofString "many")]
theorem sc_front : FnScope N_front [(Str.ofString "rows"), (Str.ofString "word"), (Str.ofString "many")] (defScope s_front) := ⟨rfl, rfl, rfl, by decide +kernel, rfl, by decide +kernel, by decide +kernel⟩
abbrev s_checked : Stmt := topS 44
abbrev N_checked : List Str := [(Str.ofString "check"), (Str.ofString "value")]
theorem sc_checked : FnScope N_checked [(Str.ofString "check"), (Str.ofString "value")] (defScope s_checked) := ⟨rfl, rfl, rfl, by decide +kernel, rfl, by decide +kernel, by decide +kernel⟩
abbrev s_read_system : Stmt := topS 45
abbrev N_read_system : List Str := [(Str.ofString "text"), (Str.ofString "rows"), (Str.ofString "width"), (Str.ofString "conditions"), (Str.ofString "words"), (Str.ofString "row"), (Str.ofString "word")]
theorem sc_read_system : FnScope N_read_system [(Str.ofString "text")] (defScope s_read_system) := ⟨rfl, rfl, rfl, by decide +kernel, rfl, by decide +kernel, by decide +kernel⟩
abbrev s_read_duel : Stmt := topS 46
abbrev N_read_duel : List Str := [(Str.ofString "text"), (Str.ofString "rows"), (Str.ofString "words"), (Str.ofString "word")]
theorem sc_read_duel : FnScope N_read_duel [(Str.ofString "text")] (defScope s_read_duel) := ⟨rfl, rfl, rfl, by decide +kernel, rfl, by decide +kernel, by decide +kernel⟩
abbrev s_read_claims : Stmt := topS 47
abbrev N_read_claims : List Str := [(Str.ofString "text"), (Str.ofString "rows"), (Str.ofString "many"), (Str.ofString "claims"), (Str.ofString "words"), (Str.ofString "found"), (Str.ofString "places"), (Str.ofString "word")]
theorem sc_read_claims : FnScope N_read_claims [(Str.ofString "text")] (defScope s_read_claims) := ⟨rfl, rfl, rfl, by decide +kernel, rfl, by decide +kernel, by decide +kernel⟩
abbrev s__law_same : Stmt := topS 49
abbrev N__law_same : List Str := [(Str.ofString "told"), (Str.ofString "due")]
theorem sc__law_same : FnScope N__law_same [(Str.ofString "told"), (Str.ofString "due")] (defScope s__law_same) := ⟨rfl, rfl, rfl, by decide +kernel, rfl, by decide +kernel, by decide +kernel⟩
abbrev s__law_stream : Stmt := topS 50
abbrev N__law_stream : List Str := [(Str.ofString "script"), (Str.ofString "numbers"), (Str.ofString "cell"), (Str.ofString "rest"), (Str.ofString "k"), (Str.ofString "mixed")]
theorem sc__law_stream : FnScope N__law_stream [(Str.ofString "script")] (defScope s__law_stream) := ⟨rfl, rfl, rfl, by decide +kernel, rfl, by decide +kernel, by decide +kernel⟩
abbrev s__law_next : Stmt := topS 51
abbrev N__law_next : List Str := [(Str.ofString "state"), (Str.ofString "many"), (Str.ofString "turn")]
theorem sc__law_next : FnScope N__law_next [(Str.ofString "state"), (Str.ofString "many")] (defScope s__law_next) := ⟨rfl, rfl, rfl, by decide +kernel, rfl, by decide +kernel, by decide +kernel⟩
abbrev s__law_error : Stmt := topS 52
abbrev N__law_error : List Str := [(Str.ofString "e"), (Str.ofString "names"), (Str.ofString "one")]
theorem sc__law_error : FnScope N__law_error [(Str.ofString "e")] (defScope s__law_error) := ⟨rfl, rfl, rfl, by decide +kernel, rfl, by decide +kernel, by decide +kernel⟩
abbrev s__law_ratio : Stmt := topS 53
abbrev N__law_ratio : List Str := [(Str.ofString "n"), (Str.ofString "d"), (Str.ofString "one"), (Str.ofString "other"), (Str.ofString "turn"), (Str.ofString "rest")]
theorem sc__law_ratio : FnScope N__law_ratio [(Str.ofString "n"), (Str.ofString "d")] (defScope s__law_ratio) := ⟨rfl, rfl, rfl, by decide +kernel, rfl, by decide +kernel, by decide +kernel⟩
abbrev s__law_drawn : Stmt := topS 54
abbrev N__law_drawn : List Str := [(Str.ofString "state"), (Str.ofString "most")]
theorem sc__law_drawn : FnScope N__law_drawn [(Str.ofString "state"), (Str.ofString "most")] (defScope s__law_drawn) := ⟨rfl, rfl, rfl, by decide +kernel, rfl, by decide +kernel, by decide +kernel⟩
abbrev s__law_row : Stmt := topS 55
abbrev N__law_row : List Str := [(Str.ofString "state"), (Str.ofString "width"), (Str.ofString "most"), (Str.ofString "k")]
theorem sc__law_row : FnScope N__law_row [(Str.ofString "state"), (Str.ofString "width"), (Str.ofString "most")] (defScope s__law_row) := ⟨rfl, rfl, rfl, by decide +kernel, rfl, by decide +kernel, by decide +kernel⟩
abbrev s__law_conditions : Stmt := topS 56
abbrev N__law_conditions : List Str := [(Str.ofString "state"), (Str.ofString "width"), (Str.ofString "many"), (Str.ofString "found"), (Str.ofString "k"), (Str.ofString "relation")]
theorem sc__law_conditions : FnScope N__law_conditions [(Str.ofString "state"), (Str.ofString "width"), (Str.ofString "many")] (defScope s__law_conditions) := ⟨rfl, rfl, rfl, by decide +kernel, rfl, by decide +kernel, by decide +kernel⟩
abbrev s__law_bad : Stmt := topS 57
abbrev N__law_bad : List Str := [(Str.ofString "system"), (Str.ofString "width"), (Str.ofString "conditions")]
theorem sc__law_bad : FnScope N__law_bad [(Str.ofString "system")] (defScope s__law_bad) := ⟨rfl, rfl, rfl, by decide +kernel, rfl, by decide +kernel, by decide +kernel⟩
abbrev s__law_duel : Stmt := topS 58
abbrev N__law_duel : List Str := [(Str.ofString "state"), (Str.ofString "most"), (Str.ofString "rows"), (Str.ofString "columns"), (Str.ofString "k"), (Str.ofString "j")]
theorem sc__law_duel : FnScope N__law_duel [(Str.ofString "state"), (Str.ofString "most")] (defScope s__law_duel) := ⟨rfl, rfl, rfl, by decide +kernel, rfl, by decide +kernel, by decide +kernel⟩
abbrev s__law_rows : Stmt := topS 59
abbrev N__law_rows : List Str := [(Str.ofString "state"), (Str.ofString "many"), (Str.ofString "row")]
theorem sc__law_rows : FnScope N__law_rows [(Str.ofString "state"), (Str.ofString "many")] (defScope s__law_rows) := ⟨rfl, rfl, rfl, by decide +kernel, rfl, by decide +kernel, by decide +kernel⟩
abbrev s__law_claims : Stmt := topS 60
abbrev N__law_claims : List Str := [(Str.ofString "state"), (Str.ofString "many"), (Str.ofString "most"), (Str.ofString "found"), (Str.ofString "k"), (Str.ofString "below")]
theorem sc__law_claims : FnScope N__law_claims [(Str.ofString "state"), (Str.ofString "many"), (Str.ofString "most")] (defScope s__law_claims) := ⟨rfl, rfl, rfl, by decide +kernel, rfl, by decide +kernel, by decide +kernel⟩
abbrev s__law_told : Stmt := topS 61
abbrev N__law_told : List Str := [(Str.ofString "kind"), (Str.ofString "call"), (Str.ofString "e")]
theorem sc__law_told : FnScope N__law_told [(Str.ofString "kind"), (Str.ofString "call")] (defScope s__law_told) := ⟨rfl, rfl, rfl, by decide +kernel, rfl, by decide +kernel, by decide +kernel⟩
abbrev s__law_part : Stmt := topS 62
abbrev N__law_part : List Str := [(Str.ofString "part")]
theorem sc__law_part : FnScope N__law_part [(Str.ofString "part")] (defScope s__law_part) := ⟨rfl, rfl, rfl, by decide +kernel, rfl, by decide +kernel, by decide +kernel⟩
abbrev s__law_text : Stmt := topS 63
abbrev N__law_text : List Str := [(Str.ofString "kind"), (Str.ofString "value"), (Str.ofString "rows"), (Str.ofString "places"), (Str.ofString "relation"), (Str.ofString "told"), (Str.ofString "row"), (Str.ofString "bound"), (Str.ofString "part"), (Str.ofString "place")]
theorem sc__law_text : FnScope N__law_text [(Str.ofString "kind"), (Str.ofString "value")] (defScope s__law_text) := ⟨rfl, rfl, rfl, by decide +kernel, rfl, by decide +kernel, by decide +kernel⟩
abbrev s__law_spoilt : Stmt := topS 64
abbrev N__law_spoilt : List Str := [(Str.ofString "state"), (Str.ofString "text"), (Str.ofString "at"), (Str.ofString "sign"), (Str.ofString "lines"), (Str.ofString "k"), (Str.ofString "rows")]
theorem sc__law_spoilt : FnScope N__law_spoilt [(Str.ofString "state"), (Str.ofString "text")] (defScope s__law_spoilt) := ⟨rfl, rfl, rfl, by decide +kernel, rfl, by decide +kernel, by decide +kernel⟩
abbrev s_law : Stmt := topS 65
abbrev N_law : List Str := [(Str.ofString "script"), (Str.ofString "state"), (Str.ofString "turn"), (Str.ofString "told"), (Str.ofString "kind"), (Str.ofString "width"), (Str.ofString "many"), (Str.ofString "values"), (Str.ofString "kept"), (Str.ofString "bad"), (Str.ofString "text"), (Str.ofString "k"), (Str.ofString "spoilt")]
theorem sc_law : FnScope N_law [(Str.ofString "script")] (defScope s_law) := ⟨rfl, rfl, rfl, by decide +kernel, rfl, by decide +kernel, by decide +kernel⟩
def mt_KerbError : Nat → Option Bool := fun k => match k with
  | 0 => some true
  | 1 => some true
  | 2 => some true
  | 3 => some true
  | 4 => some true
  | 5 => some true
  | 6 => some true
  | 7 => some true
  | _ => none
def ans__law_error : Nat → Option Str := fun k => match k with
  | 1 => some (Str.ofString "refused")
  | 2 => some (Str.ofString "form")
  | _ => none
def is__law_error_0 : Nat → Bool := fun k => match k with
  | 1 => true
  | 2 => false
  | _ => false
def is__law_error_1 : Nat → Bool := fun k => match k with
  | 1 => false
  | 2 => false
  | _ => false
def is__law_error_2 : Nat → Bool := fun k => match k with
  | 1 => false
  | 2 => false
  | _ => false
def is__law_error_3 : Nat → Bool := fun k => match k with
  | 1 => false
  | 2 => false
  | _ => false
def is__law_error_4 : Nat → Bool := fun k => match k with
  | 1 => false
  | 2 => false
  | _ => false
def is__law_error_5 : Nat → Bool := fun k => match k with
  | 1 => false
  | 2 => true
  | _ => false
def is__law_error_6 : Nat → Bool := fun k => match k with
  | 1 => false
  | 2 => false
  | _ => false
def F__law_error (a : Addr) (i : Nat) : SF := sSeq (sSet 1 (cL (cLst (cCons (cB1 (isED a (is__law_error_0 i)) (cVar 0)) (cCons (cB1 (isED a (is__law_error_1 i)) (cVar 0)) (cCons (cB1 (isED a (is__law_error_2 i)) (cVar 0)) (cCons (cB1 (isED a (is__law_error_3 i)) (cVar 0)) (cCons (cB1 (isED a (is__law_error_4 i)) (cVar 0)) (cCons (cB1 (isED a (is__law_error_5 i)) (cVar 0)) (cCons (cB1 (isED a (is__law_error_6 i)) (cVar 0)) cNil)))))))))) (sSeq (sIf (cT2 neD (cB1 sumD (cL (cLc [2] (fun r => (cVar 1 r).bind listOnly) (gNm 2) cYes (cB1 intD (cVar 2))))) (cK (.int 1))) (sRet (cK (.str (Str.ofString "odd")))) sNil) (sRet (cB2 ixD (cL (cLst (cCons (cK (.str (Str.ofString "refused"))) (cCons (cK (.str (Str.ofString "missing"))) (cCons (cK (.str (Str.ofString "never"))) (cCons (cK (.str (Str.ofString "endless"))) (cCons (cK (.str (Str.ofString "paper"))) (cCons (cK (.str (Str.ofString "form"))) (cCons (cK (.str (Str.ofString "full"))) cNil))))))))) (cIdx (cVar 1) (cK (.bool true))))))
abbrev lamT : Arguments × Expr × Scope := (lamOf (.stmts (defBody s_read_claims))).getD default
theorem sc_lambda : FnScope [(Str.ofString "value")] [(Str.ofString "value")] lamT.2.2 := ⟨rfl, rfl, rfl, by decide +kernel, rfl, by decide +kernel, by decide +kernel⟩
def G_common : List D → R D := runF 2 2
    (sSeq (sSet 0 (cB1 absD (cVarC 0)))
    (sSeq (sSet 1 (cB1 absD (cVarC 1)))
    (sSeq (whileL (cT2 neD (cVarC 1) (cK (.int 0))) (sPar 0 1 (cVar 1) (cB2 modD (cVarC 0) (cVarC 1))) fuelW)
    (sRet (cVar 0)))))
def G_is_ratio : List D → R D := runF 1 1
    (sRet (cAndV (cBl (cT2 eqD (cB1 lenD (cVarC 0)) (cK (.int 2)))) (cAndV (cBl (cT2 geD (cB2 ixD (cVarC 0) (cK (.int 1))) (cK (.int 1)))) (cBl (cT2 eqD (cCall G_common (cCons (cB2 ixD (cVarC 0) (cK (.int 0))) (cCons (cB2 ixD (cVarC 0) (cK (.int 1))) cNil))) (cK (.int 1)))))))
def G_negated : List D → R D := runF 1 1
    (sRet (cTup (cCons (cB1 negD (cB2 ixD (cVarC 0) (cK (.int 0)))) (cCons (cB2 ixD (cVarC 0) (cK (.int 1))) cNil))))
def G_sign_of : List D → R D := runF 1 1
    (sSeq (sIf (cT2 eqD (cB2 ixD (cVarC 0) (cK (.int 0))) (cK (.int 0))) (sRet (cK (.int 0))) sNil)
    (sRet (cIf (cT2 gtD (cB2 ixD (cVarC 0) (cK (.int 0))) (cK (.int 0))) (cK (.int 1)) (cB1 negD (cK (.int 1))))))
def G_compare : List D → R D := runF 2 2
    (sRet (cCall G_sign_of (cCons (cTup (cCons (cB2 subD (cB2 mulD (cB2 ixD (cVarC 0) (cK (.int 0))) (cB2 ixD (cVarC 1) (cK (.int 1)))) (cB2 mulD (cB2 ixD (cVarC 1) (cK (.int 0))) (cB2 ixD (cVarC 0) (cK (.int 1))))) (cCons (cK (.int 1)) cNil))) cNil)))
def G_ratio_text : List D → R D := runF 1 1
    (sSeq (sIf (cT2 eqD (cB2 ixD (cVarC 0) (cK (.int 1))) (cK (.int 1))) (sRet (cB1 strD (cB2 ixD (cVarC 0) (cK (.int 0))))) sNil)
    (sRet (cJ (cJc (cB1 fmtD (cB2 ixD (cVarC 0) (cK (.int 0)))) (cJc (cK (.str (Str.ofString "/"))) (cJc (cB1 fmtD (cB2 ixD (cVarC 0) (cK (.int 1)))) cJ0))))))
def G_is_digits : List D → R D := runF 2 1
    (sRet (cAndV (cBl (cT2 neD (cVarC 0) (cK (.str (Str.ofString ""))))) (cB1 allD (cL (cLc [1] (cIt (cVar 0)) (gNm 1) cYes (cBl (cT2 inD (cVarC 1) (cK (.str (Str.ofString "0123456789"))))))))))
def G_read_ratio : List D → R D := runF 6 1
    (sSeq (sIf (cT2 gtD (cB1 lenD (cVarC 0)) (cK (.int 60))) (sRaise 2) sNil)
    (sSeq (sSet 1 (cIf (cT2 eqD (cSl (cVarC 0) cO0 (cO (cK (.int 1)))) (cK (.str (Str.ofString "-")))) (cSl (cVarC 0) (cO (cK (.int 1))) cO0) (cVar 0)))
    (sSeq (sAsg (gTp (gsCons (gNm 3) (gsCons (gNm 4) (gsCons (gNm 5) gsNil)))) (cM1 partD (cVarC 1) (cK (.str (Str.ofString "/")))))
    (sSeq (sIf (cOr (cNot (cT1 truD (cCall G_is_digits (cCons (cVar 3) cNil)))) (cAnd (cT2 neD (cVarC 4) (cK (.str (Str.ofString "")))) (cNot (cT1 truD (cCall G_is_digits (cCons (cVar 5) cNil)))))) (sRaise 2) sNil)
    (sSeq (sSet 2 (cTup (cCons (cB1 intD (cVarC 3)) (cCons (cIf (cT2 eqD (cVarC 4) (cK (.str (Str.ofString "")))) (cK (.int 1)) (cB1 intD (cVarC 5))) cNil))))
    (sSeq (sIf (cT2 eqD (cSl (cVarC 0) cO0 (cO (cK (.int 1)))) (cK (.str (Str.ofString "-")))) (sSet 2 (cCall G_negated (cCons (cVar 2) cNil))) sNil)
    (sSeq (sIf (cOr (cNot (cT1 truD (cCall G_is_ratio (cCons (cVar 2) cNil)))) (cT2 neD (cCall G_ratio_text (cCons (cVar 2) cNil)) (cVarC 0))) (sRaise 2) sNil)
    (sRet (cVar 2)))))))))
def G_check_system : List D → R D := runF 7 1
    (sSeq (sAsg (gTp (gsCons (gNm 1) (gsCons (gNm 2) gsNil))) (cVar 0))
    (sSeq (sIf (cOr (cT2 ltD (cVarC 1) (cK (.int 1))) (cOr (cT2 gtD (cVarC 1) (cK (.int 24))) (cT2 gtD (cB1 lenD (cVarC 2)) (cK (.int 40))))) (sRaise 1) sNil)
    (sFor (cIt (cVar 2)) (gTp (gsCons (gNm 3) (gsCons (gNm 4) (gsCons (gNm 5) gsNil)))) (sSeq (sIf (cOr (cT2 neD (cB1 lenD (cVarC 3)) (cVarC 1)) (cOr (cT2 notInD (cVarC 4) (cK (.tuple [(.str (Str.ofString "<=")), (.str (Str.ofString "="))]))) (cNot (cT1 truD (cCall G_is_ratio (cCons (cVar 5) cNil)))))) (sRaise 1) sNil)
    (sIf (cNot (cT1 truD (cB1 allD (cL (cLc [6] (cIt (cVar 3)) (gNm 6) cYes (cCall G_is_ratio (cCons (cVar 6) cNil))))))) (sRaise 1) sNil)))))
def G_check_events : List D → R D := runF 1 1
    (sIf (cNot (cCh leD leD (cK (.int 1)) (cVarC 0) (cK (.int 4)))) (sRaise 1) sNil)
def G_check_rows : List D → R D := runF 3 2
    (sSeq (sEx (cCall G_check_events (cCons (cVar 0) cNil)))
    (sIf (cOr (cT2 neD (cL (fun r => ((cVarC 1) r).bind listD)) (cL (fun r => ((cVarC 1) r).bind setSD))) (cNot (cT1 truD (cB1 allD (cL (cLc [2] (cIt (cVar 1)) (gNm 2) cYes (cBl (cCh leD ltD (cK (.int 0)) (cVarC 2) (cB2 shlD (cK (.int 1)) (cVarC 0)))))))))) (sRaise 1) sNil))
def G_check_claims : List D → R D := runF 5 2
    (sSeq (sEx (cCall G_check_events (cCons (cVar 0) cNil)))
    (sSeq (sIf (cT2 gtD (cB1 lenD (cVarC 1)) (cK (.int 12))) (sRaise 1) sNil)
    (sFor (cIt (cVar 1)) (gTp (gsCons (gNm 2) (gsCons (gNm 3) (gsCons (gNm 4) gsNil)))) (sSeq (sEx (cCall G_check_rows (cCons (cVar 0) (cCons (cVar 2) cNil))))
    (sIf (cOr (cT2 notInD (cVarC 3) (cTup (cCons (cK (.str (Str.ofString "<="))) (cCons (cK (.str (Str.ofString "="))) (cCons (cK (.str (Str.ofString ">="))) cNil))))) (cOr (cNot (cT1 truD (cCall G_is_ratio (cCons (cVar 4) cNil)))) (cOr (cT2 ltD (cCall G_sign_of (cCons (cVar 4) cNil)) (cK (.int 0))) (cT2 gtD (cCall G_compare (cCons (cVar 4) (cCons (cK (.tuple [(.int 1), (.int 1)])) cNil))) (cK (.int 0)))))) (sRaise 1) sNil)))))
def G_check_duel : List D → R D := runF 3 1
    (sSeq (sIf (cOr (cNot (cCh leD leD (cK (.int 1)) (cB1 lenD (cVarC 0)) (cK (.int 8)))) (cNot (cCh leD leD (cK (.int 1)) (cB1 lenD (cB2 ixD (cVarC 0) (cK (.int 0)))) (cK (.int 8))))) (sRaise 1) sNil)
    (sIf (cNot (cT1 truD (cB1 allD (cL (cLc [1] (cIt (cVar 0)) (gNm 1) cYes (cAndV (cBl (cT2 eqD (cB1 lenD (cVarC 1)) (cB1 lenD (cB2 ixD (cVarC 0) (cK (.int 0)))))) (cB1 allD (cL (cLc [2] (cIt (cVar 1)) (gNm 2) cYes (cCall G_is_ratio (cCons (cVar 2) cNil))))))))))) (sRaise 1) sNil))
def G_row_text : List D → R D := runF 2 1
    (sRet (cM1 joinD (cK (.str (Str.ofString " "))) (cL (cLc [1] (cIt (cVar 0)) (gNm 1) cYes (cCall G_ratio_text (cCons (cVar 1) cNil))))))
def G_system_text : List D → R D := runF 7 1
    (sSeq (sEx (cCall G_check_system (cCons (cVar 0) cNil)))
    (sSeq (sAsg (gTp (gsCons (gNm 2) (gsCons (gNm 3) gsNil))) (cVar 0))
    (sSeq (sOwn 1 (cLst (cCons (cB2 addD (cK (.str (Str.ofString "unknowns "))) (cB1 strD (cVarC 2))) cNil)))
    (sSeq (xsExt 1 (cLc [4, 5, 6] (cIt (cVar 3)) (gTp (gsCons (gNm 4) (gsCons (gNm 5) (gsCons (gNm 6) gsNil)))) cYes (cB2 addD (cB2 addD (cB2 addD (cB2 addD (cCall G_row_text (cCons (cVar 4) cNil)) (cK (.str (Str.ofString " ")))) (cVarC 5)) (cK (.str (Str.ofString " ")))) (cCall G_ratio_text (cCons (cVar 6) cNil)))))
    (sRel 1 (sRet (cM1 joinD (cK (.str (Str.ofString ""))) (cL (cLc [4] (cIt (cVar 1)) (gNm 4) cYes (cB2 addD (cVarC 4) (cK (.str (Str.ofString "\n")))))))))))))
def G_duel_text : List D → R D := runF 3 1
    (sSeq (sEx (cCall G_check_duel (cCons (cVar 0) cNil)))
    (sSeq (sOwn 1 (cLst (cCons (cK (.str (Str.ofString "duel"))) cNil)))
    (sSeq (xsExt 1 (cLc [2] (cIt (cVar 0)) (gNm 2) cYes (cCall G_row_text (cCons (cVar 2) cNil))))
    (sRel 1 (sRet (cM1 joinD (cK (.str (Str.ofString ""))) (cL (cLc [2] (cIt (cVar 1)) (gNm 2) cYes (cB2 addD (cVarC 2) (cK (.str (Str.ofString "\n"))))))))))))
def G_claims_text : List D → R D := runF 9 2
    (sSeq (sEx (cCall G_check_claims (cCons (cVar 0) (cCons (cVar 1) cNil))))
    (sSeq (sOwn 2 (cLst (cCons (cB2 addD (cK (.str (Str.ofString "events "))) (cB1 strD (cVarC 0))) cNil)))
    (sSeq (sFor (cIt (cVar 1)) (gTp (gsCons (gNm 3) (gsCons (gNm 4) (gsCons (gNm 5) gsNil)))) (sSeq (sSet 6 (cIf (cT2 eqD (cB1 lenD (cVarC 3)) (cK (.int 0))) (cK (.str (Str.ofString "none"))) (cM1 joinD (cK (.str (Str.ofString "+"))) (cL (cLc [8] (cIt (cVar 3)) (gNm 8) cYes (cB1 strD (cVarC 8)))))))
    (sApp 2 (cB2 addD (cB2 addD (cB2 addD (cB2 addD (cVarC 6) (cK (.str (Str.ofString " ")))) (cVarC 4)) (cK (.str (Str.ofString " ")))) (cCall G_ratio_text (cCons (cVar 5) cNil))))))
    (sRel 2 (sRet (cM1 joinD (cK (.str (Str.ofString ""))) (cL (cLc [7] (cIt (cVar 2)) (gNm 7) cYes (cB2 addD (cVarC 7) (cK (.str (Str.ofString "\n"))))))))))))
def G_rows_of : List D → R D := runF 3 1
    (sSeq (sIf (cT2 gtD (cB1 lenD (cVarC 0)) (cK (.int 60000))) (sRaise 2) sNil)
    (sSeq (sSet 1 (cL (cM1F splitD (cVarC 0) (cK (.str (Str.ofString "\n"))))))
    (sSeq (sIf (cT2 neD (cB2 ixD (cVarC 1) (cB1 negD (cK (.int 1)))) (cK (.str (Str.ofString "")))) (sRaise 2) sNil)
    (sRet (cL (cLc [2] (cIt (cSl (cVarC 1) cO0 (cO (cB1 negD (cK (.int 1)))))) (gNm 2) cYes (cL (cM1F splitD (cVarC 2) (cK (.str (Str.ofString " ")))))))))))
def G_number_of : List D → R D := runF 2 1
    (sSeq (sIf (cOr (cNot (cCh leD leD (cK (.int 1)) (cB1 lenD (cVarC 0)) (cK (.int 3)))) (cOr (cNot (cT1 truD (cB1 allD (cL (cLc [1] (cIt (cVar 0)) (gNm 1) cYes (cBl (cT2 inD (cVarC 1) (cK (.str (Str.ofString "0123456789")))))))))) (cT2 neD (cB1 strD (cB1 intD (cVarC 0))) (cVarC 0)))) (sRaise 2) sNil)
    (sRet (cB1 intD (cVarC 0))))
def G_front : List D → R D := runF 3 3
    (sSeq (sIf (cOr (cT2 eqD (cB1 lenD (cVarC 0)) (cK (.int 0))) (cOr (cT2 neD (cB2 ixD (cB2 ixD (cVarC 0) (cK (.int 0))) (cK (.int 0))) (cVarC 1)) (cT2 neD (cB1 lenD (cB2 ixD (cVarC 0) (cK (.int 0)))) (cVarC 2)))) (sRaise 2) sNil)
    (sRet (cSl (cB2 ixD (cVarC 0) (cK (.int 0))) (cO (cK (.int 1))) cO0)))
def G_lambda : List D → R D := runL (cCall G_check_claims (cCons (cB2 ixD (cVarC 0) (cK (.int 0))) (cCons (cB2 ixD (cVarC 0) (cK (.int 1))) cNil)))
def G_checked : List D → R D := runF 2 2
    (sSeq (sTryR (sEx (cCallL 0 [((Str.ofString "check_system"), G_check_system), ((Str.ofString "check_duel"), G_check_duel)] G_lambda (cCons (cVar 1) cNil))) mt_KerbError 2)
    (sRet (cVar 1)))
def G_read_system : List D → R D := runF 7 1
    (sSeq (sSet 1 (cCall G_rows_of (cCons (cVar 0) cNil)))
    (sSeq (sSet 2 (cCall G_number_of (cCons (cB2 ixD (cCall G_front (cCons (cVar 1) (cCons (cK (.str (Str.ofString "unknowns"))) (cCons (cK (.int 2)) cNil)))) (cK (.int 0))) cNil)))
    (sSeq (sOwn 3 (cLst cNil))
    (sSeq (sFor (cIt (cSl (cVarC 1) (cO (cK (.int 1))) cO0)) (gNm 4) (sSeq (sIf (cT2 ltD (cB1 lenD (cVarC 4)) (cK (.int 3))) (sRaise 2) sNil)
    (sSeq (sSet 5 (cB1 tupD (cL (cLc [6] (cIt (cSl (cVarC 4) cO0 (cO (cB1 negD (cK (.int 2)))))) (gNm 6) cYes (cCall G_read_ratio (cCons (cVar 6) cNil))))))
    (sApp 3 (cTup (cCons (cVar 5) (cCons (cB2 ixD (cVarC 4) (cB1 negD (cK (.int 2)))) (cCons (cCall G_read_ratio (cCons (cB2 ixD (cVarC 4) (cB1 negD (cK (.int 1)))) cNil)) cNil))))))))
    (sRet (cCall G_checked (cCons (cK (fnD (Str.ofString "check_system"))) (cCons (cTup (cCons (cVar 2) (cCons (cB1 tupD (cVarC 3)) cNil))) cNil))))))))
def G_read_duel : List D → R D := runF 4 1
    (sSeq (sSet 1 (cCall G_rows_of (cCons (cVar 0) cNil)))
    (sSeq (sEx (cCall G_front (cCons (cVar 1) (cCons (cK (.str (Str.ofString "duel"))) (cCons (cK (.int 1)) cNil)))))
    (sSeq (sIf (cT2 ltD (cB1 lenD (cVarC 1)) (cK (.int 2))) (sRaise 2) sNil)
    (sRet (cCall G_checked (cCons (cK (fnD (Str.ofString "check_duel"))) (cCons (cB1 tupD (cL (cLc [2] (cIt (cSl (cVarC 1) (cO (cK (.int 1))) cO0)) (gNm 2) cYes (cB1 tupD (cL (cLc [3] (cIt (cVar 2)) (gNm 3) cYes (cCall G_read_ratio (cCons (cVar 3) cNil)))))))) cNil)))))))
def G_read_claims : List D → R D := runF 8 1
    (sSeq (sSet 1 (cCall G_rows_of (cCons (cVar 0) cNil)))
    (sSeq (sSet 2 (cCall G_number_of (cCons (cB2 ixD (cCall G_front (cCons (cVar 1) (cCons (cK (.str (Str.ofString "events"))) (cCons (cK (.int 2)) cNil)))) (cK (.int 0))) cNil)))
    (sSeq (sOwn 3 (cLst cNil))
    (sSeq (sFor (cIt (cSl (cVarC 1) (cO (cK (.int 1))) cO0)) (gNm 4) (sSeq (sIf (cT2 neD (cB1 lenD (cVarC 4)) (cK (.int 3))) (sRaise 2) sNil)
    (sSeq (sSet 6 (cIf (cT2 eqD (cB2 ixD (cVarC 4) (cK (.int 0))) (cK (.str (Str.ofString "none")))) (cTup cNil) (cB1 tupD (cL (cLc [7] (cIt (cL (cM1F splitD (cB2 ixD (cVarC 4) (cK (.int 0))) (cK (.str (Str.ofString "+")))))) (gNm 7) cYes (cCall G_number_of (cCons (cVar 7) cNil)))))))
    (sApp 3 (cTup (cCons (cVar 6) (cCons (cB2 ixD (cVarC 4) (cK (.int 1))) (cCons (cCall G_read_ratio (cCons (cB2 ixD (cVarC 4) (cK (.int 2))) cNil)) cNil))))))))
    (sSeq (sSet 5 (cTup (cCons (cVar 2) (cCons (cB1 tupD (cVarC 3)) cNil))))
    (sRet (cCall G_checked (cCons (cK (.dict [(.none, .none)])) (cCons (cVar 5) cNil)))))))))
def G__law_same : List D → R D := runF 2 2
    (sRet (cBl (cT2 eqD (cB1 reprD (cL (cLst (cCons (cVar 0) cNil)))) (cB1 reprD (cL (cLst (cCons (cVar 1) cNil)))))))
def G__law_stream : List D → R D := runF 6 1
    (sSeq (sOwn 1 (cLst cNil))
    (sSeq (sFor (cIt (cSl (cVarC 0) cO0 (cO (cK (.int 63))))) (gNm 2) (sSeq (sSet 3 (cB1 absD (cB1 intD (cVarC 2))))
    (sIf (cT2 geD (cVarC 3) (cB2 powD (cK (.int 10)) (cK (.int 18)))) (sFor (cR1 (cK (.int 60))) (gNm 4) (sSeq (sApp 1 (cB2 modD (cB1 intD (cVarC 3)) (cK (.int 1009))))
    (sSeq (sSet 3 (cB2 fdivD (cVarC 3) (cK (.int 1009))))
    (sIf (cT2 eqD (cVarC 3) (cK (.int 0))) sBrk sNil)))) (sSeq (sSet 5 (cB2 modD (cB1 intD (cVarC 3)) (cK (.int 2147483647))))
    (sFor (cR1 (cK (.int 10))) (gNm 4) (sSeq (sSet 5 (cB2 modD (cB1 intD (cB2 addD (cB2 addD (cB2 mulD (cVarC 5) (cK (.int 48271))) (cB2 mulD (cK (.int 7)) (cVarC 4))) (cK (.int 11)))) (cK (.int 2147483647))))
    (sApp 1 (cB2 modD (cB2 modD (cB1 intD (cB2 addD (cB2 mulD (cVarC 5) (cK (.int 69621))) (cVarC 4))) (cK (.int 2147483629))) (cK (.int 1009))))))))))
    (sSeq (sIf (cT2 eqD (cB1 lenD (cVarC 1)) (cK (.int 0))) (sApp 1 (cK (.int 0))) sNil)
    (sRel 1 (sRet (cVar 1))))))
def G__law_next : List D → List D → RS := runX 3 2
    (sSeq (sPut 0 (cK (.int 1)) (cB2 addD (cB2 ixD (cVarC 0) (cK (.int 1))) (cK (.int 1))))
    (sSeq (sSet 2 (cB2 fdivD (cB2 ixD (cVarC 0) (cK (.int 1))) (cB1 lenD (cB2 ixD (cVarC 0) (cK (.int 0))))))
    (sRet (cB2 modD (cB1 intD (cB2 addD (cB2 addD (cB2 ixD (cB2 ixD (cVarC 0) (cK (.int 0))) (cB2 modD (cB2 ixD (cVarC 0) (cK (.int 1))) (cB1 lenD (cB2 ixD (cVarC 0) (cK (.int 0)))))) (cB2 mulD (cVarC 2) (cK (.int 389)))) (cB2 mulD (cB2 mulD (cB2 ixD (cVarC 0) (cK (.int 1))) (cVarC 2)) (cK (.int 17))))) (cVarC 1)))))
def G__law_ratio : List D → R D := runF 6 2
    (sSeq (sSet 2 (cB1 absD (cVarC 0)))
    (sSeq (sSet 3 (cB1 absD (cVarC 1)))
    (sSeq (sFor (cR1 (cK (.int 4000))) (gNm 4) (sSeq (sIf (cT2 eqD (cVarC 3) (cK (.int 0))) sBrk sNil)
    (sSeq (sSet 5 (cB2 modD (cB1 intD (cVarC 2)) (cVarC 3)))
    (sSeq (sSet 2 (cVar 3))
    (sSet 3 (cVar 5))))))
    (sSeq (sIf (cT2 ltD (cVarC 1) (cK (.int 0))) (sSet 2 (cB2 subD (cK (.int 0)) (cVarC 2))) sNil)
    (sRet (cTup (cCons (cB2 fdivD (cVarC 0) (cVarC 2)) (cCons (cB2 fdivD (cVarC 1) (cVarC 2)) cNil))))))))
def G__law_drawn : List D → List D → RS := runX 2 2
    (xRet (xCall G__law_ratio (xCons (xB2 subD (xCallS 0 G__law_next (xCons (xP (cB2 addD (cB2 mulD (cK (.int 2)) (cVarC 1)) (cK (.int 1)))) xNil)) (xP (cVar 1))) (xCons (xB2 ixD (xP (cL (cLst (cCons (cK (.int 1)) (cCons (cK (.int 1)) (cCons (cK (.int 2)) cNil)))))) (xCallS 0 G__law_next (xCons (xP (cK (.int 3))) xNil))) xNil))))
def G__law_row : List D → List D → RS := runX 4 3
    (xRet (xB1 tupD (xLc [3] (cR1 (cVar 1)) (gNm 3) xYes (xCallS 0 G__law_drawn (xCons (xP (cVar 2)) xNil)))))
def G__law_conditions : List D → List D → RS := runX 6 3
    (sSeq (sOwn 3 (cLst cNil))
    (sSeq (xFor (xR1 (xCallS 0 G__law_next (xCons (xP (cB2 addD (cVarC 2) (cK (.int 1)))) xNil))) (gNm 4) (sSeq (xSet 5 (xB2 ixD (xP (cL (cLst (cCons (cK (.str (Str.ofString "<="))) (cCons (cK (.str (Str.ofString "<="))) (cCons (cK (.str (Str.ofString "<="))) (cCons (cK (.str (Str.ofString "="))) cNil))))))) (xCallS 0 G__law_next (xCons (xP (cK (.int 4))) xNil))))
    (xApp 3 (xTup (xCons (xCallS 0 G__law_row (xCons (xP (cVar 1)) (xCons (xP (cK (.int 3))) xNil))) (xCons (xP (cVar 5)) (xCons (xCall G__law_ratio (xCons (xB2 subD (xCallS 0 G__law_next (xCons (xP (cK (.int 13))) xNil)) (xP (cK (.int 3)))) (xCons (xB2 addD (xP (cK (.int 1))) (xCallS 0 G__law_next (xCons (xP (cK (.int 2))) xNil))) xNil))) xNil)))))))
    (sRet (cB1 tupD (cVarC 3)))))
def G__law_bad : List D → R D := runF 3 1
    (sSeq (sAsg (gTp (gsCons (gNm 1) (gsCons (gNm 2) gsNil))) (cVar 0))
    (sRet (cTup (cCons (cVar 1) (cCons (cB2 addD (cVarC 2) (cTup (cCons (cTup (cCons (cB2 repD (cTup (cCons (cTup (cCons (cK (.int 1)) (cCons (cK (.int 1)) cNil))) cNil)) (cB2 addD (cVarC 1) (cK (.int 1)))) (cCons (cK (.str (Str.ofString "<="))) (cCons (cTup (cCons (cK (.int 0)) (cCons (cK (.int 1)) cNil))) cNil)))) cNil))) cNil)))))
def G__law_duel : List D → List D → RS := runX 6 2
    (sSeq (xSet 2 (xB2 addD (xP (cK (.int 1))) (xCallS 0 G__law_next (xCons (xP (cVar 1)) xNil))))
    (sSeq (xSet 3 (xB2 addD (xP (cK (.int 1))) (xCallS 0 G__law_next (xCons (xP (cVar 1)) xNil))))
    (xRet (xB1 tupD (xLc [4] (cR1 (cVar 2)) (gNm 4) xYes (xB1 tupD (xLc [5] (cR1 (cVar 3)) (gNm 5) xYes (xCallS 0 G__law_drawn (xCons (xP (cK (.int 4))) xNil)))))))))
def G__law_rows : List D → List D → RS := runX 3 2
    (xRet (xB1 tupD (xLc [2] (cR1 (cB2 shlD (cK (.int 1)) (cVarC 1))) (gNm 2) (xT2 eqD (xCallS 0 G__law_next (xCons (xP (cK (.int 2))) xNil)) (xP (cK (.int 0)))) (xP (cVar 2)))))
def G__law_claims : List D → List D → RS := runX 6 3
    (sSeq (sOwn 3 (cLst cNil))
    (sSeq (xFor (xR1 (xCallS 0 G__law_next (xCons (xP (cB2 addD (cVarC 2) (cK (.int 1)))) xNil))) (gNm 4) (sSeq (xSet 5 (xB2 addD (xP (cK (.int 1))) (xCallS 0 G__law_next (xCons (xP (cK (.int 6))) xNil))))
    (xApp 3 (xTup (xCons (xCallS 0 G__law_rows (xCons (xP (cVar 1)) xNil)) (xCons (xB2 ixD (xP (cL (cLst (cCons (cK (.str (Str.ofString "<="))) (cCons (cK (.str (Str.ofString "="))) (cCons (cK (.str (Str.ofString ">="))) cNil)))))) (xCallS 0 G__law_next (xCons (xP (cK (.int 3))) xNil))) (xCons (xCall G__law_ratio (xCons (xCallS 0 G__law_next (xCons (xP (cB2 addD (cVarC 5) (cK (.int 1)))) xNil)) (xCons (xP (cVar 5)) xNil))) xNil)))))))
    (sRet (cB1 tupD (cVarC 3)))))
def G__law_told : List D → R D := runF 3 2
    (sTryE 2 (sSeq (sIf (cT2 eqD (cVarC 0) (cK (.int 2))) (sRet (cTup (cCons (cK (.str (Str.ofString "told"))) (cCons (cCall G_claims_text (cCons (cB2 ixD (cVarC 1) (cK (.int 0))) (cCons (cB2 ixD (cVarC 1) (cK (.int 1))) cNil))) cNil)))) sNil)
    (sRet (cTup (cCons (cK (.str (Str.ofString "told"))) (cCons (cCallE [((Str.ofString "system_text"), G_system_text), ((Str.ofString "duel_text"), G_duel_text), ((Str.ofString "read_system"), G_read_system), ((Str.ofString "read_duel"), G_read_duel), ((Str.ofString "read_claims"), G_read_claims)] (cB2 ixD (cL (cLst (cCons (cK (fnD (Str.ofString "system_text"))) (cCons (cK (fnD (Str.ofString "duel_text"))) (cCons (cK .none) (cCons (cK (fnD (Str.ofString "read_system"))) (cCons (cK (fnD (Str.ofString "read_duel"))) (cCons (cK (fnD (Str.ofString "read_claims"))) cNil)))))))) (cVarC 0)) (cCons (cVar 1) cNil)) cNil))))) mt_KerbError ans__law_error)
def G__law_part : List D → R D := runF 1 1
    (sSeq (sIf (cT2 eqD (cB2 ixD (cVarC 0) (cK (.int 1))) (cK (.int 1))) (sRet (cB1 strD (cB2 ixD (cVarC 0) (cK (.int 0))))) sNil)
    (sRet (cB2 addD (cB2 addD (cB1 strD (cB2 ixD (cVarC 0) (cK (.int 0)))) (cK (.str (Str.ofString "/")))) (cB1 strD (cB2 ixD (cVarC 0) (cK (.int 1)))))))
def G__law_text : List D → R D := runF 10 2
    (sSeq (sIf (cT2 eqD (cVarC 0) (cK (.int 0))) (sSeq (sOwn 2 (cLst (cCons (cB2 addD (cK (.str (Str.ofString "unknowns "))) (cB1 strD (cB2 ixD (cVarC 1) (cK (.int 0))))) cNil)))
    (sOwn 2 (cCat (cVarC 2) (cL (cLc [6, 4, 7] (cIt (cB2 ixD (cVarC 1) (cK (.int 1)))) (gTp (gsCons (gNm 6) (gsCons (gNm 4) (gsCons (gNm 7) gsNil)))) cYes (cM1 joinD (cK (.str (Str.ofString " "))) (cB2 addD (cL (cLc [8] (cIt (cVar 6)) (gNm 8) cYes (cCall G__law_part (cCons (cVar 8) cNil)))) (cL (cLst (cCons (cVar 4) (cCons (cCall G__law_part (cCons (cVar 7) cNil)) cNil))))))))))) (sIf (cT2 eqD (cVarC 0) (cK (.int 1))) (sOwn 2 (cCat (cL (cLst (cCons (cK (.str (Str.ofString "duel"))) cNil))) (cL (cLc [6] (cIt (cVar 1)) (gNm 6) cYes (cM1 joinD (cK (.str (Str.ofString " "))) (cL (cLc [8] (cIt (cVar 6)) (gNm 8) cYes (cCall G__law_part (cCons (cVar 8) cNil))))))))) (sSeq (sOwn 2 (cLst (cCons (cB2 addD (cK (.str (Str.ofString "events "))) (cB1 strD (cB2 ixD (cVarC 1) (cK (.int 0))))) cNil)))
    (sFor (cIt (cB2 ixD (cVarC 1) (cK (.int 1)))) (gTp (gsCons (gNm 3) (gsCons (gNm 4) (gsCons (gNm 5) gsNil)))) (sApp 2 (cB2 addD (cB2 addD (cB2 addD (cB2 addD (cB2 ixD (cL (cLst (cCons (cM1 joinD (cK (.str (Str.ofString "+"))) (cL (cLc [9] (cIt (cVar 3)) (gNm 9) cYes (cB1 strD (cVarC 9))))) (cCons (cK (.str (Str.ofString "none"))) cNil)))) (cB1 intD (cBl (cT2 eqD (cB1 lenD (cVarC 3)) (cK (.int 0)))))) (cK (.str (Str.ofString " ")))) (cVarC 4)) (cK (.str (Str.ofString " ")))) (cCall G__law_part (cCons (cVar 5) cNil))))))))
    (sRel 2 (sRet (cM1 joinD (cK (.str (Str.ofString ""))) (cL (cLc [6] (cIt (cVar 2)) (gNm 6) cYes (cB2 addD (cVarC 6) (cK (.str (Str.ofString "\n"))))))))))
def G__law_spoilt : List D → List D → RS := runX 7 2
    (sSeq (xSet 2 (xCallS 0 G__law_next (xCons (xP (cB2 addD (cB1 lenD (cVarC 1)) (cK (.int 1)))) xNil)))
    (sSeq (xSet 3 (xB2 ixD (xP (cK (.str (Str.ofString " -/019<=+x\n")))) (xCallS 0 G__law_next (xCons (xP (cK (.int 11))) xNil))))
    (sSeq (sSet 4 (cL (cM1F splitD (cVarC 1) (cK (.str (Str.ofString "\n"))))))
    (sSeq (xSet 5 (xCallS 0 G__law_next (xCons (xP (cB1 lenD (cVarC 4))) xNil)))
    (sSeq (sSet 6 (cL (cLst (cCons (cB2 addD (cSl (cVarC 1) cO0 (cO (cVar 2))) (cSl (cVarC 1) (cO (cB2 addD (cVarC 2) (cK (.int 1)))) cO0)) (cCons (cB2 addD (cB2 addD (cSl (cVarC 1) cO0 (cO (cVar 2))) (cVarC 3)) (cSl (cVarC 1) (cO (cVar 2)) cO0)) (cCons (cB2 addD (cB2 addD (cSl (cVarC 1) cO0 (cO (cVar 2))) (cVarC 3)) (cSl (cVarC 1) (cO (cB2 addD (cVarC 2) (cK (.int 1)))) cO0)) (cCons (cSl (cVarC 1) cO0 (cO (cB1 negD (cK (.int 1))))) (cCons (cB2 addD (cK (.str (Str.ofString " "))) (cVarC 1)) cNil))))))))
    (xRet (xB2 ixD (xP (cB2 addD (cVarC 6) (cL (cLst (cCons (cM1 joinD (cK (.str (Str.ofString "\n"))) (cB2 addD (cSl (cVarC 4) cO0 (cO (cVar 5))) (cSl (cVarC 4) (cO (cB2 addD (cVarC 5) (cK (.int 1)))) cO0))) (cCons (cM1 joinD (cK (.str (Str.ofString "\n"))) (cB2 addD (cB2 addD (cSl (cVarC 4) cO0 (cO (cVar 5))) (cSl (cVarC 4) (cO (cVar 5)) (cO (cB2 addD (cVarC 5) (cK (.int 1)))))) (cSl (cVarC 4) (cO (cVar 5)) cO0))) cNil)))))) (xCallS 0 G__law_next (xCons (xP (cK (.int 7))) xNil)))))))))
def G_law : List D → R D := runF 13 1
    (sSeq (sOwn 1 (cLst (cCons (cCall G__law_stream (cCons (cVar 0) cNil)) (cCons (cK (.int 0)) cNil))))
    (sSeq (sFor (cR1 (cK (.int 4))) (gNm 2) (sSeq (xSet 5 (xB2 addD (xP (cK (.int 1))) (xCallS 1 G__law_next (xCons (xP (cK (.int 4))) xNil))))
    (sSeq (xSet 6 (xB2 addD (xP (cK (.int 1))) (xCallS 1 G__law_next (xCons (xP (cK (.int 4))) xNil))))
    (sSeq (xSet 7 (xLst (xCons (xTup (xCons (xP (cVar 5)) (xCons (xCallS 1 G__law_conditions (xCons (xP (cVar 5)) (xCons (xP (cK (.int 4))) xNil))) xNil))) (xCons (xCallS 1 G__law_duel (xCons (xP (cK (.int 4))) xNil)) (xCons (xTup (xCons (xP (cVar 6)) (xCons (xCallS 1 G__law_claims (xCons (xP (cVar 6)) (xCons (xP (cK (.int 4))) xNil))) xNil))) xNil)))))
    (sSeq (sSet 8 (cB1 reprD (cVarC 7)))
    (sSeq (sFor (cR1 (cK (.int 3))) (gNm 4) (sSeq (sSet 10 (cCall G__law_text (cCons (cVar 4) (cCons (cB2 ixD (cVarC 7) (cVarC 4)) cNil))))
    (sSeq (sIf (cNot (cT1 truD (cCall G__law_same (cCons (cL (cLst (cCons (cCall G__law_told (cCons (cVar 4) (cCons (cB2 ixD (cVarC 7) (cVarC 4)) cNil))) (cCons (cCall G__law_told (cCons (cB2 addD (cVarC 4) (cK (.int 3))) (cCons (cVar 10) cNil))) cNil)))) (cCons (cL (cLst (cCons (cTup (cCons (cK (.str (Str.ofString "told"))) (cCons (cVar 10) cNil))) (cCons (cTup (cCons (cK (.str (Str.ofString "told"))) (cCons (cB2 ixD (cVarC 7) (cVarC 4)) cNil))) cNil)))) cNil))))) (sRet (cK (.bool false))) sNil)
    (sFor (cR1 (cK (.int 6))) (gNm 11) (sSeq (xSet 12 (xCallS 1 G__law_spoilt (xCons (xP (cVar 10)) xNil)))
    (sSeq (sSet 3 (cCall G__law_told (cCons (cB2 addD (cVarC 4) (cK (.int 3))) (cCons (cVar 12) cNil))))
    (sIf (cAnd (cT2 neD (cVarC 3) (cK (.str (Str.ofString "form")))) (cOr (cT2 neD (cB2 ixD (cVarC 3) (cK (.int 0))) (cK (.str (Str.ofString "told")))) (cOr (cT2 neD (cCall G__law_text (cCons (cVar 4) (cCons (cB2 ixD (cVarC 3) (cK (.int 1))) cNil))) (cVarC 12)) (cT2 neD (cCall G__law_told (cCons (cVar 4) (cCons (cB2 ixD (cVarC 3) (cK (.int 1))) cNil))) (cTup (cCons (cK (.str (Str.ofString "told"))) (cCons (cVar 12) cNil))))))) (sRet (cK (.bool false))) sNil)))))))
    (sSeq (sIf (cT2 neD (cB1 reprD (cVarC 7)) (cVarC 8)) (sRet (cK (.bool false))) sNil)
    (sSeq (sSet 9 (cL (cLst (cCons (cCall G__law_told (cCons (cK (.int 0)) (cCons (cCall G__law_bad (cCons (cB2 ixD (cVarC 7) (cK (.int 0))) cNil)) cNil))) (cCons (cCall G__law_told (cCons (cK (.int 1)) (cCons (cB2 addD (cB2 ixD (cVarC 7) (cK (.int 1))) (cTup (cCons (cB2 addD (cB2 ixD (cB2 ixD (cVarC 7) (cK (.int 1))) (cK (.int 0))) (cTup (cCons (cTup (cCons (cK (.int 1)) (cCons (cK (.int 1)) cNil))) cNil))) cNil))) cNil))) (cCons (cCall G__law_told (cCons (cK (.int 2)) (cCons (cTup (cCons (cK (.int 5)) (cCons (cTup cNil) cNil))) cNil))) (cCons (cCall G__law_told (cCons (cK (.int 2)) (cCons (cTup (cCons (cVar 6) (cCons (cTup (cCons (cTup (cCons (cTup cNil) (cCons (cK (.str (Str.ofString "is"))) (cCons (cTup (cCons (cK (.int 0)) (cCons (cK (.int 1)) cNil))) cNil)))) cNil)) cNil))) cNil))) cNil)))))))
    (sIf (cT2 neD (cVarC 9) (cL (cRepF (cLst (cCons (cK (.str (Str.ofString "refused"))) cNil)) 4))) (sRet (cK (.bool false))) sNil)))))))))
    (sSeq (sOwn 3 (cLst cNil))
    (sSeq (sFor (cR1 (cK (.int 3))) (gNm 4) (xsExt 3 (cLc [10] (cIt (cL (cLst (cCons (cK (.str (Str.ofString ""))) (cCons (cK (.str (Str.ofString "\n"))) (cCons (cK (.str (Str.ofString "duel\n"))) (cCons (cK (.str (Str.ofString "unknowns 0\n"))) (cCons (cK (.str (Str.ofString "events 5\n"))) (cCons (cK (.str (Str.ofString "unknowns 1\n1 < 2\n"))) (cCons (cB2 repD (cK (.str (Str.ofString "x"))) (cK (.int 60001))) (cCons (cK (.str (Str.ofString "duel\n1/0\n"))) (cCons (cK (.str (Str.ofString "events 1\n+ = 1\n"))) (cCons (cK (.str (Str.ofString "events 1\n1+0 = 1\n"))) cNil))))))))))))) (gNm 10) cYes (cCall G__law_told (cCons (cB2 addD (cVarC 4) (cK (.int 3))) (cCons (cVar 10) cNil))))))
    (sRet (cAndV (cBl (cT2 eqD (cVarC 3) (cL (cRepF (cLst (cCons (cK (.str (Str.ofString "form"))) cNil)) 30)))) (cBl (cT2 eqD (cK (.int 60000)) (cK (.int 60000))))))))))
structure Txt (K : PySem.W.Frag) (w : World) (mg : Str → Option Value) (cm : Nat → Addr) : Prop where
  b_abs : mg (Str.ofString "abs") = none
  b_all : mg (Str.ofString "all") = none
  b_int : mg (Str.ofString "int") = none
  b_isinstance : mg (Str.ofString "isinstance") = none
  b_len : mg (Str.ofString "len") = none
  b_list : mg (Str.ofString "list") = none
  b_range : mg (Str.ofString "range") = none
  b_repr : mg (Str.ofString "repr") = none
  b_set : mg (Str.ofString "set") = none
  b_sorted : mg (Str.ofString "sorted") = none
  b_str : mg (Str.ofString "str") = none
  b_sum : mg (Str.ofString "sum") = none
  b_tuple : mg (Str.ofString "tuple") = none
  c_DIGITS : GlobD K mg (Str.ofString "DIGITS") (.str (Str.ofString "0123456789"))
  c_MAX_CHOICES : GlobD K mg (Str.ofString "MAX_CHOICES") (.int 8)
  c_MAX_CLAIMS : GlobD K mg (Str.ofString "MAX_CLAIMS") (.int 12)
  c_MAX_CONDITIONS : GlobD K mg (Str.ofString "MAX_CONDITIONS") (.int 40)
  c_MAX_EVENTS : GlobD K mg (Str.ofString "MAX_EVENTS") (.int 4)
  c_MAX_ROWS_TEXT : GlobD K mg (Str.ofString "MAX_ROWS_TEXT") (.int 60000)
  c_MAX_TEXT : GlobD K mg (Str.ofString "MAX_TEXT") (.int 60)
  c_MAX_WIDTH : GlobD K mg (Str.ofString "MAX_WIDTH") (.int 24)
  c_ONE : GlobD K mg (Str.ofString "ONE") (.tuple [(.int 1), (.int 1)])
  c_RELATIONS : GlobD K mg (Str.ofString "RELATIONS") (.tuple [(.str (Str.ofString "<=")), (.str (Str.ofString "="))])
  v_check_duel : GlobD K mg (Str.ofString "check_duel") (fnD (Str.ofString "check_duel"))
  v_check_system : GlobD K mg (Str.ofString "check_system") (fnD (Str.ofString "check_system"))
  v_duel_text : GlobD K mg (Str.ofString "duel_text") (fnD (Str.ofString "duel_text"))
  v_read_claims : GlobD K mg (Str.ofString "read_claims") (fnD (Str.ofString "read_claims"))
  v_read_duel : GlobD K mg (Str.ofString "read_duel") (fnD (Str.ofString "read_duel"))
  v_read_system : GlobD K mg (Str.ofString "read_system") (fnD (Str.ofString "read_system"))
  v_system_text : GlobD K mg (Str.ofString "system_text") (fnD (Str.ofString "system_text"))
  e_BadForm : ZExc K mg cm (Str.ofString "BadForm") 2
  e_BadPaper : ZExc K mg cm (Str.ofString "BadPaper") 3
  e_Endless : ZExc K mg cm (Str.ofString "Endless") 6
  e_Full : ZExc K mg cm (Str.ofString "Full") 7
  e_KerbError : ZExc K mg cm (Str.ofString "KerbError") 0
  e_Missing : ZExc K mg cm (Str.ofString "Missing") 4
  e_Never : ZExc K mg cm (Str.ofString "Never") 5
  e_NotAllowed : ZExc K mg cm (Str.ofString "NotAllowed") 1
  m_KerbError : ∀ i b, mt_KerbError i = some b → PySem.W.exmOne K (.ref (cm i)) (.ref (cm 0)) = some b
  f_common : FnHas K mg (Str.ofString "common") s_common [(Str.ofString "first"), (Str.ofString "second")]
  f_is_ratio : FnHas K mg (Str.ofString "is_ratio") s_is_ratio [(Str.ofString "pair")]
  f_negated : FnHas K mg (Str.ofString "negated") s_negated [(Str.ofString "first")]
  f_sign_of : FnHas K mg (Str.ofString "sign_of") s_sign_of [(Str.ofString "first")]
  f_compare : FnHas K mg (Str.ofString "compare") s_compare [(Str.ofString "first"), (Str.ofString "second")]
  f_ratio_text : FnHas K mg (Str.ofString "ratio_text") s_ratio_text [(Str.ofString "first")]
  f_is_digits : FnHas K mg (Str.ofString "is_digits") s_is_digits [(Str.ofString "text")]
  f_read_ratio : FnHas K mg (Str.ofString "read_ratio") s_read_ratio [(Str.ofString "text")]
  f_check_system : FnHas K mg (Str.ofString "check_system") s_check_system [(Str.ofString "system")]
  f_check_events : FnHas K mg (Str.ofString "check_events") s_check_events [(Str.ofString "many")]
  f_check_rows : FnHas K mg (Str.ofString "check_rows") s_check_rows [(Str.ofString "many"), (Str.ofString "rows")]
  f_check_claims : FnHas K mg (Str.ofString "check_claims") s_check_claims [(Str.ofString "many"), (Str.ofString "claims")]
  f_check_duel : FnHas K mg (Str.ofString "check_duel") s_check_duel [(Str.ofString "duel")]
  f_row_text : FnHas K mg (Str.ofString "row_text") s_row_text [(Str.ofString "parts")]
  f_system_text : FnHas K mg (Str.ofString "system_text") s_system_text [(Str.ofString "system")]
  f_duel_text : FnHas K mg (Str.ofString "duel_text") s_duel_text [(Str.ofString "duel")]
  f_claims_text : FnHas K mg (Str.ofString "claims_text") s_claims_text [(Str.ofString "many"), (Str.ofString "claims")]
  f_rows_of : FnHas K mg (Str.ofString "rows_of") s_rows_of [(Str.ofString "text")]
  f_number_of : FnHas K mg (Str.ofString "number_of") s_number_of [(Str.ofString "word")]
  f_front : FnHas K mg (Str.ofString "front") s_front [(Str.ofString "rows"), (Str.ofString "word"), (Str.ofString "many")]
  f_checked : FnHas K mg (Str.ofString "checked") s_checked [(Str.ofString "check"), (Str.ofString "value")]
  f_read_system : FnHas K mg (Str.ofString "read_system") s_read_system [(Str.ofString "text")]
  f_read_duel : FnHas K mg (Str.ofString "read_duel") s_read_duel [(Str.ofString "text")]
  f_read_claims : FnHas K mg (Str.ofString "read_claims") s_read_claims [(Str.ofString "text")]
  f__law_same : FnHas K mg (Str.ofString "_law_same") s__law_same [(Str.ofString "told"), (Str.ofString "due")]
  f__law_stream : FnHas K mg (Str.ofString "_law_stream") s__law_stream [(Str.ofString "script")]
  f__law_next : FnHas K mg (Str.ofString "_law_next") s__law_next [(Str.ofString "state"), (Str.ofString "many")]
  f__law_error : FnHas K mg (Str.ofString "_law_error") s__law_error [(Str.ofString "e")]
  f__law_ratio : FnHas K mg (Str.ofString "_law_ratio") s__law_ratio [(Str.ofString "n"), (Str.ofString "d")]
  f__law_drawn : FnHas K mg (Str.ofString "_law_drawn") s__law_drawn [(Str.ofString "state"), (Str.ofString "most")]
  f__law_row : FnHas K mg (Str.ofString "_law_row") s__law_row [(Str.ofString "state"), (Str.ofString "width"), (Str.ofString "most")]
  f__law_conditions : FnHas K mg (Str.ofString "_law_conditions") s__law_conditions [(Str.ofString "state"), (Str.ofString "width"), (Str.ofString "many")]
  f__law_bad : FnHas K mg (Str.ofString "_law_bad") s__law_bad [(Str.ofString "system")]
  f__law_duel : FnHas K mg (Str.ofString "_law_duel") s__law_duel [(Str.ofString "state"), (Str.ofString "most")]
  f__law_rows : FnHas K mg (Str.ofString "_law_rows") s__law_rows [(Str.ofString "state"), (Str.ofString "many")]
  f__law_claims : FnHas K mg (Str.ofString "_law_claims") s__law_claims [(Str.ofString "state"), (Str.ofString "many"), (Str.ofString "most")]
  f__law_told : FnHas K mg (Str.ofString "_law_told") s__law_told [(Str.ofString "kind"), (Str.ofString "call")]
  f__law_part : FnHas K mg (Str.ofString "_law_part") s__law_part [(Str.ofString "part")]
  f__law_text : FnHas K mg (Str.ofString "_law_text") s__law_text [(Str.ofString "kind"), (Str.ofString "value")]
  f__law_spoilt : FnHas K mg (Str.ofString "_law_spoilt") s__law_spoilt [(Str.ofString "state"), (Str.ofString "text")]
  x__law_error : ∀ i t, ans__law_error i = some t → ExcC K (cm i)
  k__law_error_0 : ∀ i t, ans__law_error i = some t → PySem.W.kitOne K (.ref (cm i)) (.ref (cm 1)) = some (is__law_error_0 i)
  k__law_error_1 : ∀ i t, ans__law_error i = some t → PySem.W.kitOne K (.ref (cm i)) (.ref (cm 4)) = some (is__law_error_1 i)
  k__law_error_2 : ∀ i t, ans__law_error i = some t → PySem.W.kitOne K (.ref (cm i)) (.ref (cm 5)) = some (is__law_error_2 i)
  k__law_error_3 : ∀ i t, ans__law_error i = some t → PySem.W.kitOne K (.ref (cm i)) (.ref (cm 6)) = some (is__law_error_3 i)
  k__law_error_4 : ∀ i t, ans__law_error i = some t → PySem.W.kitOne K (.ref (cm i)) (.ref (cm 3)) = some (is__law_error_4 i)
  k__law_error_5 : ∀ i t, ans__law_error i = some t → PySem.W.kitOne K (.ref (cm i)) (.ref (cm 2)) = some (is__law_error_5 i)
  k__law_error_6 : ∀ i t, ans__law_error i = some t → PySem.W.kitOne K (.ref (cm i)) (.ref (cm 7)) = some (is__law_error_6 i)
  lam : LamIs K lamT.1 lamT.2.1 lamT.2.2
section
variable {P : Program} {w : World} {K : PySem.W.Frag} {mg : Str → Option Value} {base : Heap} {cm : Nat → Addr}
theorem ok_lambda (T : Txt K w mg cm) (h_check_claims : ZFn P w K mg base cm (Str.ofString "check_claims") 3 G_check_claims) : LamOk P w K mg base cm 4 G_lambda := lamOk_of T.lam sc_lambda (fun _ _ _ _ => rfl) fun f c1 A outer s H E Am => (ze_call h_check_claims Am.toAmb (by decide) (za_cons (ze_ix (zk_var 0) (ze_k ze_int)) (za_cons (ze_ix (zk_var 0) (ze_k ze_int)) za_nil)))
theorem ok_common (T : Txt K w mg cm)  : ZFn P w K mg base cm (Str.ofString "common") 1 G_common := zfnH T.f_common sc_common fun f cdv A outer s H E Am =>
    (zss_cons (zs_set 0 Am.toAmb (ze_abs (zk_var 0) T.b_abs))
    (zss_cons (zs_set 1 Am.toAmb (ze_abs (zk_var 1) T.b_abs))
    (zss_cons (zs_while fuelW Am (zt_cmp (cmp_ne Am.toAmb) (zk_var 1) (ze_k ze_int) neD_nx) (zss_one (zs_par 0 1 Am.toAmb (ze_var 1) (ze_mod (zk_var 0) (zk_var 1)))))
    (zss_one (zs_ret (ze_var 0))))))
theorem ok_is_ratio (T : Txt K w mg cm) (h_common : ZFn P w K mg base cm (Str.ofString "common") 1 G_common) : ZFn P w K mg base cm (Str.ofString "is_ratio") 2 G_is_ratio := zfnH T.f_is_ratio sc_is_ratio fun f cdv A outer s H E Am =>
    (zss_one (zs_ret (ze_and (ze_cmp (cmp_eq Am.toAmb) (ze_k (ze_len (zk_var 0) T.b_len)) (ze_k ze_int) eqD_nx) (ze_and (ze_cmp cmp_ge (ze_k (ze_ix (zk_var 0) (ze_k ze_int))) (ze_k ze_int) geD_nx) (ze_one (ze_cmp (cmp_eq Am.toAmb) (ze_k (ze_call h_common Am.toAmb (by decide) (za_cons (ze_ix (zk_var 0) (ze_k ze_int)) (za_cons (ze_ix (zk_var 0) (ze_k ze_int)) za_nil)))) (ze_k ze_int) eqD_nx))))))
theorem ok_negated (T : Txt K w mg cm)  : ZFn P w K mg base cm (Str.ofString "negated") 1 G_negated := zfnH T.f_negated sc_negated fun f cdv A outer s H E Am =>
    (zss_one (zs_ret (ze_tup (za_cons (ze_neg (ze_k (ze_ix (zk_var 0) (ze_k ze_int)))) (za_cons (ze_ix (zk_var 0) (ze_k ze_int)) za_nil)))))
theorem ok_sign_of (T : Txt K w mg cm)  : ZFn P w K mg base cm (Str.ofString "sign_of") 1 G_sign_of := zfnH T.f_sign_of sc_sign_of fun f cdv A outer s H E Am =>
    (zss_cons (zs_if (zt_cmp (cmp_eq Am.toAmb) (ze_k (ze_ix (zk_var 0) (ze_k ze_int))) (ze_k ze_int) eqD_nx) (zss_one (zs_ret ze_int)) zss_nil)
    (zss_one (zs_ret (ze_if (zt_cmp cmp_gt (ze_k (ze_ix (zk_var 0) (ze_k ze_int))) (ze_k ze_int) gtD_nx) ze_int (ze_neg (ze_k ze_int))))))
theorem ok_compare (T : Txt K w mg cm) (h_sign_of : ZFn P w K mg base cm (Str.ofString "sign_of") 1 G_sign_of) : ZFn P w K mg base cm (Str.ofString "compare") 2 G_compare := zfnH T.f_compare sc_compare fun f cdv A outer s H E Am =>
    (zss_one (zs_ret (ze_call h_sign_of Am.toAmb (by decide) (za_cons (ze_tup (za_cons (ze_sub (ze_k (ze_mul (ze_k (ze_ix (zk_var 0) (ze_k ze_int))) (ze_k (ze_ix (zk_var 1) (ze_k ze_int))))) (ze_k (ze_mul (ze_k (ze_ix (zk_var 1) (ze_k ze_int))) (ze_k (ze_ix (zk_var 0) (ze_k ze_int)))))) (za_cons ze_int za_nil))) za_nil))))
theorem ok_ratio_text (T : Txt K w mg cm)  : ZFn P w K mg base cm (Str.ofString "ratio_text") 1 G_ratio_text := zfnH T.f_ratio_text sc_ratio_text fun f cdv A outer s H E Am =>
    (zss_cons (zs_if (zt_cmp (cmp_eq Am.toAmb) (ze_k (ze_ix (zk_var 0) (ze_k ze_int))) (ze_k ze_int) eqD_nx) (zss_one (zs_ret (ze_tostr (ze_k (ze_ix (zk_var 0) (ze_k ze_int))) T.b_str))) zss_nil)
    (zss_one (zs_ret (ze_joined (zj_cons (ze_fmt (ze_ix (zk_var 0) (ze_k ze_int))) (zj_cons ze_str (zj_cons (ze_fmt (ze_ix (zk_var 0) (ze_k ze_int))) zj_nil)))))))
theorem ok_is_digits (T : Txt K w mg cm)  : ZFn P w K mg base cm (Str.ofString "is_digits") 1 G_is_digits := zfnH T.f_is_digits sc_is_digits fun f cdv A outer s H E Am =>
    (zss_one (zs_ret (ze_and (ze_cmp (cmp_ne Am.toAmb) (zk_var 0) (ze_k ze_str) neD_nx) (ze_one (ze_all Am.toAmb (zf_k (zf_lc [((Str.ofString "sign"), 1)] Am.toAmb (zi_seq (ze_var 0)) (blkOk_by (N := N_is_digits) (sc := defScope s_is_digits) (by decide +kernel)) (fun _ _ _ _ _ => (zg_name 1 Am.toAmb.nd)) (fun _ _ _ _ _ Am1 => zts_nil) (fun _ _ _ _ _ _ _ _ Am1 => (ze_cmp (cmp_in Am1) (zk_var 1) (ze_k (ze_glob T.c_DIGITS)) inD_nx)))) T.b_all)))))
theorem ok_read_ratio (T : Txt K w mg cm) (h_is_digits : ZFn P w K mg base cm (Str.ofString "is_digits") 1 G_is_digits) (h_negated : ZFn P w K mg base cm (Str.ofString "negated") 1 G_negated) (h_is_ratio : ZFn P w K mg base cm (Str.ofString "is_ratio") 2 G_is_ratio) (h_ratio_text : ZFn P w K mg base cm (Str.ofString "ratio_text") 1 G_ratio_text) : ZFn P w K mg base cm (Str.ofString "read_ratio") 3 G_read_ratio := zfnH T.f_read_ratio sc_read_ratio fun f cdv A outer s H E Am =>
    (zss_cons (zs_if (zt_cmp cmp_gt (ze_k (ze_len (zk_var 0) T.b_len)) (ze_k (ze_glob T.c_MAX_TEXT)) gtD_nx) (zss_one (zs_raise Am T.e_BadForm)) zss_nil)
    (zss_cons (zs_set 1 Am.toAmb (ze_if (zt_cmp (cmp_eq Am.toAmb) (ze_k (ze_sl (zk_var 0) zo_none (zo_some ze_int))) (ze_k ze_str) eqD_nx) (ze_sl (zk_var 0) (zo_some ze_int) zo_none) (ze_var 0)))
    (zss_cons (zs_asg (ze_part (zk_var 1) (ze_k ze_str)) (zg_tup Am.toAmb.calm (zgs_cons (zg_name 3 Am.toAmb.nd) (zgs_cons (zg_name 4 Am.toAmb.nd) (zgs_cons (zg_name 5 Am.toAmb.nd) zgs_nil)))))
    (zss_cons (zs_if (zt_w (zw_or (zt_not (zt_of (ze_k (ze_call h_is_digits Am.toAmb (by decide) (za_cons (ze_var 3) za_nil))))) (zw_or1 (zt_w (zw_and (zt_cmp (cmp_ne Am.toAmb) (zk_var 4) (ze_k ze_str) neD_nx) (zw_and1 (zt_not (zt_of (ze_k (ze_call h_is_digits Am.toAmb (by decide) (za_cons (ze_var 5) za_nil))))))))))) (zss_one (zs_raise Am T.e_BadForm)) zss_nil)
    (zss_cons (zs_set 2 Am.toAmb (ze_tup (za_cons (ze_toint (zk_var 3) T.b_int) (za_cons (ze_if (zt_cmp (cmp_eq Am.toAmb) (zk_var 4) (ze_k ze_str) eqD_nx) ze_int (ze_toint (zk_var 5) T.b_int)) za_nil))))
    (zss_cons (zs_if (zt_cmp (cmp_eq Am.toAmb) (ze_k (ze_sl (zk_var 0) zo_none (zo_some ze_int))) (ze_k ze_str) eqD_nx) (zss_one (zs_set 2 Am.toAmb (ze_call h_negated Am.toAmb (by decide) (za_cons (ze_var 2) za_nil)))) zss_nil)
    (zss_cons (zs_if (zt_w (zw_or (zt_not (zt_of (ze_k (ze_call h_is_ratio Am.toAmb (by decide) (za_cons (ze_var 2) za_nil))))) (zw_or1 (zt_cmp (cmp_ne Am.toAmb) (ze_k (ze_call h_ratio_text Am.toAmb (by decide) (za_cons (ze_var 2) za_nil))) (zk_var 0) neD_nx)))) (zss_one (zs_raise Am T.e_BadForm)) zss_nil)
    (zss_one (zs_ret (ze_var 2))))))))))
theorem ok_check_system (T : Txt K w mg cm) (h_is_ratio : ZFn P w K mg base cm (Str.ofString "is_ratio") 2 G_is_ratio) : ZFn P w K mg base cm (Str.ofString "check_system") 3 G_check_system := zfnH T.f_check_system sc_check_system fun f cdv A outer s H E Am =>
    (zss_cons (zs_asg (ze_var 0) (zg_tup Am.toAmb.calm (zgs_cons (zg_name 1 Am.toAmb.nd) (zgs_cons (zg_name 2 Am.toAmb.nd) zgs_nil))))
    (zss_cons (zs_if (zt_w (zw_or (zt_cmp cmp_lt (zk_var 1) (ze_k ze_int) ltD_nx) (zw_or (zt_cmp cmp_gt (zk_var 1) (ze_k (ze_glob T.c_MAX_WIDTH)) gtD_nx) (zw_or1 (zt_cmp cmp_gt (ze_k (ze_len (zk_var 2) T.b_len)) (ze_k (ze_glob T.c_MAX_CONDITIONS)) gtD_nx))))) (zss_one (zs_raise Am T.e_NotAllowed)) zss_nil)
    (zss_one (zs_for Am (zi_seq (ze_var 2)) (zg_tup Am.toAmb.calm (zgs_cons (zg_name 3 Am.toAmb.nd) (zgs_cons (zg_name 4 Am.toAmb.nd) (zgs_cons (zg_name 5 Am.toAmb.nd) zgs_nil)))) (zss_cons (zs_if (zt_w (zw_or (zt_cmp (cmp_ne Am.toAmb) (ze_k (ze_len (zk_var 3) T.b_len)) (zk_var 1) neD_nx) (zw_or (zt_cmp (cmp_notIn Am.toAmb) (zk_var 4) (ze_k (ze_glob T.c_RELATIONS)) notInD_nx) (zw_or1 (zt_not (zt_of (ze_k (ze_call h_is_ratio Am.toAmb (by decide) (za_cons (ze_var 5) za_nil))))))))) (zss_one (zs_raise Am T.e_NotAllowed)) zss_nil)
    (zss_one (zs_if (zt_not (zt_of (ze_k (ze_all Am.toAmb (zf_k (zf_lc [((Str.ofString "part"), 6)] Am.toAmb (zi_seq (ze_var 3)) (blkOk_by (N := N_check_system) (sc := defScope s_check_system) (by decide +kernel)) (fun _ _ _ _ _ => (zg_name 6 Am.toAmb.nd)) (fun _ _ _ _ _ Am1 => zts_nil) (fun _ _ _ _ _ _ _ _ Am1 => (ze_call h_is_ratio Am1 (by decide) (za_cons (ze_var 6) za_nil))))) T.b_all)))) (zss_one (zs_raise Am T.e_NotAllowed)) zss_nil)))))))
theorem ok_check_events (T : Txt K w mg cm)  : ZFn P w K mg base cm (Str.ofString "check_events") 1 G_check_events := zfnH T.f_check_events sc_check_events fun f cdv A outer s H E Am =>
    (zss_one (zs_if (zt_not (zt_chain cmp_le cmp_le (ze_k ze_int) (zk_var 0) (ze_k (ze_glob T.c_MAX_EVENTS)) leD_nx leD_nx)) (zss_one (zs_raise Am T.e_NotAllowed)) zss_nil))
theorem ok_check_rows (T : Txt K w mg cm) (h_check_events : ZFn P w K mg base cm (Str.ofString "check_events") 1 G_check_events) : ZFn P w K mg base cm (Str.ofString "check_rows") 2 G_check_rows := zfnH T.f_check_rows sc_check_rows fun f cdv A outer s H E Am =>
    (zss_cons (zs_expr (ze_call h_check_events Am.toAmb (by decide) (za_cons (ze_var 0) za_nil)))
    (zss_one (zs_if (zt_w (zw_or (zt_cmp (cmp_ne Am.toAmb) (zf_k (zf_list (zk_var 1) T.b_list)) (zf_k (zf_sortedSet Am.toAmb.calm (zk_var 1) T.b_sorted T.b_set)) neD_nx) (zw_or1 (zt_not (zt_of (ze_k (ze_all Am.toAmb (zf_k (zf_lc [((Str.ofString "row"), 2)] Am.toAmb (zi_seq (ze_var 1)) (blkOk_by (N := N_check_rows) (sc := defScope s_check_rows) (by decide +kernel)) (fun _ _ _ _ _ => (zg_name 2 Am.toAmb.nd)) (fun _ _ _ _ _ Am1 => zts_nil) (fun _ _ _ _ _ _ _ _ Am1 => (ze_chain cmp_le cmp_lt (ze_k ze_int) (zk_var 2) (ze_k (ze_shl (ze_k ze_int) (zk_var 0))) leD_nx ltD_nx)))) T.b_all))))))) (zss_one (zs_raise Am T.e_NotAllowed)) zss_nil)))
theorem ok_check_claims (T : Txt K w mg cm) (h_check_events : ZFn P w K mg base cm (Str.ofString "check_events") 1 G_check_events) (h_check_rows : ZFn P w K mg base cm (Str.ofString "check_rows") 2 G_check_rows) (h_is_ratio : ZFn P w K mg base cm (Str.ofString "is_ratio") 2 G_is_ratio) (h_sign_of : ZFn P w K mg base cm (Str.ofString "sign_of") 1 G_sign_of) (h_compare : ZFn P w K mg base cm (Str.ofString "compare") 2 G_compare) : ZFn P w K mg base cm (Str.ofString "check_claims") 3 G_check_claims := zfnH T.f_check_claims sc_check_claims fun f cdv A outer s H E Am =>
    (zss_cons (zs_expr (ze_call h_check_events Am.toAmb (by decide) (za_cons (ze_var 0) za_nil)))
    (zss_cons (zs_if (zt_cmp cmp_gt (ze_k (ze_len (zk_var 1) T.b_len)) (ze_k (ze_glob T.c_MAX_CLAIMS)) gtD_nx) (zss_one (zs_raise Am T.e_NotAllowed)) zss_nil)
    (zss_one (zs_for Am (zi_seq (ze_var 1)) (zg_tup Am.toAmb.calm (zgs_cons (zg_name 2 Am.toAmb.nd) (zgs_cons (zg_name 3 Am.toAmb.nd) (zgs_cons (zg_name 4 Am.toAmb.nd) zgs_nil)))) (zss_cons (zs_expr (ze_call h_check_rows Am.toAmb (by decide) (za_cons (ze_var 0) (za_cons (ze_var 2) za_nil))))
    (zss_one (zs_if (zt_w (zw_or (zt_cmp (cmp_notIn Am.toAmb) (zk_var 3) (ze_k (ze_tup (za_cons ze_str (za_cons ze_str (za_cons ze_str za_nil))))) notInD_nx) (zw_or (zt_not (zt_of (ze_k (ze_call h_is_ratio Am.toAmb (by decide) (za_cons (ze_var 4) za_nil))))) (zw_or (zt_cmp cmp_lt (ze_k (ze_call h_sign_of Am.toAmb (by decide) (za_cons (ze_var 4) za_nil))) (ze_k ze_int) ltD_nx) (zw_or1 (zt_cmp cmp_gt (ze_k (ze_call h_compare Am.toAmb (by decide) (za_cons (ze_var 4) (za_cons (ze_glob T.c_ONE) za_nil)))) (ze_k ze_int) gtD_nx)))))) (zss_one (zs_raise Am T.e_NotAllowed)) zss_nil)))))))
theorem ok_check_duel (T : Txt K w mg cm) (h_is_ratio : ZFn P w K mg base cm (Str.ofString "is_ratio") 2 G_is_ratio) : ZFn P w K mg base cm (Str.ofString "check_duel") 3 G_check_duel := zfnH T.f_check_duel sc_check_duel fun f cdv A outer s H E Am =>
    (zss_cons (zs_if (zt_w (zw_or (zt_not (zt_chain cmp_le cmp_le (ze_k ze_int) (ze_k (ze_len (zk_var 0) T.b_len)) (ze_k (ze_glob T.c_MAX_CHOICES)) leD_nx leD_nx)) (zw_or1 (zt_not (zt_chain cmp_le cmp_le (ze_k ze_int) (ze_k (ze_len (ze_k (ze_ix (zk_var 0) (ze_k ze_int))) T.b_len)) (ze_k (ze_glob T.c_MAX_CHOICES)) leD_nx leD_nx))))) (zss_one (zs_raise Am T.e_NotAllowed)) zss_nil)
    (zss_one (zs_if (zt_not (zt_of (ze_k (ze_all Am.toAmb (zf_k (zf_lc [((Str.ofString "row"), 1)] Am.toAmb (zi_seq (ze_var 0)) (blkOk_by (N := N_check_duel) (sc := defScope s_check_duel) (by decide +kernel)) (fun _ _ _ _ _ => (zg_name 1 Am.toAmb.nd)) (fun _ _ _ _ _ Am1 => zts_nil) (fun _ _ _ _ _ _ _ _ Am1 => (ze_and (ze_cmp (cmp_eq Am1) (ze_k (ze_len (zk_var 1) T.b_len)) (ze_k (ze_len (ze_k (ze_ix (zk_var 0) (ze_k ze_int))) T.b_len)) eqD_nx) (ze_one (ze_all Am1 (zf_k (zf_lc [((Str.ofString "part"), 2)] Am1 (zi_seq (ze_var 1)) (blkOk_by (N := N_check_duel) (sc := relS _ (defScope s_check_duel)) (by decide +kernel)) (fun _ _ _ _ _ => (zg_name 2 Am1.nd)) (fun _ _ _ _ _ Am11 => zts_nil) (fun _ _ _ _ _ _ _ _ Am11 => (ze_call h_is_ratio Am11 (by decide) (za_cons (ze_var 2) za_nil))))) T.b_all)))))) T.b_all)))) (zss_one (zs_raise Am T.e_NotAllowed)) zss_nil)))
theorem ok_row_text (T : Txt K w mg cm) (h_ratio_text : ZFn P w K mg base cm (Str.ofString "ratio_text") 1 G_ratio_text) : ZFn P w K mg base cm (Str.ofString "row_text") 2 G_row_text := zfnH T.f_row_text sc_row_text fun f cdv A outer s H E Am =>
    (zss_one (zs_ret (ze_join (ze_k ze_str) (zf_k (zf_lc [((Str.ofString "part"), 1)] Am.toAmb (zi_seq (ze_var 0)) (blkOk_by (N := N_row_text) (sc := defScope s_row_text) (by decide +kernel)) (fun _ _ _ _ _ => (zg_name 1 Am.toAmb.nd)) (fun _ _ _ _ _ Am1 => zts_nil) (fun _ _ _ _ _ _ _ _ Am1 => (ze_call h_ratio_text Am1 (by decide) (za_cons (ze_var 1) za_nil))))))))
theorem ok_system_text (T : Txt K w mg cm) (h_check_system : ZFn P w K mg base cm (Str.ofString "check_system") 3 G_check_system) (h_row_text : ZFn P w K mg base cm (Str.ofString "row_text") 2 G_row_text) (h_ratio_text : ZFn P w K mg base cm (Str.ofString "ratio_text") 1 G_ratio_text) : ZFn P w K mg base cm (Str.ofString "system_text") 4 G_system_text := zfnH T.f_system_text sc_system_text fun f cdv A outer s H E Am =>
    (zss_cons (zs_expr (ze_call h_check_system Am.toAmb (by decide) (za_cons (ze_var 0) za_nil)))
    (zss_cons (zs_asg (ze_var 0) (zg_tup Am.toAmb.calm (zgs_cons (zg_name 2 Am.toAmb.nd) (zgs_cons (zg_name 3 Am.toAmb.nd) zgs_nil))))
    (zss_cons (zs_own 1 Am.toAmb (zf_lst (za_cons (ze_add (ze_k ze_str) (ze_k (ze_tostr (zk_var 2) T.b_str))) za_nil)))
    (zss_cons (zs_ext 1 (zf_lc [((Str.ofString "row"), 4), ((Str.ofString "relation"), 5), ((Str.ofString "bound"), 6)] Am.toAmb (zi_seq (ze_var 3)) (blkOk_by (N := N_system_text) (sc := defScope s_system_text) (by decide +kernel)) (fun _ _ _ _ _ => (zg_tup Am.toAmb.calm (zgs_cons (zg_name 4 Am.toAmb.nd) (zgs_cons (zg_name 5 Am.toAmb.nd) (zgs_cons (zg_name 6 Am.toAmb.nd) zgs_nil))))) (fun _ _ _ _ _ Am1 => zts_nil) (fun _ _ _ _ _ _ _ _ Am1 => (ze_add (ze_k (ze_add (ze_k (ze_add (ze_k (ze_add (ze_k (ze_call h_row_text Am1 (by decide) (za_cons (ze_var 4) za_nil))) (ze_k ze_str))) (zk_var 5))) (ze_k ze_str))) (ze_k (ze_call h_ratio_text Am1 (by decide) (za_cons (ze_var 6) za_nil)))))))
    (zss_rel 1 (zss_one (zs_ret (ze_join (ze_k ze_str) (zf_k (zf_lc [((Str.ofString "row"), 4)] Am.toAmb (zi_seq (ze_var 1)) (blkOk_by (N := N_system_text) (sc := defScope s_system_text) (by decide +kernel)) (fun _ _ _ _ _ => (zg_name 4 Am.toAmb.nd)) (fun _ _ _ _ _ Am1 => zts_nil) (fun _ _ _ _ _ _ _ _ Am1 => (ze_add (zk_var 4) (ze_k ze_str)))))))))))))
theorem ok_duel_text (T : Txt K w mg cm) (h_check_duel : ZFn P w K mg base cm (Str.ofString "check_duel") 3 G_check_duel) (h_row_text : ZFn P w K mg base cm (Str.ofString "row_text") 2 G_row_text) : ZFn P w K mg base cm (Str.ofString "duel_text") 4 G_duel_text := zfnH T.f_duel_text sc_duel_text fun f cdv A outer s H E Am =>
    (zss_cons (zs_expr (ze_call h_check_duel Am.toAmb (by decide) (za_cons (ze_var 0) za_nil)))
    (zss_cons (zs_own 1 Am.toAmb (zf_lst (za_cons ze_str za_nil)))
    (zss_cons (zs_ext 1 (zf_lc [((Str.ofString "row"), 2)] Am.toAmb (zi_seq (ze_var 0)) (blkOk_by (N := N_duel_text) (sc := defScope s_duel_text) (by decide +kernel)) (fun _ _ _ _ _ => (zg_name 2 Am.toAmb.nd)) (fun _ _ _ _ _ Am1 => zts_nil) (fun _ _ _ _ _ _ _ _ Am1 => (ze_call h_row_text Am1 (by decide) (za_cons (ze_var 2) za_nil)))))
    (zss_rel 1 (zss_one (zs_ret (ze_join (ze_k ze_str) (zf_k (zf_lc [((Str.ofString "row"), 2)] Am.toAmb (zi_seq (ze_var 1)) (blkOk_by (N := N_duel_text) (sc := defScope s_duel_text) (by decide +kernel)) (fun _ _ _ _ _ => (zg_name 2 Am.toAmb.nd)) (fun _ _ _ _ _ Am1 => zts_nil) (fun _ _ _ _ _ _ _ _ Am1 => (ze_add (zk_var 2) (ze_k ze_str))))))))))))
theorem ok_claims_text (T : Txt K w mg cm) (h_check_claims : ZFn P w K mg base cm (Str.ofString "check_claims") 3 G_check_claims) (h_ratio_text : ZFn P w K mg base cm (Str.ofString "ratio_text") 1 G_ratio_text) : ZFn P w K mg base cm (Str.ofString "claims_text") 4 G_claims_text := zfnH T.f_claims_text sc_claims_text fun f cdv A outer s H E Am =>
    (zss_cons (zs_expr (ze_call h_check_claims Am.toAmb (by decide) (za_cons (ze_var 0) (za_cons (ze_var 1) za_nil))))
    (zss_cons (zs_own 2 Am.toAmb (zf_lst (za_cons (ze_add (ze_k ze_str) (ze_k (ze_tostr (zk_var 0) T.b_str))) za_nil)))
    (zss_cons (zs_for Am (zi_seq (ze_var 1)) (zg_tup Am.toAmb.calm (zgs_cons (zg_name 3 Am.toAmb.nd) (zgs_cons (zg_name 4 Am.toAmb.nd) (zgs_cons (zg_name 5 Am.toAmb.nd) zgs_nil)))) (zss_cons (zs_set 6 Am.toAmb (ze_if (zt_cmp (cmp_eq Am.toAmb) (ze_k (ze_len (zk_var 3) T.b_len)) (ze_k ze_int) eqD_nx) ze_str (ze_join (ze_k ze_str) (zf_k (zf_lc [((Str.ofString "place"), 8)] Am.toAmb (zi_seq (ze_var 3)) (blkOk_by (N := N_claims_text) (sc := defScope s_claims_text) (by decide +kernel)) (fun _ _ _ _ _ => (zg_name 8 Am.toAmb.nd)) (fun _ _ _ _ _ Am1 => zts_nil) (fun _ _ _ _ _ _ _ _ Am1 => (ze_tostr (zk_var 8) T.b_str)))))))
    (zss_one (zs_app 2 Am.toAmb (ze_add (ze_k (ze_add (ze_k (ze_add (ze_k (ze_add (zk_var 6) (ze_k ze_str))) (zk_var 4))) (ze_k ze_str))) (ze_k (ze_call h_ratio_text Am.toAmb (by decide) (za_cons (ze_var 5) za_nil))))))))
    (zss_rel 2 (zss_one (zs_ret (ze_join (ze_k ze_str) (zf_k (zf_lc [((Str.ofString "row"), 7)] Am.toAmb (zi_seq (ze_var 2)) (blkOk_by (N := N_claims_text) (sc := defScope s_claims_text) (by decide +kernel)) (fun _ _ _ _ _ => (zg_name 7 Am.toAmb.nd)) (fun _ _ _ _ _ Am1 => zts_nil) (fun _ _ _ _ _ _ _ _ Am1 => (ze_add (zk_var 7) (ze_k ze_str))))))))))))
theorem ok_rows_of (T : Txt K w mg cm)  : ZFn P w K mg base cm (Str.ofString "rows_of") 1 G_rows_of := zfnH T.f_rows_of sc_rows_of fun f cdv A outer s H E Am =>
    (zss_cons (zs_if (zt_cmp cmp_gt (ze_k (ze_len (zk_var 0) T.b_len)) (ze_k (ze_glob T.c_MAX_ROWS_TEXT)) gtD_nx) (zss_one (zs_raise Am T.e_BadForm)) zss_nil)
    (zss_cons (zs_set 1 Am.toAmb (zf_e (zf_split (zk_var 0) (ze_k ze_str))))
    (zss_cons (zs_if (zt_cmp (cmp_ne Am.toAmb) (ze_k (ze_ix (zk_var 1) (ze_k (ze_neg (ze_k ze_int))))) (ze_k ze_str) neD_nx) (zss_one (zs_raise Am T.e_BadForm)) zss_nil)
    (zss_one (zs_ret (zf_e (zf_lc [((Str.ofString "row"), 2)] Am.toAmb (zi_seq (ze_sl (zk_var 1) zo_none (zo_some (ze_neg (ze_k ze_int))))) (blkOk_by (N := N_rows_of) (sc := defScope s_rows_of) (by decide +kernel)) (fun _ _ _ _ _ => (zg_name 2 Am.toAmb.nd)) (fun _ _ _ _ _ Am1 => zts_nil) (fun _ _ _ _ _ _ _ _ Am1 => (zf_e (zf_split (zk_var 2) (ze_k ze_str)))))))))))
theorem ok_number_of (T : Txt K w mg cm)  : ZFn P w K mg base cm (Str.ofString "number_of") 1 G_number_of := zfnH T.f_number_of sc_number_of fun f cdv A outer s H E Am =>
    (zss_cons (zs_if (zt_w (zw_or (zt_not (zt_chain cmp_le cmp_le (ze_k ze_int) (ze_k (ze_len (zk_var 0) T.b_len)) (ze_k ze_int) leD_nx leD_nx)) (zw_or (zt_not (zt_of (ze_k (ze_all Am.toAmb (zf_k (zf_lc [((Str.ofString "sign"), 1)] Am.toAmb (zi_seq (ze_var 0)) (blkOk_by (N := N_number_of) (sc := defScope s_number_of) (by decide +kernel)) (fun _ _ _ _ _ => (zg_name 1 Am.toAmb.nd)) (fun _ _ _ _ _ Am1 => zts_nil) (fun _ _ _ _ _ _ _ _ Am1 => (ze_cmp (cmp_in Am1) (zk_var 1) (ze_k ze_str) inD_nx)))) T.b_all)))) (zw_or1 (zt_cmp (cmp_ne Am.toAmb) (ze_k (ze_tostr (ze_k (ze_toint (zk_var 0) T.b_int)) T.b_str)) (zk_var 0) neD_nx))))) (zss_one (zs_raise Am T.e_BadForm)) zss_nil)
    (zss_one (zs_ret (ze_toint (zk_var 0) T.b_int))))
theorem ok_front (T : Txt K w mg cm)  : ZFn P w K mg base cm (Str.ofString "front") 1 G_front := zfnH T.f_front sc_front fun f cdv A outer s H E Am =>
    (zss_cons (zs_if (zt_w (zw_or (zt_cmp (cmp_eq Am.toAmb) (ze_k (ze_len (zk_var 0) T.b_len)) (ze_k ze_int) eqD_nx) (zw_or (zt_cmp (cmp_ne Am.toAmb) (ze_k (ze_ix (ze_k (ze_ix (zk_var 0) (ze_k ze_int))) (ze_k ze_int))) (zk_var 1) neD_nx) (zw_or1 (zt_cmp (cmp_ne Am.toAmb) (ze_k (ze_len (ze_k (ze_ix (zk_var 0) (ze_k ze_int))) T.b_len)) (zk_var 2) neD_nx))))) (zss_one (zs_raise Am T.e_BadForm)) zss_nil)
    (zss_one (zs_ret (ze_sl (ze_k (ze_ix (zk_var 0) (ze_k ze_int))) (zo_some ze_int) zo_none))))
theorem ok_checked (T : Txt K w mg cm) (h_check_system : ZFn P w K mg base cm (Str.ofString "check_system") 3 G_check_system) (h_check_duel : ZFn P w K mg base cm (Str.ofString "check_duel") 3 G_check_duel) (h_check_claims : ZFn P w K mg base cm (Str.ofString "check_claims") 3 G_check_claims) (LO : LamOk P w K mg base cm 4 G_lambda) : ZFn2 P w K mg base cm (Str.ofString "checked") 5 G_checked := zfn2H T.f_checked sc_checked fun f fd cdv A outer s H E Fn hm hc A2 => by
    have Am := A2.toAmbS
    exact (zss_cons (zs_tryR A2 T.e_KerbError.gC T.m_KerbError T.e_BadForm (fun _ _ _ At => (zss_one (zs_expr (ze_callL 0 (j := 4) (tbl := [((Str.ofString "check_system"), G_check_system), ((Str.ofString "check_duel"), G_check_duel)]) (tY_cons (h_check_system.up (by decide)) (tY_cons (h_check_duel.up (by decide)) tY_nil)) (LO.up (by decide)) At.toAmb (by decide) (ze_var 1))))))
    (zss_one (zs_ret (ze_var 1))))
theorem ok_read_system (T : Txt K w mg cm) (h_rows_of : ZFn P w K mg base cm (Str.ofString "rows_of") 1 G_rows_of) (h_number_of : ZFn P w K mg base cm (Str.ofString "number_of") 1 G_number_of) (h_front : ZFn P w K mg base cm (Str.ofString "front") 1 G_front) (h_read_ratio : ZFn P w K mg base cm (Str.ofString "read_ratio") 3 G_read_ratio) (h_checked : ZFn2 P w K mg base cm (Str.ofString "checked") 5 G_checked) : ZFn2 P w K mg base cm (Str.ofString "read_system") 6 G_read_system := zfn2H T.f_read_system sc_read_system fun f fd cdv A outer s H E Fn hm hc A2 => by
    have Am := A2.toAmbS
    exact (zss_cons (zs_set 1 Am.toAmb (ze_call h_rows_of Am.toAmb (by decide) (za_cons (ze_var 0) za_nil)))
    (zss_cons (zs_set 2 Am.toAmb (ze_call h_number_of Am.toAmb (by decide) (za_cons (ze_ix (ze_k (ze_call h_front Am.toAmb (by decide) (za_cons (ze_var 1) (za_cons ze_str (za_cons ze_int za_nil))))) (ze_k ze_int)) za_nil)))
    (zss_cons (zs_own 3 Am.toAmb (zf_lst za_nil))
    (zss_cons (zs_for Am (zi_seq (ze_sl (zk_var 1) (zo_some ze_int) zo_none)) (zg_name 4 Am.toAmb.nd) (zss_cons (zs_if (zt_cmp cmp_lt (ze_k (ze_len (zk_var 4) T.b_len)) (ze_k ze_int) ltD_nx) (zss_one (zs_raise Am T.e_BadForm)) zss_nil)
    (zss_cons (zs_set 5 Am.toAmb (ze_tuple (zf_k (zf_lc [((Str.ofString "word"), 6)] Am.toAmb (zi_seq (ze_sl (zk_var 4) zo_none (zo_some (ze_neg (ze_k ze_int))))) (blkOk_by (N := N_read_system) (sc := defScope s_read_system) (by decide +kernel)) (fun _ _ _ _ _ => (zg_name 6 Am.toAmb.nd)) (fun _ _ _ _ _ Am1 => zts_nil) (fun _ _ _ _ _ _ _ _ Am1 => (ze_call h_read_ratio Am1 (by decide) (za_cons (ze_var 6) za_nil))))) T.b_tuple))
    (zss_one (zs_app 3 Am.toAmb (ze_tup (za_cons (ze_var 5) (za_cons (ze_ix (zk_var 4) (ze_k (ze_neg (ze_k ze_int)))) (za_cons (ze_call h_read_ratio Am.toAmb (by decide) (za_cons (ze_ix (zk_var 4) (ze_k (ze_neg (ze_k ze_int)))) za_nil)) za_nil)))))))))
    (zss_one (zs_ret (ze_call2 h_checked A2 (by decide) (za_cons (ze_glob T.v_check_system) (za_cons (ze_tup (za_cons (ze_var 2) (za_cons (ze_tuple (zk_var 3) T.b_tuple) za_nil))) za_nil)))))))))
theorem ok_read_duel (T : Txt K w mg cm) (h_rows_of : ZFn P w K mg base cm (Str.ofString "rows_of") 1 G_rows_of) (h_front : ZFn P w K mg base cm (Str.ofString "front") 1 G_front) (h_checked : ZFn2 P w K mg base cm (Str.ofString "checked") 5 G_checked) (h_read_ratio : ZFn P w K mg base cm (Str.ofString "read_ratio") 3 G_read_ratio) : ZFn2 P w K mg base cm (Str.ofString "read_duel") 6 G_read_duel := zfn2H T.f_read_duel sc_read_duel fun f fd cdv A outer s H E Fn hm hc A2 => by
    have Am := A2.toAmbS
    exact (zss_cons (zs_set 1 Am.toAmb (ze_call h_rows_of Am.toAmb (by decide) (za_cons (ze_var 0) za_nil)))
    (zss_cons (zs_expr (ze_call h_front Am.toAmb (by decide) (za_cons (ze_var 1) (za_cons ze_str (za_cons ze_int za_nil)))))
    (zss_cons (zs_if (zt_cmp cmp_lt (ze_k (ze_len (zk_var 1) T.b_len)) (ze_k ze_int) ltD_nx) (zss_one (zs_raise Am T.e_BadForm)) zss_nil)
    (zss_one (zs_ret (ze_call2 h_checked A2 (by decide) (za_cons (ze_glob T.v_check_duel) (za_cons (ze_tuple (zf_k (zf_lc [((Str.ofString "words"), 2)] Am.toAmb (zi_seq (ze_sl (zk_var 1) (zo_some ze_int) zo_none)) (blkOk_by (N := N_read_duel) (sc := defScope s_read_duel) (by decide +kernel)) (fun _ _ _ _ _ => (zg_name 2 Am.toAmb.nd)) (fun _ _ _ _ _ Am1 => zts_nil) (fun _ _ _ _ _ _ _ _ Am1 => (ze_tuple (zf_k (zf_lc [((Str.ofString "word"), 3)] Am1 (zi_seq (ze_var 2)) (blkOk_by (N := N_read_duel) (sc := relS _ (defScope s_read_duel)) (by decide +kernel)) (fun _ _ _ _ _ => (zg_name 3 Am1.nd)) (fun _ _ _ _ _ Am11 => zts_nil) (fun _ _ _ _ _ _ _ _ Am11 => (ze_call h_read_ratio Am11 (by decide) (za_cons (ze_var 3) za_nil))))) T.b_tuple)))) T.b_tuple) za_nil))))))))
theorem ok_read_claims (T : Txt K w mg cm) (h_rows_of : ZFn P w K mg base cm (Str.ofString "rows_of") 1 G_rows_of) (h_number_of : ZFn P w K mg base cm (Str.ofString "number_of") 1 G_number_of) (h_front : ZFn P w K mg base cm (Str.ofString "front") 1 G_front) (h_read_ratio : ZFn P w K mg base cm (Str.ofString "read_ratio") 3 G_read_ratio) (h_checked : ZFn2 P w K mg base cm (Str.ofString "checked") 5 G_checked) (LK : ∀ (f : Addr) (fd : FuncData), Fun K (Str.ofString "read_claims") (Str.ofString "read_claims") s_read_claims f fd → mg (Str.ofString "read_claims") = some (.ref f) → LamMk K mg base fd.code lamT.1 lamT.2.1 lamT.2.2) : ZFn2 P w K mg base cm (Str.ofString "read_claims") 6 G_read_claims := zfn2H T.f_read_claims sc_read_claims fun f fd cdv A outer s H E Fn hm hc A2 => by
    have Am := A2.toAmbS
    have LMx : LamMk K mg base cdv lamT.1 lamT.2.1 lamT.2.2 := hc ▸ LK f fd Fn hm
    exact (zss_cons (zs_set 1 Am.toAmb (ze_call h_rows_of Am.toAmb (by decide) (za_cons (ze_var 0) za_nil)))
    (zss_cons (zs_set 2 Am.toAmb (ze_call h_number_of Am.toAmb (by decide) (za_cons (ze_ix (ze_k (ze_call h_front Am.toAmb (by decide) (za_cons (ze_var 1) (za_cons ze_str (za_cons ze_int za_nil))))) (ze_k ze_int)) za_nil)))
    (zss_cons (zs_own 3 Am.toAmb (zf_lst za_nil))
    (zss_cons (zs_for Am (zi_seq (ze_sl (zk_var 1) (zo_some ze_int) zo_none)) (zg_name 4 Am.toAmb.nd) (zss_cons (zs_if (zt_cmp (cmp_ne Am.toAmb) (ze_k (ze_len (zk_var 4) T.b_len)) (ze_k ze_int) neD_nx) (zss_one (zs_raise Am T.e_BadForm)) zss_nil)
    (zss_cons (zs_set 6 Am.toAmb (ze_if (zt_cmp (cmp_eq Am.toAmb) (ze_k (ze_ix (zk_var 4) (ze_k ze_int))) (ze_k ze_str) eqD_nx) (ze_tup za_nil) (ze_tuple (zf_k (zf_lc [((Str.ofString "word"), 7)] Am.toAmb (zi_seq (zf_e (zf_split (ze_k (ze_ix (zk_var 4) (ze_k ze_int))) (ze_k ze_str)))) (blkOk_by (N := N_read_claims) (sc := defScope s_read_claims) (by decide +kernel)) (fun _ _ _ _ _ => (zg_name 7 Am.toAmb.nd)) (fun _ _ _ _ _ Am1 => zts_nil) (fun _ _ _ _ _ _ _ _ Am1 => (ze_call h_number_of Am1 (by decide) (za_cons (ze_var 7) za_nil))))) T.b_tuple)))
    (zss_one (zs_app 3 Am.toAmb (ze_tup (za_cons (ze_var 6) (za_cons (ze_ix (zk_var 4) (ze_k ze_int)) (za_cons (ze_call h_read_ratio Am.toAmb (by decide) (za_cons (ze_ix (zk_var 4) (ze_k ze_int)) za_nil)) za_nil)))))))))
    (zss_cons (zs_set 5 Am.toAmb (ze_tup (za_cons (ze_var 2) (za_cons (ze_tuple (zk_var 3) T.b_tuple) za_nil))))
    (zss_one (zs_ret (ze_call2 h_checked A2 (by decide) (za_cons (ze_lam LMx (by first | rfl | decide +kernel) rfl (by decide +kernel) rfl) (za_cons (ze_var 5) za_nil))))))))))
theorem ok__law_same (T : Txt K w mg cm)  : ZFn P w K mg base cm (Str.ofString "_law_same") 1 G__law_same := zfnH T.f__law_same sc__law_same fun f cdv A outer s H E Am =>
    (zss_one (zs_ret (ze_cmp (cmp_eq Am.toAmb) (ze_k (ze_repr Am.toAmb (zf_k (zf_lst (za_cons (ze_var 0) za_nil))) T.b_repr)) (ze_k (ze_repr Am.toAmb (zf_k (zf_lst (za_cons (ze_var 1) za_nil))) T.b_repr)) eqD_nx)))
theorem ok__law_stream (T : Txt K w mg cm)  : ZFn P w K mg base cm (Str.ofString "_law_stream") 1 G__law_stream := zfnH T.f__law_stream sc__law_stream fun f cdv A outer s H E Am =>
    (zss_cons (zs_own 1 Am.toAmb (zf_lst za_nil))
    (zss_cons (zs_for Am (zi_seq (ze_sl (zk_var 0) zo_none (zo_some ze_int))) (zg_name 2 Am.toAmb.nd) (zss_cons (zs_set 3 Am.toAmb (ze_abs (ze_k (ze_toint (zk_var 2) T.b_int)) T.b_abs))
    (zss_one (zs_if (zt_cmp cmp_ge (zk_var 3) (ze_k (ze_pow (ze_k ze_int) (ze_k ze_int))) geD_nx) (zss_one (zs_for Am (zi_range1 ze_int T.b_range) (zg_name 4 Am.toAmb.nd) (zss_cons (zs_app 1 Am.toAmb (ze_mod (ze_k (ze_toint (zk_var 3) T.b_int)) (ze_k ze_int)))
    (zss_cons (zs_set 3 Am.toAmb (ze_fdiv (zk_var 3) (ze_k ze_int)))
    (zss_one (zs_if (zt_cmp (cmp_eq Am.toAmb) (zk_var 3) (ze_k ze_int) eqD_nx) (zss_one zs_break) zss_nil)))))) (zss_cons (zs_set 5 Am.toAmb (ze_mod (ze_k (ze_toint (zk_var 3) T.b_int)) (ze_k ze_int)))
    (zss_one (zs_for Am (zi_range1 ze_int T.b_range) (zg_name 4 Am.toAmb.nd) (zss_cons (zs_set 5 Am.toAmb (ze_mod (ze_k (ze_toint (ze_k (ze_add (ze_k (ze_add (ze_k (ze_mul (zk_var 5) (ze_k ze_int))) (ze_k (ze_mul (ze_k ze_int) (zk_var 4))))) (ze_k ze_int))) T.b_int)) (ze_k ze_int)))
    (zss_one (zs_app 1 Am.toAmb (ze_mod (ze_k (ze_mod (ze_k (ze_toint (ze_k (ze_add (ze_k (ze_mul (zk_var 5) (ze_k ze_int))) (zk_var 4))) T.b_int)) (ze_k ze_int))) (ze_k ze_int))))))))))))
    (zss_cons (zs_if (zt_cmp (cmp_eq Am.toAmb) (ze_k (ze_len (zk_var 1) T.b_len)) (ze_k ze_int) eqD_nx) (zss_one (zs_app 1 Am.toAmb ze_int)) zss_nil)
    (zss_rel 1 (zss_one (zs_ret (ze_var 1)))))))
theorem ok__law_next (T : Txt K w mg cm)  : FX P w K mg base cm (Str.ofString "_law_next") 1 G__law_next := fxH T.f__law_next sc__law_next fun f cdv A outer s H E Am =>
    (zss_cons (zs_put 0 (ze_add (ze_k (ze_ix (zk_var 0) (ze_k ze_int))) (ze_k ze_int)) ze_int)
    (zss_cons (zs_set 2 Am.toAmb (ze_fdiv (ze_k (ze_ix (zk_var 0) (ze_k ze_int))) (ze_k (ze_len (ze_k (ze_ix (zk_var 0) (ze_k ze_int))) T.b_len))))
    (zss_one (zs_ret (ze_mod (ze_k (ze_toint (ze_k (ze_add (ze_k (ze_add (ze_k (ze_ix (ze_k (ze_ix (zk_var 0) (ze_k ze_int))) (ze_k (ze_mod (ze_k (ze_ix (zk_var 0) (ze_k ze_int))) (ze_k (ze_len (ze_k (ze_ix (zk_var 0) (ze_k ze_int))) T.b_len)))))) (ze_k (ze_mul (zk_var 2) (ze_k ze_int))))) (ze_k (ze_mul (ze_k (ze_mul (ze_k (ze_ix (zk_var 0) (ze_k ze_int))) (zk_var 2))) (ze_k ze_int))))) T.b_int)) (zk_var 1))))))
theorem pl__law_error (a : Addr) : ∀ i t, ans__law_error i = some t → runS (F__law_error a i) (startR N__law_error.length [tokD a]) = .ok (.str t) := by
  intro i t h
  have e : ∀ b : Bool, (cB1 (isED a b) (cVar 0)) (startR N__law_error.length [tokD a]) = .ok (.bool b) := fun b => isED_at a b
  match i, h with
  | 1, h => cases h; unfold runS F__law_error; rw [seq_lst (cons_ok (e _) (cons_ok (e _) (cons_ok (e _) (cons_ok (e _) (cons_ok (e _) (cons_ok (e _) (cons_ok (e _) rfl))))))) (by decide)]; rfl
  | 2, h => cases h; unfold runS F__law_error; rw [seq_lst (cons_ok (e _) (cons_ok (e _) (cons_ok (e _) (cons_ok (e _) (cons_ok (e _) (cons_ok (e _) (cons_ok (e _) rfl))))))) (by decide)]; rfl
theorem ok__law_error (T : Txt K w mg cm) : ZFnE P w K mg base cm (Str.ofString "_law_error") 1 ans__law_error := by
  obtain ⟨f, fd, Fn, hm, hb⟩ := T.f__law_error
  refine ⟨f, fd, (Str.ofString "e"), hm, Fn.kp, hb, fnE_of (N := N__law_error) (F := F__law_error) Fn sc__law_error (fun cdv A outer s H E a oe i t ha hcl hdc hff Ah pin => ?_) pl__law_error⟩
  exact (zss_cons (zs_setH 1 Ah (zf_e (zf_lst (za_cons (ze_isE pin hcl hdc hff (T.x__law_error i t ha) T.e_NotAllowed.gC (T.k__law_error_0 i t ha) (ze_var 0) T.b_isinstance) (za_cons (ze_isE pin hcl hdc hff (T.x__law_error i t ha) T.e_Missing.gC (T.k__law_error_1 i t ha) (ze_var 0) T.b_isinstance) (za_cons (ze_isE pin hcl hdc hff (T.x__law_error i t ha) T.e_Never.gC (T.k__law_error_2 i t ha) (ze_var 0) T.b_isinstance) (za_cons (ze_isE pin hcl hdc hff (T.x__law_error i t ha) T.e_Endless.gC (T.k__law_error_3 i t ha) (ze_var 0) T.b_isinstance) (za_cons (ze_isE pin hcl hdc hff (T.x__law_error i t ha) T.e_BadPaper.gC (T.k__law_error_4 i t ha) (ze_var 0) T.b_isinstance) (za_cons (ze_isE pin hcl hdc hff (T.x__law_error i t ha) T.e_BadForm.gC (T.k__law_error_5 i t ha) (ze_var 0) T.b_isinstance) (za_cons (ze_isE pin hcl hdc hff (T.x__law_error i t ha) T.e_Full.gC (T.k__law_error_6 i t ha) (ze_var 0) T.b_isinstance) za_nil)))))))))) (zss_cons (zs_if (zt_cmp (cmpH_ne Ah) (ze_k (ze_sumH Ah (zf_k (zf_lcH [((Str.ofString "one"), 2)] Ah (ze_var 1) (blkOk_by (N := N__law_error) (sc := defScope s__law_error) (by decide +kernel)) (fun _ _ _ _ _ => (zg_name 2 Ah.nd)) (fun _ _ _ _ _ _ _ _ => (ze_toint (ze_k (ze_var 2)) T.b_int)))) T.b_sum)) (ze_k ze_int) neD_nx) (zss_one (zs_ret ze_str)) zss_nil) (zss_one (zs_ret (ze_ix (zf_k (zf_lst (za_cons ze_str (za_cons ze_str (za_cons ze_str (za_cons ze_str (za_cons ze_str (za_cons ze_str (za_cons ze_str za_nil))))))))) (ze_k (ze_index Ah (ze_k (ze_var 1)) (ze_k ze_bl))))))))
theorem ok__law_ratio (T : Txt K w mg cm)  : ZFn P w K mg base cm (Str.ofString "_law_ratio") 1 G__law_ratio := zfnH T.f__law_ratio sc__law_ratio fun f cdv A outer s H E Am =>
    (zss_cons (zs_set 2 Am.toAmb (ze_abs (zk_var 0) T.b_abs))
    (zss_cons (zs_set 3 Am.toAmb (ze_abs (zk_var 1) T.b_abs))
    (zss_cons (zs_for Am (zi_range1 ze_int T.b_range) (zg_name 4 Am.toAmb.nd) (zss_cons (zs_if (zt_cmp (cmp_eq Am.toAmb) (zk_var 3) (ze_k ze_int) eqD_nx) (zss_one zs_break) zss_nil)
    (zss_cons (zs_set 5 Am.toAmb (ze_mod (ze_k (ze_toint (zk_var 2) T.b_int)) (zk_var 3)))
    (zss_cons (zs_set 2 Am.toAmb (ze_var 3))
    (zss_one (zs_set 3 Am.toAmb (ze_var 5)))))))
    (zss_cons (zs_if (zt_cmp cmp_lt (zk_var 1) (ze_k ze_int) ltD_nx) (zss_one (zs_set 2 Am.toAmb (ze_sub (ze_k ze_int) (zk_var 2)))) zss_nil)
    (zss_one (zs_ret (ze_tup (za_cons (ze_fdiv (zk_var 0) (zk_var 2)) (za_cons (ze_fdiv (zk_var 1) (zk_var 2)) za_nil)))))))))
theorem ok__law_drawn (T : Txt K w mg cm) (h__law_ratio : ZFn P w K mg base cm (Str.ofString "_law_ratio") 1 G__law_ratio) (h__law_next : FX P w K mg base cm (Str.ofString "_law_next") 1 G__law_next) : FX P w K mg base cm (Str.ofString "_law_drawn") 2 G__law_drawn := fxH T.f__law_drawn sc__law_drawn fun f cdv A outer s H E Am =>
    (zss_one (zs_retX (zx_call h__law_ratio Am.toAmb (by decide) (zxa_cons (zx_2 op2_sub (zx_callS 0 h__law_next Am.toAmb (by decide) (zxa_cons (zx_of (ze_add (ze_k (ze_mul (ze_k ze_int) (zk_var 1))) (ze_k ze_int))) zxa_nil)) (zx_of (ze_var 1))) (zxa_cons (zx_2 op2_ix (zx_of (zf_e (zf_lst (za_cons ze_int (za_cons ze_int (za_cons ze_int za_nil)))))) (zx_callS 0 h__law_next Am.toAmb (by decide) (zxa_cons (zx_of ze_int) zxa_nil))) zxa_nil)))))
theorem ok__law_row (T : Txt K w mg cm) (h__law_drawn : FX P w K mg base cm (Str.ofString "_law_drawn") 2 G__law_drawn) : FX P w K mg base cm (Str.ofString "_law_row") 3 G__law_row := fxH T.f__law_row sc__law_row fun f cdv A outer s H E Am =>
    (zss_one (zs_retX (zx_1 (op1_tuple T.b_tuple) (zx_lc [((Str.ofString "k"), 3)] Am.toAmb (zi_range1 (ze_var 1) T.b_range) (blkOk_by (N := N__law_row) (sc := defScope s__law_row) (by decide +kernel)) (fun _ _ _ _ _ => (zg_name 3 Am.toAmb.nd)) (fun _ _ _ _ _ Am1 => zxts_nil) (fun _ _ _ _ _ _ _ _ Am1 => (zx_callS 0 h__law_drawn Am1 (by decide) (zxa_cons (zx_of (ze_var 2)) zxa_nil)))))))
theorem ok__law_conditions (T : Txt K w mg cm) (h__law_next : FX P w K mg base cm (Str.ofString "_law_next") 1 G__law_next) (h__law_ratio : ZFn P w K mg base cm (Str.ofString "_law_ratio") 1 G__law_ratio) (h__law_row : FX P w K mg base cm (Str.ofString "_law_row") 3 G__law_row) : FX P w K mg base cm (Str.ofString "_law_conditions") 4 G__law_conditions := fxH T.f__law_conditions sc__law_conditions fun f cdv A outer s H E Am =>
    (zss_cons (zs_own 3 Am.toAmb (zf_lst za_nil))
    (zss_cons (zs_forX Am (zx_range1 (zx_callS 0 h__law_next Am.toAmb (by decide) (zxa_cons (zx_of (ze_add (zk_var 2) (ze_k ze_int))) zxa_nil)) T.b_range) (zg_name 4 Am.toAmb.nd) (zss_cons (zs_setX 5 Am.toAmb (zx_2 op2_ix (zx_of (zf_e (zf_lst (za_cons ze_str (za_cons ze_str (za_cons ze_str (za_cons ze_str za_nil))))))) (zx_callS 0 h__law_next Am.toAmb (by decide) (zxa_cons (zx_of ze_int) zxa_nil))))
    (zss_one (zs_appX 3 (zx_tup (zxa_cons (zx_callS 0 h__law_row Am.toAmb (by decide) (zxa_cons (zx_of (ze_var 1)) (zxa_cons (zx_of ze_int) zxa_nil))) (zxa_cons (zx_of (ze_var 5)) (zxa_cons (zx_call h__law_ratio Am.toAmb (by decide) (zxa_cons (zx_2 op2_sub (zx_callS 0 h__law_next Am.toAmb (by decide) (zxa_cons (zx_of ze_int) zxa_nil)) (zx_of ze_int)) (zxa_cons (zx_2 op2_add (zx_of ze_int) (zx_callS 0 h__law_next Am.toAmb (by decide) (zxa_cons (zx_of ze_int) zxa_nil))) zxa_nil))) zxa_nil))))))))
    (zss_one (zs_ret (ze_tuple (zk_var 3) T.b_tuple)))))
theorem ok__law_bad (T : Txt K w mg cm)  : ZFn P w K mg base cm (Str.ofString "_law_bad") 1 G__law_bad := zfnH T.f__law_bad sc__law_bad fun f cdv A outer s H E Am =>
    (zss_cons (zs_asg (ze_var 0) (zg_tup Am.toAmb.calm (zgs_cons (zg_name 1 Am.toAmb.nd) (zgs_cons (zg_name 2 Am.toAmb.nd) zgs_nil))))
    (zss_one (zs_ret (ze_tup (za_cons (ze_var 1) (za_cons (ze_add (zk_var 2) (ze_k (ze_tup (za_cons (ze_tup (za_cons (ze_rep (ze_k (ze_tup (za_cons (ze_tup (za_cons ze_int (za_cons ze_int za_nil))) za_nil))) (ze_k (ze_add (zk_var 1) (ze_k ze_int)))) (za_cons ze_str (za_cons (ze_tup (za_cons ze_int (za_cons ze_int za_nil))) za_nil)))) za_nil)))) za_nil))))))
theorem ok__law_duel (T : Txt K w mg cm) (h__law_next : FX P w K mg base cm (Str.ofString "_law_next") 1 G__law_next) (h__law_drawn : FX P w K mg base cm (Str.ofString "_law_drawn") 2 G__law_drawn) : FX P w K mg base cm (Str.ofString "_law_duel") 3 G__law_duel := fxH T.f__law_duel sc__law_duel fun f cdv A outer s H E Am =>
    (zss_cons (zs_setX 2 Am.toAmb (zx_2 op2_add (zx_of ze_int) (zx_callS 0 h__law_next Am.toAmb (by decide) (zxa_cons (zx_of (ze_var 1)) zxa_nil))))
    (zss_cons (zs_setX 3 Am.toAmb (zx_2 op2_add (zx_of ze_int) (zx_callS 0 h__law_next Am.toAmb (by decide) (zxa_cons (zx_of (ze_var 1)) zxa_nil))))
    (zss_one (zs_retX (zx_1 (op1_tuple T.b_tuple) (zx_lc [((Str.ofString "k"), 4)] Am.toAmb (zi_range1 (ze_var 2) T.b_range) (blkOk_by (N := N__law_duel) (sc := defScope s__law_duel) (by decide +kernel)) (fun _ _ _ _ _ => (zg_name 4 Am.toAmb.nd)) (fun _ _ _ _ _ Am1 => zxts_nil) (fun _ _ _ _ _ _ _ _ Am1 => (zx_1 (op1_tuple T.b_tuple) (zx_lc [((Str.ofString "j"), 5)] Am1 (zi_range1 (ze_var 3) T.b_range) (blkOk_by (N := N__law_duel) (sc := relS _ (defScope s__law_duel)) (by decide +kernel)) (fun _ _ _ _ _ => (zg_name 5 Am1.nd)) (fun _ _ _ _ _ Am11 => zxts_nil) (fun _ _ _ _ _ _ _ _ Am11 => (zx_callS 0 h__law_drawn Am11 (by decide) (zxa_cons (zx_of ze_int) zxa_nil))))))))))))
theorem ok__law_rows (T : Txt K w mg cm) (h__law_next : FX P w K mg base cm (Str.ofString "_law_next") 1 G__law_next) : FX P w K mg base cm (Str.ofString "_law_rows") 2 G__law_rows := fxH T.f__law_rows sc__law_rows fun f cdv A outer s H E Am =>
    (zss_one (zs_retX (zx_1 (op1_tuple T.b_tuple) (zx_lc [((Str.ofString "row"), 2)] Am.toAmb (zi_range1 (ze_shl (ze_k ze_int) (zk_var 1)) T.b_range) (blkOk_by (N := N__law_rows) (sc := defScope s__law_rows) (by decide +kernel)) (fun _ _ _ _ _ => (zg_name 2 Am.toAmb.nd)) (fun _ _ _ _ _ Am1 => (zxts_one (zxt_cmp (cmp_eq Am1) (zx_callS 0 h__law_next Am1 (by decide) (zxa_cons (zx_of ze_int) zxa_nil)) (zx_of ze_int) eqD_nx))) (fun _ _ _ _ _ _ _ _ Am1 => (zx_of (ze_var 2)))))))
theorem ok__law_claims (T : Txt K w mg cm) (h__law_next : FX P w K mg base cm (Str.ofString "_law_next") 1 G__law_next) (h__law_ratio : ZFn P w K mg base cm (Str.ofString "_law_ratio") 1 G__law_ratio) (h__law_rows : FX P w K mg base cm (Str.ofString "_law_rows") 2 G__law_rows) : FX P w K mg base cm (Str.ofString "_law_claims") 3 G__law_claims := fxH T.f__law_claims sc__law_claims fun f cdv A outer s H E Am =>
    (zss_cons (zs_own 3 Am.toAmb (zf_lst za_nil))
    (zss_cons (zs_forX Am (zx_range1 (zx_callS 0 h__law_next Am.toAmb (by decide) (zxa_cons (zx_of (ze_add (zk_var 2) (ze_k ze_int))) zxa_nil)) T.b_range) (zg_name 4 Am.toAmb.nd) (zss_cons (zs_setX 5 Am.toAmb (zx_2 op2_add (zx_of ze_int) (zx_callS 0 h__law_next Am.toAmb (by decide) (zxa_cons (zx_of ze_int) zxa_nil))))
    (zss_one (zs_appX 3 (zx_tup (zxa_cons (zx_callS 0 h__law_rows Am.toAmb (by decide) (zxa_cons (zx_of (ze_var 1)) zxa_nil)) (zxa_cons (zx_2 op2_ix (zx_of (zf_e (zf_lst (za_cons ze_str (za_cons ze_str (za_cons ze_str za_nil)))))) (zx_callS 0 h__law_next Am.toAmb (by decide) (zxa_cons (zx_of ze_int) zxa_nil))) (zxa_cons (zx_call h__law_ratio Am.toAmb (by decide) (zxa_cons (zx_callS 0 h__law_next Am.toAmb (by decide) (zxa_cons (zx_of (ze_add (zk_var 5) (ze_k ze_int))) zxa_nil)) (zxa_cons (zx_of (ze_var 5)) zxa_nil))) zxa_nil))))))))
    (zss_one (zs_ret (ze_tuple (zk_var 3) T.b_tuple)))))
theorem ok__law_told (T : Txt K w mg cm) (h_claims_text : ZFn P w K mg base cm (Str.ofString "claims_text") 4 G_claims_text) (h_system_text : ZFn P w K mg base cm (Str.ofString "system_text") 4 G_system_text) (h_duel_text : ZFn P w K mg base cm (Str.ofString "duel_text") 4 G_duel_text) (h_read_system : ZFn2 P w K mg base cm (Str.ofString "read_system") 6 G_read_system) (h_read_duel : ZFn2 P w K mg base cm (Str.ofString "read_duel") 6 G_read_duel) (h_read_claims : ZFn2 P w K mg base cm (Str.ofString "read_claims") 6 G_read_claims) (h__law_error : ZFnE P w K mg base cm (Str.ofString "_law_error") 1 ans__law_error) : ZFn2 P w K mg base cm (Str.ofString "_law_told") 7 G__law_told := zfn2H T.f__law_told sc__law_told fun f fd cdv A outer s H E Fn hm hc A2 => by
    have Am := A2.toAmbS
    exact (zss_one (zs_tryE 2 A2 T.e_KerbError.gC T.m_KerbError h__law_error (by decide) (fun _ _ _ Px At => (zss_cons (zs_if (zt_cmp (cmp_eq At.toAmb) (zk_var 0) (ze_k ze_int) eqD_nx) (zss_one (zs_ret (ze_tup (za_cons ze_str (za_cons (ze_call h_claims_text At.toAmb (by decide) (za_cons (ze_ix (zk_var 1) (ze_k ze_int)) (za_cons (ze_ix (zk_var 1) (ze_k ze_int)) za_nil))) za_nil))))) zss_nil)
    (zss_one (zs_ret (ze_tup (za_cons ze_str (za_cons (ze_callE2 (j := 6) (tbl := [((Str.ofString "system_text"), G_system_text), ((Str.ofString "duel_text"), G_duel_text), ((Str.ofString "read_system"), G_read_system), ((Str.ofString "read_duel"), G_read_duel), ((Str.ofString "read_claims"), G_read_claims)]) Px (ze_ix (zf_k (zf_lst (za_cons (ze_glob T.v_system_text) (za_cons (ze_glob T.v_duel_text) (za_cons ze_non (za_cons (ze_glob T.v_read_system) (za_cons (ze_glob T.v_read_duel) (za_cons (ze_glob T.v_read_claims) za_nil)))))))) (zk_var 0)) (tY_cons (h_system_text.two.up (by decide)) (tY_cons (h_duel_text.two.up (by decide)) (tY_cons (h_read_system.up (by decide)) (tY_cons (h_read_duel.up (by decide)) (tY_cons (h_read_claims.up (by decide)) tY_nil))))) At.toAmb (by decide) (za_cons (ze_var 1) za_nil)) za_nil)))))))))
theorem ok__law_part (T : Txt K w mg cm)  : ZFn P w K mg base cm (Str.ofString "_law_part") 1 G__law_part := zfnH T.f__law_part sc__law_part fun f cdv A outer s H E Am =>
    (zss_cons (zs_if (zt_cmp (cmp_eq Am.toAmb) (ze_k (ze_ix (zk_var 0) (ze_k ze_int))) (ze_k ze_int) eqD_nx) (zss_one (zs_ret (ze_tostr (ze_k (ze_ix (zk_var 0) (ze_k ze_int))) T.b_str))) zss_nil)
    (zss_one (zs_ret (ze_add (ze_k (ze_add (ze_k (ze_tostr (ze_k (ze_ix (zk_var 0) (ze_k ze_int))) T.b_str)) (ze_k ze_str))) (ze_k (ze_tostr (ze_k (ze_ix (zk_var 0) (ze_k ze_int))) T.b_str))))))
theorem ok__law_text (T : Txt K w mg cm) (h__law_part : ZFn P w K mg base cm (Str.ofString "_law_part") 1 G__law_part) : ZFn P w K mg base cm (Str.ofString "_law_text") 2 G__law_text := zfnH T.f__law_text sc__law_text fun f cdv A outer s H E Am =>
    (zss_cons (zs_if (zt_cmp (cmp_eq Am.toAmb) (zk_var 0) (ze_k ze_int) eqD_nx) (zss_cons (zs_own 2 Am.toAmb (zf_lst (za_cons (ze_add (ze_k ze_str) (ze_k (ze_tostr (ze_k (ze_ix (zk_var 1) (ze_k ze_int))) T.b_str))) za_nil)))
    (zss_one (zs_own 2 Am.toAmb (zf_cat (zk_var 2) (zf_k (zf_lc [((Str.ofString "row"), 6), ((Str.ofString "relation"), 4), ((Str.ofString "bound"), 7)] Am.toAmb (zi_seq (ze_ix (zk_var 1) (ze_k ze_int))) (blkOk_by (N := N__law_text) (sc := defScope s__law_text) (by decide +kernel)) (fun _ _ _ _ _ => (zg_tup Am.toAmb.calm (zgs_cons (zg_name 6 Am.toAmb.nd) (zgs_cons (zg_name 4 Am.toAmb.nd) (zgs_cons (zg_name 7 Am.toAmb.nd) zgs_nil))))) (fun _ _ _ _ _ Am1 => zts_nil) (fun _ _ _ _ _ _ _ _ Am1 => (ze_join (ze_k ze_str) (ze_k (ze_add (zf_k (zf_lc [((Str.ofString "part"), 8)] Am1 (zi_seq (ze_var 6)) (blkOk_by (N := N__law_text) (sc := relS _ (defScope s__law_text)) (by decide +kernel)) (fun _ _ _ _ _ => (zg_name 8 Am1.nd)) (fun _ _ _ _ _ Am11 => zts_nil) (fun _ _ _ _ _ _ _ _ Am11 => (ze_call h__law_part Am11 (by decide) (za_cons (ze_var 8) za_nil))))) (zf_k (zf_lst (za_cons (ze_var 4) (za_cons (ze_call h__law_part Am1 (by decide) (za_cons (ze_var 7) za_nil)) za_nil)))))))))))))) (zss_one (zs_if (zt_cmp (cmp_eq Am.toAmb) (zk_var 0) (ze_k ze_int) eqD_nx) (zss_one (zs_own 2 Am.toAmb (zf_cat (zf_k (zf_lst (za_cons ze_str za_nil))) (zf_k (zf_lc [((Str.ofString "row"), 6)] Am.toAmb (zi_seq (ze_var 1)) (blkOk_by (N := N__law_text) (sc := defScope s__law_text) (by decide +kernel)) (fun _ _ _ _ _ => (zg_name 6 Am.toAmb.nd)) (fun _ _ _ _ _ Am1 => zts_nil) (fun _ _ _ _ _ _ _ _ Am1 => (ze_join (ze_k ze_str) (zf_k (zf_lc [((Str.ofString "part"), 8)] Am1 (zi_seq (ze_var 6)) (blkOk_by (N := N__law_text) (sc := relS _ (defScope s__law_text)) (by decide +kernel)) (fun _ _ _ _ _ => (zg_name 8 Am1.nd)) (fun _ _ _ _ _ Am11 => zts_nil) (fun _ _ _ _ _ _ _ _ Am11 => (ze_call h__law_part Am11 (by decide) (za_cons (ze_var 8) za_nil)))))))))))) (zss_cons (zs_own 2 Am.toAmb (zf_lst (za_cons (ze_add (ze_k ze_str) (ze_k (ze_tostr (ze_k (ze_ix (zk_var 1) (ze_k ze_int))) T.b_str))) za_nil)))
    (zss_one (zs_for Am (zi_seq (ze_ix (zk_var 1) (ze_k ze_int))) (zg_tup Am.toAmb.calm (zgs_cons (zg_name 3 Am.toAmb.nd) (zgs_cons (zg_name 4 Am.toAmb.nd) (zgs_cons (zg_name 5 Am.toAmb.nd) zgs_nil)))) (zss_one (zs_app 2 Am.toAmb (ze_add (ze_k (ze_add (ze_k (ze_add (ze_k (ze_add (ze_k (ze_ix (zf_k (zf_lst (za_cons (ze_join (ze_k ze_str) (zf_k (zf_lc [((Str.ofString "place"), 9)] Am.toAmb (zi_seq (ze_var 3)) (blkOk_by (N := N__law_text) (sc := defScope s__law_text) (by decide +kernel)) (fun _ _ _ _ _ => (zg_name 9 Am.toAmb.nd)) (fun _ _ _ _ _ Am1 => zts_nil) (fun _ _ _ _ _ _ _ _ Am1 => (ze_tostr (zk_var 9) T.b_str))))) (za_cons ze_str za_nil)))) (ze_k (ze_toint (ze_k (ze_cmp (cmp_eq Am.toAmb) (ze_k (ze_len (zk_var 3) T.b_len)) (ze_k ze_int) eqD_nx)) T.b_int)))) (ze_k ze_str))) (zk_var 4))) (ze_k ze_str))) (ze_k (ze_call h__law_part Am.toAmb (by decide) (za_cons (ze_var 5) za_nil))))))))))))
    (zss_rel 2 (zss_one (zs_ret (ze_join (ze_k ze_str) (zf_k (zf_lc [((Str.ofString "row"), 6)] Am.toAmb (zi_seq (ze_var 2)) (blkOk_by (N := N__law_text) (sc := defScope s__law_text) (by decide +kernel)) (fun _ _ _ _ _ => (zg_name 6 Am.toAmb.nd)) (fun _ _ _ _ _ Am1 => zts_nil) (fun _ _ _ _ _ _ _ _ Am1 => (ze_add (zk_var 6) (ze_k ze_str))))))))))
theorem ok__law_spoilt (T : Txt K w mg cm) (h__law_next : FX P w K mg base cm (Str.ofString "_law_next") 1 G__law_next) : FX P w K mg base cm (Str.ofString "_law_spoilt") 2 G__law_spoilt := fxH T.f__law_spoilt sc__law_spoilt fun f cdv A outer s H E Am =>
    (zss_cons (zs_setX 2 Am.toAmb (zx_callS 0 h__law_next Am.toAmb (by decide) (zxa_cons (zx_of (ze_add (ze_k (ze_len (zk_var 1) T.b_len)) (ze_k ze_int))) zxa_nil)))
    (zss_cons (zs_setX 3 Am.toAmb (zx_2 op2_ix (zx_of ze_str) (zx_callS 0 h__law_next Am.toAmb (by decide) (zxa_cons (zx_of ze_int) zxa_nil))))
    (zss_cons (zs_set 4 Am.toAmb (zf_e (zf_split (zk_var 1) (ze_k ze_str))))
    (zss_cons (zs_setX 5 Am.toAmb (zx_callS 0 h__law_next Am.toAmb (by decide) (zxa_cons (zx_of (ze_len (zk_var 4) T.b_len)) zxa_nil)))
    (zss_cons (zs_set 6 Am.toAmb (zf_e (zf_lst (za_cons (ze_add (ze_k (ze_sl (zk_var 1) zo_none (zo_some (ze_var 2)))) (ze_k (ze_sl (zk_var 1) (zo_some (ze_add (zk_var 2) (ze_k ze_int))) zo_none))) (za_cons (ze_add (ze_k (ze_add (ze_k (ze_sl (zk_var 1) zo_none (zo_some (ze_var 2)))) (zk_var 3))) (ze_k (ze_sl (zk_var 1) (zo_some (ze_var 2)) zo_none))) (za_cons (ze_add (ze_k (ze_add (ze_k (ze_sl (zk_var 1) zo_none (zo_some (ze_var 2)))) (zk_var 3))) (ze_k (ze_sl (zk_var 1) (zo_some (ze_add (zk_var 2) (ze_k ze_int))) zo_none))) (za_cons (ze_sl (zk_var 1) zo_none (zo_some (ze_neg (ze_k ze_int)))) (za_cons (ze_add (ze_k ze_str) (zk_var 1)) za_nil))))))))
    (zss_one (zs_retX (zx_2 op2_ix (zx_of (ze_add (zk_var 6) (zf_k (zf_lst (za_cons (ze_join (ze_k ze_str) (ze_k (ze_add (ze_k (ze_sl (zk_var 4) zo_none (zo_some (ze_var 5)))) (ze_k (ze_sl (zk_var 4) (zo_some (ze_add (zk_var 5) (ze_k ze_int))) zo_none))))) (za_cons (ze_join (ze_k ze_str) (ze_k (ze_add (ze_k (ze_add (ze_k (ze_sl (zk_var 4) zo_none (zo_some (ze_var 5)))) (ze_k (ze_sl (zk_var 4) (zo_some (ze_var 5)) (zo_some (ze_add (zk_var 5) (ze_k ze_int))))))) (ze_k (ze_sl (zk_var 4) (zo_some (ze_var 5)) zo_none))))) za_nil)))))) (zx_callS 0 h__law_next Am.toAmb (by decide) (zxa_cons (zx_of ze_int) zxa_nil))))))))))
theorem ok_law (T : Txt K w mg cm) (h__law_stream : ZFn P w K mg base cm (Str.ofString "_law_stream") 1 G__law_stream) (h__law_next : FX P w K mg base cm (Str.ofString "_law_next") 1 G__law_next) (h__law_claims : FX P w K mg base cm (Str.ofString "_law_claims") 3 G__law_claims) (h__law_duel : FX P w K mg base cm (Str.ofString "_law_duel") 3 G__law_duel) (h__law_conditions : FX P w K mg base cm (Str.ofString "_law_conditions") 4 G__law_conditions) (h__law_text : ZFn P w K mg base cm (Str.ofString "_law_text") 2 G__law_text) (h__law_same : ZFn P w K mg base cm (Str.ofString "_law_same") 1 G__law_same) (h__law_told : ZFn P w K mg base cm (Str.ofString "_law_told") 7 G__law_told) (h__law_spoilt : FX P w K mg base cm (Str.ofString "_law_spoilt") 2 G__law_spoilt) (h__law_bad : ZFn P w K mg base cm (Str.ofString "_law_bad") 1 G__law_bad) {fl : Addr} {fdl : FuncData} (Fn : Fun K (Str.ofString "law") (Str.ofString "law") s_law fl fdl) : FnG P w K mg base (L2N.CX P w) 8 fl fdl [(Str.ofString "script")] (spZ K cm G_law) := zfn_ok (N := N_law) Fn sc_law fun cdv A outer s H E Am =>
    (zss_cons (zs_own 1 Am.toAmb (zf_lst (za_cons (ze_call h__law_stream Am.toAmb (by decide) (za_cons (ze_var 0) za_nil)) (za_cons ze_int za_nil))))
    (zss_cons (zs_for Am (zi_range1 ze_int T.b_range) (zg_name 2 Am.toAmb.nd) (zss_cons (zs_setX 5 Am.toAmb (zx_2 op2_add (zx_of ze_int) (zx_callS 1 h__law_next Am.toAmb (by decide) (zxa_cons (zx_of ze_int) zxa_nil))))
    (zss_cons (zs_setX 6 Am.toAmb (zx_2 op2_add (zx_of ze_int) (zx_callS 1 h__law_next Am.toAmb (by decide) (zxa_cons (zx_of ze_int) zxa_nil))))
    (zss_cons (zs_setX 7 Am.toAmb (zx_lst (zxa_cons (zx_tup (zxa_cons (zx_of (ze_var 5)) (zxa_cons (zx_callS 1 h__law_conditions Am.toAmb (by decide) (zxa_cons (zx_of (ze_var 5)) (zxa_cons (zx_of ze_int) zxa_nil))) zxa_nil))) (zxa_cons (zx_callS 1 h__law_duel Am.toAmb (by decide) (zxa_cons (zx_of ze_int) zxa_nil)) (zxa_cons (zx_tup (zxa_cons (zx_of (ze_var 6)) (zxa_cons (zx_callS 1 h__law_claims Am.toAmb (by decide) (zxa_cons (zx_of (ze_var 6)) (zxa_cons (zx_of ze_int) zxa_nil))) zxa_nil))) zxa_nil)))))
    (zss_cons (zs_set 8 Am.toAmb (ze_repr Am.toAmb (zk_var 7) T.b_repr))
    (zss_cons (zs_for Am (zi_range1 ze_int T.b_range) (zg_name 4 Am.toAmb.nd) (zss_cons (zs_set 10 Am.toAmb (ze_call h__law_text Am.toAmb (by decide) (za_cons (ze_var 4) (za_cons (ze_ix (zk_var 7) (zk_var 4)) za_nil))))
    (zss_cons (zs_if (zt_not (zt_of (ze_k (ze_call h__law_same Am.toAmb (by decide) (za_cons (zf_e (zf_lst (za_cons (ze_call h__law_told Am.toAmb (by decide) (za_cons (ze_var 4) (za_cons (ze_ix (zk_var 7) (zk_var 4)) za_nil))) (za_cons (ze_call h__law_told Am.toAmb (by decide) (za_cons (ze_add (zk_var 4) (ze_k ze_int)) (za_cons (ze_var 10) za_nil))) za_nil)))) (za_cons (zf_e (zf_lst (za_cons (ze_tup (za_cons ze_str (za_cons (ze_var 10) za_nil))) (za_cons (ze_tup (za_cons ze_str (za_cons (ze_ix (zk_var 7) (zk_var 4)) za_nil))) za_nil)))) za_nil)))))) (zss_one (zs_ret ze_bl)) zss_nil)
    (zss_one (zs_for Am (zi_range1 ze_int T.b_range) (zg_name 11 Am.toAmb.nd) (zss_cons (zs_setX 12 Am.toAmb (zx_callS 1 h__law_spoilt Am.toAmb (by decide) (zxa_cons (zx_of (ze_var 10)) zxa_nil)))
    (zss_cons (zs_set 3 Am.toAmb (ze_call h__law_told Am.toAmb (by decide) (za_cons (ze_add (zk_var 4) (ze_k ze_int)) (za_cons (ze_var 12) za_nil))))
    (zss_one (zs_if (zt_w (zw_and (zt_cmp (cmp_ne Am.toAmb) (zk_var 3) (ze_k ze_str) neD_nx) (zw_and1 (zt_w (zw_or (zt_cmp (cmp_ne Am.toAmb) (ze_k (ze_ix (zk_var 3) (ze_k ze_int))) (ze_k ze_str) neD_nx) (zw_or (zt_cmp (cmp_ne Am.toAmb) (ze_k (ze_call h__law_text Am.toAmb (by decide) (za_cons (ze_var 4) (za_cons (ze_ix (zk_var 3) (ze_k ze_int)) za_nil)))) (zk_var 12) neD_nx) (zw_or1 (zt_cmp (cmp_ne Am.toAmb) (ze_k (ze_call h__law_told Am.toAmb (by decide) (za_cons (ze_var 4) (za_cons (ze_ix (zk_var 3) (ze_k ze_int)) za_nil)))) (ze_k (ze_tup (za_cons ze_str (za_cons (ze_var 12) za_nil)))) neD_nx)))))))) (zss_one (zs_ret ze_bl)) zss_nil)))))))))
    (zss_cons (zs_if (zt_cmp (cmp_ne Am.toAmb) (ze_k (ze_repr Am.toAmb (zk_var 7) T.b_repr)) (zk_var 8) neD_nx) (zss_one (zs_ret ze_bl)) zss_nil)
    (zss_cons (zs_set 9 Am.toAmb (zf_e (zf_lst (za_cons (ze_call h__law_told Am.toAmb (by decide) (za_cons ze_int (za_cons (ze_call h__law_bad Am.toAmb (by decide) (za_cons (ze_ix (zk_var 7) (ze_k ze_int)) za_nil)) za_nil))) (za_cons (ze_call h__law_told Am.toAmb (by decide) (za_cons ze_int (za_cons (ze_add (ze_k (ze_ix (zk_var 7) (ze_k ze_int))) (ze_k (ze_tup (za_cons (ze_add (ze_k (ze_ix (ze_k (ze_ix (zk_var 7) (ze_k ze_int))) (ze_k ze_int))) (ze_k (ze_tup (za_cons (ze_tup (za_cons ze_int (za_cons ze_int za_nil))) za_nil)))) za_nil)))) za_nil))) (za_cons (ze_call h__law_told Am.toAmb (by decide) (za_cons ze_int (za_cons (ze_tup (za_cons ze_int (za_cons (ze_tup za_nil) za_nil))) za_nil))) (za_cons (ze_call h__law_told Am.toAmb (by decide) (za_cons ze_int (za_cons (ze_tup (za_cons (ze_var 6) (za_cons (ze_tup (za_cons (ze_tup (za_cons (ze_tup za_nil) (za_cons ze_str (za_cons (ze_tup (za_cons ze_int (za_cons ze_int za_nil))) za_nil)))) za_nil)) za_nil))) za_nil))) za_nil)))))))
    (zss_one (zs_if (zt_cmp (cmp_ne Am.toAmb) (zk_var 9) (zf_k (zf_rep (zf_lst (za_cons ze_str za_nil)))) neD_nx) (zss_one (zs_ret ze_bl)) zss_nil))))))))))
    (zss_cons (zs_own 3 Am.toAmb (zf_lst za_nil))
    (zss_cons (zs_for Am (zi_range1 ze_int T.b_range) (zg_name 4 Am.toAmb.nd) (zss_one (zs_ext 3 (zf_lc [((Str.ofString "text"), 10)] Am.toAmb (zi_seq (zf_e (zf_lst (za_cons ze_str (za_cons ze_str (za_cons ze_str (za_cons ze_str (za_cons ze_str (za_cons ze_str (za_cons (ze_rep (ze_k ze_str) (ze_k ze_int)) (za_cons ze_str (za_cons ze_str (za_cons ze_str za_nil))))))))))))) (blkOk_by (N := N_law) (sc := defScope s_law) (by decide +kernel)) (fun _ _ _ _ _ => (zg_name 10 Am.toAmb.nd)) (fun _ _ _ _ _ Am1 => zts_nil) (fun _ _ _ _ _ _ _ _ Am1 => (ze_call h__law_told Am1 (by decide) (za_cons (ze_add (zk_var 4) (ze_k ze_int)) (za_cons (ze_var 10) za_nil))))))))
    (zss_one (zs_ret (ze_and (ze_cmp (cmp_eq Am.toAmb) (zk_var 3) (zf_k (zf_rep (zf_lst (za_cons ze_str za_nil)))) eqD_nx) (ze_one (ze_cmp (cmp_eq Am.toAmb) (ze_k (ze_glob T.c_MAX_ROWS_TEXT)) (ze_k ze_int) eqD_nx)))))))))
theorem all_ok (T : Txt K w mg cm) (LK : ∀ (f : Addr) (fd : FuncData), Fun K (Str.ofString "read_claims") (Str.ofString "read_claims") s_read_claims f fd → mg (Str.ofString "read_claims") = some (.ref f) → LamMk K mg base fd.code lamT.1 lamT.2.1 lamT.2.2) {fl : Addr} {fdl : FuncData} (Fn : Fun K (Str.ofString "law") (Str.ofString "law") s_law fl fdl) : FnG P w K mg base (L2N.CX P w) 8 fl fdl [(Str.ofString "script")] (spZ K cm G_law) := by
  have h_common : ZFn P w K mg base cm (Str.ofString "common") 1 G_common := ok_common T 
  have h_is_ratio : ZFn P w K mg base cm (Str.ofString "is_ratio") 2 G_is_ratio := ok_is_ratio T h_common
  have h_negated : ZFn P w K mg base cm (Str.ofString "negated") 1 G_negated := ok_negated T 
  have h_sign_of : ZFn P w K mg base cm (Str.ofString "sign_of") 1 G_sign_of := ok_sign_of T 
  have h_compare : ZFn P w K mg base cm (Str.ofString "compare") 2 G_compare := ok_compare T h_sign_of
  have h_ratio_text : ZFn P w K mg base cm (Str.ofString "ratio_text") 1 G_ratio_text := ok_ratio_text T 
  have h_is_digits : ZFn P w K mg base cm (Str.ofString "is_digits") 1 G_is_digits := ok_is_digits T 
  have h_read_ratio : ZFn P w K mg base cm (Str.ofString "read_ratio") 3 G_read_ratio := ok_read_ratio T h_is_digits h_negated h_is_ratio h_ratio_text
  have h_check_system : ZFn P w K mg base cm (Str.ofString "check_system") 3 G_check_system := ok_check_system T h_is_ratio
  have h_check_events : ZFn P w K mg base cm (Str.ofString "check_events") 1 G_check_events := ok_check_events T 
  have h_check_rows : ZFn P w K mg base cm (Str.ofString "check_rows") 2 G_check_rows := ok_check_rows T h_check_events
  have h_check_claims : ZFn P w K mg base cm (Str.ofString "check_claims") 3 G_check_claims := ok_check_claims T h_check_events h_check_rows h_is_ratio h_sign_of h_compare
  have h_check_duel : ZFn P w K mg base cm (Str.ofString "check_duel") 3 G_check_duel := ok_check_duel T h_is_ratio
  have h_row_text : ZFn P w K mg base cm (Str.ofString "row_text") 2 G_row_text := ok_row_text T h_ratio_text
  have h_system_text : ZFn P w K mg base cm (Str.ofString "system_text") 4 G_system_text := ok_system_text T h_check_system h_row_text h_ratio_text
  have h_duel_text : ZFn P w K mg base cm (Str.ofString "duel_text") 4 G_duel_text := ok_duel_text T h_check_duel h_row_text
  have h_claims_text : ZFn P w K mg base cm (Str.ofString "claims_text") 4 G_claims_text := ok_claims_text T h_check_claims h_ratio_text
  have h_rows_of : ZFn P w K mg base cm (Str.ofString "rows_of") 1 G_rows_of := ok_rows_of T 
  have h_number_of : ZFn P w K mg base cm (Str.ofString "number_of") 1 G_number_of := ok_number_of T 
  have h_front : ZFn P w K mg base cm (Str.ofString "front") 1 G_front := ok_front T 
  have LO : LamOk P w K mg base cm 4 G_lambda := ok_lambda T h_check_claims
  have h_checked : ZFn2 P w K mg base cm (Str.ofString "checked") 5 G_checked := ok_checked T h_check_system h_check_duel h_check_claims LO
  have h_read_system : ZFn2 P w K mg base cm (Str.ofString "read_system") 6 G_read_system := ok_read_system T h_rows_of h_number_of h_front h_read_ratio h_checked
  have h_read_duel : ZFn2 P w K mg base cm (Str.ofString "read_duel") 6 G_read_duel := ok_read_duel T h_rows_of h_front h_checked h_read_ratio
  have h_read_claims : ZFn2 P w K mg base cm (Str.ofString "read_claims") 6 G_read_claims := ok_read_claims T h_rows_of h_number_of h_front h_read_ratio h_checked LK
  have h__law_same : ZFn P w K mg base cm (Str.ofString "_law_same") 1 G__law_same := ok__law_same T 
  have h__law_stream : ZFn P w K mg base cm (Str.ofString "_law_stream") 1 G__law_stream := ok__law_stream T 
  have h__law_next : FX P w K mg base cm (Str.ofString "_law_next") 1 G__law_next := ok__law_next T 
  have h__law_error : ZFnE P w K mg base cm (Str.ofString "_law_error") 1 ans__law_error := ok__law_error T 
  have h__law_ratio : ZFn P w K mg base cm (Str.ofString "_law_ratio") 1 G__law_ratio := ok__law_ratio T 
  have h__law_drawn : FX P w K mg base cm (Str.ofString "_law_drawn") 2 G__law_drawn := ok__law_drawn T h__law_ratio h__law_next
  have h__law_row : FX P w K mg base cm (Str.ofString "_law_row") 3 G__law_row := ok__law_row T h__law_drawn
  have h__law_conditions : FX P w K mg base cm (Str.ofString "_law_conditions") 4 G__law_conditions := ok__law_conditions T h__law_next h__law_ratio h__law_row
  have h__law_bad : ZFn P w K mg base cm (Str.ofString "_law_bad") 1 G__law_bad := ok__law_bad T 
  have h__law_duel : FX P w K mg base cm (Str.ofString "_law_duel") 3 G__law_duel := ok__law_duel T h__law_next h__law_drawn
  have h__law_rows : FX P w K mg base cm (Str.ofString "_law_rows") 2 G__law_rows := ok__law_rows T h__law_next
  have h__law_claims : FX P w K mg base cm (Str.ofString "_law_claims") 3 G__law_claims := ok__law_claims T h__law_next h__law_ratio h__law_rows
  have h__law_told : ZFn P w K mg base cm (Str.ofString "_law_told") 7 G__law_told := (ok__law_told T h_claims_text h_system_text h_duel_text h_read_system h_read_duel h_read_claims h__law_error).calm fun ds j => tryE_nx ds j
  have h__law_part : ZFn P w K mg base cm (Str.ofString "_law_part") 1 G__law_part := ok__law_part T 
  have h__law_text : ZFn P w K mg base cm (Str.ofString "_law_text") 2 G__law_text := ok__law_text T h__law_part
  have h__law_spoilt : FX P w K mg base cm (Str.ofString "_law_spoilt") 2 G__law_spoilt := ok__law_spoilt T h__law_next
  exact ok_law T h__law_stream h__law_next h__law_claims h__law_duel h__law_conditions h__law_text h__law_same h__law_told h__law_spoilt h__law_bad Fn
end
end K95


set_option Elab.async false
set_option linter.all false
set_option maxRecDepth 100000
set_option maxHeartbeats 4000000
namespace K95
open PySem PySem.Spec PyProof.Rows L2 Z
/-- the laws' source of numbers: what it holds, where it stands -/
abbrev stD (ns : List Nat) (c : Nat) : List D := [.list (ns.map fun n => .int (n : Nat)), .int (c : Nat)]
def nextV (ns : List Nat) (c many : Nat) : Nat := (ns.getD ((c + 1) % ns.length) 0 + (c + 1) / ns.length * 389 + (c + 1) * ((c + 1) / ns.length) * 17) % many
theorem next_ok {ns : List Nat} {c many : Nat} (hne : ns ≠ []) (hl : ns.length < 2 ^ 40) (hm : 0 < many) (hc : c < 2 ^ 20) : G__law_next (stD ns c) [.int (many : Nat)] = .ok (.int (nextV ns c many : Nat)) (stD ns (c + 1)) := by
  have hp : 0 < ns.length := List.length_pos_iff.mpr hne
  have hlen : ((ns.map fun n => (.int (n : Nat) : D))).length = ns.length := List.length_map _
  have hq : (c + 1) / ns.length ≤ c + 1 := Nat.div_le_self _ _
  have at0 : ∀ {r : Rho} {k : Nat}, r[0]? = some (.ow (stD ns k)) → cB2 ixD (cVarC 0) (cK (.int 0)) r = .ok (.list (ns.map fun n => .int (n : Nat))) := fun {r k} h =>
    ev_b2 (x := .list (stD ns k)) (by unfold cVarC; rw [h]) rfl (ix_l 0 rfl rfl)
  have at1 : ∀ {r : Rho} {k : Nat}, r[0]? = some (.ow (stD ns k)) → cB2 ixD (cVarC 0) (cK (.int 1)) r = .ok (.int (k : Nat)) := fun {r k} h =>
    ev_b2 (x := .list (stD ns k)) (by unfold cVarC; rw [h]) rfl (ix_l 1 rfl rfl)
  have ln : ∀ {r : Rho} {k : Nat}, r[0]? = some (.ow (stD ns k)) → cB1 lenD (cB2 ixD (cVarC 0) (cK (.int 0))) r = .ok (.int (ns.length : Nat)) := fun {r k} h => ev_b1 (at0 h) (by rw [← hlen]; exact len_nat)
  have hmod : (c + 1) % ns.length < ns.length := Nat.mod_lt _ hp
  refine ev_runX rfl (ev_seq (ev_put (m := 1) (ev_b2 (at1 (k := c) rfl) rfl (add_nat c 1)) rfl rfl rfl) (ev_seq (ev_set (ev_b2 (at1 (k := c + 1) rfl) (ln (k := c + 1) rfl) (div_nat (c + 1) ns.length hp (by omega)))) (ev_ret ?_))) rfl
  refine ev_b2 (int_nat (ev_b2 (ev_b2 (ev_b2 (at0 (k := c + 1) rfl) (ev_b2 (at1 (k := c + 1) rfl) (ln (k := c + 1) rfl) (mod_nat (c + 1) ns.length hp)) (ix_l ((c + 1) % ns.length) rfl (d := .int (ns.getD ((c + 1) % ns.length) 0 : Nat)) ?_))
    (ev_b2 (x := .int ((c + 1) / ns.length : Nat)) rfl rfl (mul_nat _ 389 (by omega) (by decide))) (add_nat _ _))
    (ev_b2 (ev_b2 (at1 (k := c + 1) rfl) (y := .int ((c + 1) / ns.length : Nat)) rfl (mul_nat (c + 1) _ (by omega) (by omega))) rfl (mul_nat _ 17 ?_ (by decide))) (add_nat _ _))) (y := .int (many : Nat)) rfl (mod_nat _ many hm)
  · rw [List.getElem?_map, List.getElem?_eq_getElem hmod, List.getD_eq_getElem?_getD, List.getElem?_eq_getElem hmod]
    rfl
  · have : (c + 1) * ((c + 1) / ns.length) ≤ (c + 1) * (c + 1) := Nat.mul_le_mul_left _ hq
    have h2 : (c + 1) * (c + 1) ≤ 2 ^ 20 * 2 ^ 20 := Nat.mul_le_mul (by omega) (by omega)
    omega
end K95


set_option Elab.async false
set_option linter.all false
set_option maxRecDepth 100000
set_option maxHeartbeats 4000000
/-! What stops with an error; loops that may stop; pages of lines of words. -/
namespace Z
open PySem PySem.Spec PyProof.Rows L2
section
variable {r r' : Rho} {F G : SF} {o : Out} {d x y z : D} {f g h : Rho → R D} {ds es : List D} {fa ga : Rho → R (List D)} {i j m n : Nat} {b c : Bool} {t u : Rho → R Bool}
theorem ex_seq (h1 : F r = .xx i r') : sSeq F G r = .xx i r' := by unfold sSeq; rw [h1]
theorem ex_set (h : f r = .ex i) : sSet j f r = .xx i r := by unfold sSet onE; rw [h]
theorem ex_ret (h : f r = .ex i) : sRet f r = .xx i r := by unfold sRet onE; rw [h]
theorem ex_ex (h : f r = .ex i) : sEx f r = .xx i r := by unfold sEx onE; rw [h]
theorem ev_ex (h : f r = .ok d) : sEx f r = .nx r := by unfold sEx onE; rw [h]
theorem ex_call {Gd : List D → R D} (h : fa r = .ok ds) (h2 : Gd ds = .ex i) : cCall Gd fa r = .ex i := by unfold cCall; rw [h]; exact h2
theorem ex_calla {Gd : List D → R D} (h : fa r = .ex i) : cCall Gd fa r = .ex i := by unfold cCall; rw [h]; rfl
theorem ex_b1 {O : D → R D} (h1 : f r = .ex i) : cB1 O f r = .ex i := by unfold cB1; rw [h1]; rfl
theorem ex_b2 {O : D → D → R D} (h1 : f r = .ex i) : cB2 O f g r = .ex i := by unfold cB2; rw [h1]; rfl
theorem ex_b2r {O : D → D → R D} (h1 : f r = .ok x) (h2 : g r = .ex i) : cB2 O f g r = .ex i := by unfold cB2; rw [h1]; show (g r).bind _ = _; rw [h2]; rfl
theorem ex_run (hl : ds.length = m) (h : F (startR n ds) = .xx i r') : runF n m F ds = .ex i := by
  unfold runF runS
  rw [if_pos hl, h]
theorem ev_runn (hl : ds.length = m) (h : F (startR n ds) = .nx r') : runF n m F ds = .ok .none := by
  unfold runF runS
  rw [if_pos hl, h]
theorem ex_cons (h1 : f r = .ex i) : cCons f fa r = .ex i := by unfold cCons; rw [h1]; rfl
theorem ex_consr (h1 : f r = .ok x) (h2 : fa r = .ex i) : cCons f fa r = .ex i := by unfold cCons; rw [h1]; show (fa r).bind _ = _; rw [h2]; rfl
theorem ex_tup (h : fa r = .ex i) : cTup fa r = .ex i := by unfold cTup; rw [h]; rfl
theorem ex_l (h : fa r = .ex i) : cL fa r = .ex i := by unfold cL; rw [h]; rfl
theorem ex_app (h : r[j]? = some (.ow ds)) (h1 : f r = .ex i) : sApp j f r = .xx i r := by unfold sApp onE; rw [h]; simp only []; rw [h1]
theorem ev_cift (h : t r = .ok true) (h1 : f r = .ok d) : cIf t f g r = .ok d := by unfold cIf; rw [h]; exact h1
theorem ev_ciff (h : t r = .ok false) (h1 : g r = .ok d) : cIf t f g r = .ok d := by unfold cIf; rw [h]; exact h1
theorem ex_ciff (h : t r = .ok false) (h1 : g r = .ex i) : cIf t f g r = .ex i := by unfold cIf; rw [h]; exact h1
theorem ev_andf (h : t r = .ok false) : cAnd t u r = .ok false := by unfold cAnd; rw [h]; rfl
theorem ev_andt (h : t r = .ok true) (h2 : u r = .ok b) : cAnd t u r = .ok b := by unfold cAnd; rw [h]; exact h2
theorem ev_andVf (h : f r = .ok (.bool false)) : cAndV f g r = .ok (.bool false) := by unfold cAndV; rw [h]; rfl
theorem ev_ext (h : r[i]? = some (.ow ds)) (h1 : fa r = .ok es) (hl : ds.length + es.length ≤ sizeLine) : xsExt i fa r = .nx (r.set i (.ow (ds ++ es))) := by
  unfold xsExt onE; rw [h]; simp only []; rw [h1]; exact if_pos hl
theorem ev_rel (h : r[i]? = some (.ow ds)) (h1 : F (r.set i (.sh (.list ds))) = o) : sRel i F r = o := by unfold sRel; rw [h]; exact h1
theorem ev_cat {xs ys : List D} (h1 : f r = .ok (.list xs)) (h2 : g r = .ok (.list ys)) (hl : xs.length + ys.length ≤ sizeLine) : cCat f g r = .ok (xs ++ ys) := by
  unfold cCat; rw [h1]; show (g r).bind _ = _; rw [h2]; exact if_pos hl
theorem ev_ch {O P : D → D → R Bool} (h1 : f r = .ok x) (h2 : g r = .ok y) (h3 : O x y = .ok true) (h4 : h r = .ok z) (h5 : P y z = .ok b) : cCh O P f g h r = .ok b := by
  unfold cCh; rw [h1]; show (g r).bind _ = _; rw [h2]; show (O x y).bind _ = _; rw [h3]; show (h r).bind _ = _; rw [h4]; exact h5
theorem ev_chf {O P : D → D → R Bool} (h1 : f r = .ok x) (h2 : g r = .ok y) (h3 : O x y = .ok false) : cCh O P f g h r = .ok false := by
  unfold cCh; rw [h1]; show (g r).bind _ = _; rw [h2]; show (O x y).bind _ = _; rw [h3]; rfl
/-! ### what may stop -/
def oR {α β : Type} (k : Nat) (g : α → β) : Option α → R β
  | some a => .ok (g a)
  | none => .ex k
def mapO {α β : Type} (q : α → Option β) : List α → Option (List β)
  | [] => some []
  | x :: xs => (q x).bind fun y => (mapO q xs).bind fun ys => some (y :: ys)
theorem mapO_some {α β : Type} {q : α → Option β} : ∀ {xs : List α} {ys : List β}, mapO q xs = some ys → xs.length = ys.length ∧ ∀ x ∈ xs, ∃ y, q x = some y
  | [], ys, h => by cases h; exact ⟨rfl, fun x m => nomatch m⟩
  | x :: xs, ys, h => by
    unfold mapO at h
    obtain ⟨y, h1, h⟩ := Option.bind_eq_some_iff.mp h
    obtain ⟨zs, h2, h⟩ := Option.bind_eq_some_iff.mp h
    cases h
    obtain ⟨a, b⟩ := mapO_some h2
    exact ⟨by simp [a], List.forall_mem_cons.mpr ⟨⟨y, h1⟩, b⟩⟩
/-- what is read is what was written -/
theorem mapO_inv {α β : Type} {q : α → Option β} {t : β → α} {P : β → Prop} : ∀ {xs : List α} {ys : List β}, mapO q xs = some ys → (∀ x ∈ xs, ∀ y, q x = some y → t y = x ∧ P y) → ys.map t = xs ∧ ∀ y ∈ ys, P y
  | [], ys, h, _ => by cases h; exact ⟨rfl, fun x m => nomatch m⟩
  | x :: xs, ys, h, hq => by
    unfold mapO at h
    obtain ⟨y, h1, h⟩ := Option.bind_eq_some_iff.mp h
    obtain ⟨zs, h2, h⟩ := Option.bind_eq_some_iff.mp h
    cases h
    obtain ⟨a, b⟩ := mapO_inv h2 fun x m => hq x (List.mem_cons_of_mem _ m)
    obtain ⟨c, d⟩ := hq x List.mem_cons_self y h1
    exact ⟨by rw [List.map_cons, a, c], List.forall_mem_cons.mpr ⟨d, b⟩⟩
theorem mapO_map {α β : Type} {q : α → Option β} {t : β → α} : ∀ {ys : List β}, (∀ y ∈ ys, q (t y) = some y) → mapO q (ys.map t) = some ys
  | [], _ => rfl
  | y :: ys, h => by
    show (q (t y)).bind _ = _
    rw [h y List.mem_cons_self]
    show (mapO q (ys.map t)).bind _ = _
    rw [mapO_map fun z m => h z (List.mem_cons_of_mem _ m)]
    rfl
theorem comp_o {α β : Type} {A : D → Rho → Option Rho} {T : Rho → R Bool} {r0 : Rho} {k : Nat} {e : α → D} {q : α → Option β} {gg : β → D} : ∀ (xs : List α) (acc : List D), (∀ x ∈ xs, ∃ r1, A (e x) r0 = some r1 ∧ T r1 = .ok true ∧ f r1 = oR k gg (q x)) → acc.length + xs.length ≤ sizeLine →
    compL A T f r0 acc (xs.map e) = oR k (fun ys => acc ++ ys.map gg) (mapO q xs)
  | [], acc, _, _ => by simp [compL, mapO, oR]
  | x :: xs, acc, hd, hl => by
    obtain ⟨r1, h1, h2, h3⟩ := hd x List.mem_cons_self
    rw [List.map_cons]
    unfold compL mapO
    rw [h1]
    simp only []
    rw [h2]
    simp only []
    rw [h3]
    cases hq : q x with
    | none => rfl
    | some y =>
      simp only [oR]
      rw [if_pos (by simp only [List.length_cons] at hl; omega), comp_o xs (acc ++ [gg y]) (fun e m => hd e (List.mem_cons_of_mem _ m)) (by simp only [List.length_append, List.length_cons, List.length_nil] at hl ⊢; omega)]
      cases mapO q xs with
      | none => rfl
      | some ys => simp [oR]
theorem ev_lco {α β : Type} {vs : List Nat} {fi : Rho → R (List D)} {A : D → Rho → Option Rho} {T : Rho → R Bool} {k : Nat} {e : α → D} {q : α → Option β} {gg : β → D} {xs : List α} (hn : noOw r vs = true) (h : fi r = .ok (xs.map e)) (hl : xs.length ≤ sizeLine)
    (hd : ∀ x ∈ xs, ∃ r1, A (e x) (wipeR r vs) = some r1 ∧ T r1 = .ok true ∧ f r1 = oR k gg (q x)) : cLc vs fi A T f r = oR k (fun ys => ys.map gg) (mapO q xs) := by
  unfold cLc
  rw [if_pos hn, h]
  show compL A T f (wipeR r vs) [] (xs.map e) = _
  rw [comp_o xs [] hd (by simpa using hl)]
  cases mapO q xs <;> simp [oR]
/-- a comprehension over items that are all taken -/
theorem ev_lcm {α : Type} {vs : List Nat} {fi : Rho → R (List D)} {A : D → Rho → Option Rho} {T : Rho → R Bool} {e : α → D} {gg : α → D} {xs : List α} (hn : noOw r vs = true) (h : fi r = .ok (xs.map e)) (hl : xs.length ≤ sizeLine)
    (hd : ∀ x ∈ xs, ∃ r1, A (e x) (wipeR r vs) = some r1 ∧ T r1 = .ok true ∧ f r1 = .ok (gg x)) : cLc vs fi A T f r = .ok (xs.map gg) := by
  have := ev_lco (k := 0) (q := fun x => some x) (gg := gg) hn h hl fun x m => hd x m
  rw [this]
  have e2 := mapO_map (q := fun x : α => some x) (t := id) (ys := xs) fun y _ => rfl
  rw [List.map_id] at e2
  rw [e2]
  rfl
/-- a loop whose turns go on or stop -/
theorem for_o {α β : Type} {A : D → Rho → Option Rho} {k N : Nat} {e : α → D} {q : α → Option β} (I : List β → Rho → Prop) : ∀ (xs : List α) (acc : List β) (r : Rho), I acc r → acc.length + xs.length ≤ N → (∀ x ∈ xs, ∀ acc r, acc.length < N → I acc r →
    ∃ r1, A (e x) r = some r1 ∧ match q x with | some y => ∃ r2, F r1 = .nx r2 ∧ I (acc ++ [y]) r2 | none => ∃ r2, F r1 = .xx k r2) →
    match mapO q xs with | some ys => ∃ r', forL A F (xs.map e) r = .nx r' ∧ I (acc ++ ys) r' | none => ∃ r', forL A F (xs.map e) r = .xx k r'
  | [], acc, r, h, _, _ => ⟨r, rfl, by rw [List.append_nil]; exact h⟩
  | x :: xs, acc, r, h, hl, hd => by
    obtain ⟨r1, h1, h2⟩ := hd x List.mem_cons_self acc r (by simp only [List.length_cons] at hl; omega) h
    rw [List.map_cons]
    unfold forL mapO
    rw [h1]
    simp only []
    cases hq : q x with
    | none =>
      rw [hq] at h2
      obtain ⟨r2, h2⟩ := h2
      rw [h2]
      exact ⟨r2, rfl⟩
    | some y =>
      rw [hq] at h2
      obtain ⟨r2, h2, h3⟩ := h2
      have ih := for_o I xs (acc ++ [y]) r2 h3 (by simp only [List.length_append, List.length_cons, List.length_nil] at hl ⊢; omega) fun z m => hd z (List.mem_cons_of_mem _ m)
      rw [h2]
      cases hm : mapO q xs with
      | none =>
        rw [hm] at ih
        exact ih
      | some ys =>
        rw [hm] at ih
        obtain ⟨r', a, b⟩ := ih
        exact ⟨r', a, by rw [List.append_assoc] at b; exact b⟩
theorem sfor_of {A : D → Rho → Option Rho} {fi : Rho → R (List D)} (h : fi r = .ok ds) (h1 : forL A F ds r = o) : sFor fi A F r = o := by unfold sFor onE; rw [h]; exact h1
end
/-! ### pages -/
abbrev nlS : Str := Str.ofString "\n"
abbrev emS : Str := Str.ofString ""
theorem tl_nl : TL.tl nlS = [10] := by decide +kernel
theorem tl_em : TL.tl emS = [] := by decide +kernel
def pageT (ls : List Str) : Str := Txt.join emS (ls.map (· ++ nlS))
theorem joinL_nil : ∀ ps : List (List Nat), TL.joinL [] ps = ps.flatten
  | [] => rfl
  | [p] => by simp [TL.joinL]
  | p :: q :: r => by
    show p ++ ([] ++ TL.joinL [] (q :: r)) = _
    rw [joinL_nil (q :: r)]
    simp
theorem joinL_end (s : Nat) : ∀ ps : List (List Nat), TL.joinL [s] (ps ++ [[]]) = (ps.map (· ++ [s])).flatten
  | [] => rfl
  | [p] => by simp [TL.joinL]
  | p :: q :: r => by
    show p ++ ([s] ++ TL.joinL [s] (q :: r ++ [[]])) = _
    rw [joinL_end s (q :: r)]
    simp
theorem tl_page (ls : List Str) : TL.tl (pageT ls) = (ls.map fun l => TL.tl l ++ [10]).flatten := by
  unfold pageT
  rw [TL.join_eq, TL.tl_join, tl_em, joinL_nil, List.map_map]
  congr 1
  apply List.map_congr_left
  intro l _
  show TL.tl (l ++ nlS) = _
  rw [TL.tl_append, tl_nl]
theorem page_join (ls : List Str) : pageT ls = Txt.join nlS (ls ++ [emS]) := by
  apply TL.ext_tl
  rw [tl_page, TL.join_eq, TL.tl_join, tl_nl, List.map_append, List.map_cons, List.map_nil, tl_em, joinL_end, List.map_map]
  rfl
theorem split_page {ls : List Str} (h : ∀ l ∈ ls, 10 ∉ TL.tl l) : Txt.split (pageT ls) nlS = ls ++ [emS] := by
  rw [page_join]
  refine TL.split_join tl_nl (by decide +kernel) (by simp) fun p m => ?_
  rcases List.mem_append.mp m with m | m
  · exact h p m
  · rw [List.mem_singleton.mp m, tl_em]
    exact nofun
theorem nl_mk : nlS = ⟨#[10]⟩ := TL.ext_tl tl_nl
theorem sp_mk : sepS = ⟨#[32]⟩ := TL.ext_tl tl_sp
theorem split_back (x y : Str) : Txt.join y (Txt.split x y) = x := by rw [TL.join_eq]; exact StrLaws.join_split x y
theorem nl_free (x : Str) : ∀ p ∈ Txt.split x nlS, 10 ∉ TL.tl p := by rw [nl_mk]; exact StrLaws.split_free x 10
theorem sp_free (x : Str) : ∀ p ∈ Txt.split x sepS, 32 ∉ TL.tl p := by rw [sp_mk]; exact StrLaws.split_free x 32
theorem joinL_mem {s : Nat} : ∀ {ps : List (List Nat)} {p : List Nat}, p ∈ ps → p.length ≤ (TL.joinL [s] ps).length ∧ ∀ c ∈ p, c ∈ TL.joinL [s] ps
  | [q], p, h => by rw [List.mem_singleton.mp h]; exact ⟨Nat.le_refl _, fun c m => m⟩
  | q :: u :: r, p, h => by
    show p.length ≤ (q ++ ([s] ++ TL.joinL [s] (u :: r))).length ∧ ∀ c ∈ p, c ∈ q ++ ([s] ++ TL.joinL [s] (u :: r))
    rcases List.mem_cons.mp h with h | h
    · subst h
      exact ⟨by simp, fun c m => List.mem_append_left _ m⟩
    · have ih := joinL_mem h (s := s)
      exact ⟨by simp only [List.length_append]; omega, fun c m => List.mem_append_right _ (List.mem_append_right _ (ih.2 c m))⟩
theorem joinL_cnt {s : Nat} : ∀ (ps : List (List Nat)), ps.length ≤ (TL.joinL [s] ps).length + 1
  | [] => by simp
  | [q] => by simp
  | q :: u :: r => by
    show (q :: u :: r).length ≤ (q ++ ([s] ++ TL.joinL [s] (u :: r))).length + 1
    have := joinL_cnt (s := s) (u :: r)
    simp only [List.length_append, List.length_cons, List.length_nil] at this ⊢
    omega
/-- a short text of lawful signs -/
def Good (w : Str) : Prop := PyData.strOk w = true ∧ w.length ≤ 60000
theorem strOk_tl {w : Str} : PyData.strOk w = true ↔ ∀ c ∈ TL.tl w, c < 1114112 := by
  unfold PyData.strOk
  rw [← Array.all_toList, List.all_eq_true]
  exact ⟨fun h c m => by simpa using h c m, fun h c m => by simpa using h c m⟩
theorem good_part {x y : Str} {c : Nat} (hy : TL.tl y = [c]) (h : Good x) : (∀ p ∈ Txt.split x y, Good p) ∧ (Txt.split x y).length ≤ 60001 ∧ Txt.split x y ≠ [] := by
  have e : TL.tl x = TL.joinL [c] ((Txt.split x y).map TL.tl) := by
    have := congrArg TL.tl (split_back x y)
    rw [TL.join_eq, TL.tl_join, hy] at this
    exact this.symm
  have hx := h.2
  rw [TL.len_tl, e] at hx
  refine ⟨fun p m => ?_, ?_, ?_⟩
  · have := joinL_mem (s := c) (List.mem_map_of_mem (f := TL.tl) m)
    refine ⟨strOk_tl.mpr fun d hd => strOk_tl.mp h.1 d (by rw [e]; exact this.2 d hd), ?_⟩
    rw [TL.len_tl]
    omega
  · have := joinL_cnt (s := c) ((Txt.split x y).map TL.tl)
    rw [List.length_map] at this
    omega
  · unfold Txt.split
    split
    · simp
    · split
      · simp
      · rw [StrLaws.partsBetween_eq]
        intro q
        have := congrArg List.length q
        rw [partsFrom_length] at this
        cases this
/-! ### a page and its rows of words -/
def rowsO (x : Str) : Option (List (List Str)) :=
  if 60000 < x.length then none else if (Txt.split x nlS).getLast? = some emS then some ((Txt.split x nlS).dropLast.map fun l => Txt.split l sepS) else none
def Row (ws : List Str) : Prop := ws ≠ [] ∧ ws.length ≤ 60001 ∧ ∀ w ∈ ws, Good w ∧ 32 ∉ TL.tl w
theorem rowsO_inv {x : Str} {rows : List (List Str)} (hx : PyData.strOk x = true) (h : rowsO x = some rows) : x = pageT (rows.map line) ∧ x.length ≤ 60000 ∧ rows.length ≤ 60001 ∧ ∀ ws ∈ rows, Row ws := by
  unfold rowsO at h
  by_cases c : 60000 < x.length
  · rw [if_pos c] at h; cases h
  rw [if_neg c] at h
  by_cases c2 : (Txt.split x nlS).getLast? = some emS
  · rw [if_pos c2] at h
    cases h
    have gx : Good x := ⟨hx, by omega⟩
    obtain ⟨g1, g2, g3⟩ := good_part tl_nl gx
    have e1 : Txt.split x nlS = (Txt.split x nlS).dropLast ++ [emS] := by
      obtain ⟨ys, e⟩ := List.getLast?_eq_some_iff.mp c2
      rw [e]
      simp
    refine ⟨?_, by omega, ?_, ?_⟩
    · rw [List.map_map]
      have : (Txt.split x nlS).dropLast.map (line ∘ fun l => Txt.split l sepS) = (Txt.split x nlS).dropLast := by
        refine (List.map_congr_left (g := id) fun l _ => split_back l sepS).trans (List.map_id _)
      rw [this, page_join, ← e1, split_back]
    · rw [List.length_map, List.length_dropLast]; omega
    · intro ws m
      obtain ⟨l, hl, rfl⟩ := List.mem_map.mp m
      obtain ⟨k1, k2, k3⟩ := good_part tl_sp (g1 l ((List.dropLast_subset _ hl)))
      exact ⟨k3, k2, fun w hw => ⟨k1 w hw, sp_free l w hw⟩⟩
  · rw [if_neg c2] at h; cases h
theorem mem_line {ws : List Str} {c : Nat} (h : c ∈ TL.tl (line ws)) : c = 32 ∨ ∃ w ∈ ws, c ∈ TL.tl w := by
  rw [tl_line] at h
  induction ws with
  | nil => cases h
  | cons w us ih =>
    cases us with
    | nil => exact .inr ⟨w, List.mem_cons_self, h⟩
    | cons u r =>
      have h' : c ∈ TL.tl w ++ ([32] ++ TL.joinL [32] ((u :: r).map TL.tl)) := h
      rcases List.mem_append.mp h' with h | h
      · exact .inr ⟨w, List.mem_cons_self, h⟩
      · rcases List.mem_append.mp h with h | h
        · exact .inl (List.mem_singleton.mp h)
        · rcases ih h with h | ⟨v, hv, h⟩
          · exact .inl h
          · exact .inr ⟨v, List.mem_cons_of_mem _ hv, h⟩
theorem rowsO_page {rows : List (List Str)} (hl : (pageT (rows.map line)).length ≤ 60000) (hr : ∀ ws ∈ rows, ws ≠ [] ∧ ∀ w ∈ ws, 32 ∉ TL.tl w ∧ 10 ∉ TL.tl w) : rowsO (pageT (rows.map line)) = some rows := by
  have e : Txt.split (pageT (rows.map line)) nlS = rows.map line ++ [emS] := split_page fun l m => by
    obtain ⟨ws, hws, rfl⟩ := List.mem_map.mp m
    intro hc
    rcases mem_line hc with h | ⟨w, hw, h⟩
    · cases h
    · exact ((hr ws hws).2 w hw).2 h
  unfold rowsO
  rw [if_neg (by omega), e, if_pos (by simp), List.dropLast_concat, List.map_map]
  congr 1
  rw [List.map_congr_left (g := id), List.map_id]
  intro ws m
  exact TL.split_join tl_sp (by decide +kernel) (hr ws m).1 fun w hw => ((hr ws m).2 w hw).1
/-- how long a page is -/
theorem page_len {ls : List Str} {b : Nat} (h : ∀ l ∈ ls, l.length ≤ b) : (pageT ls).length ≤ ls.length * (b + 1) := by
  rw [TL.len_tl, tl_page]
  induction ls with
  | nil => simp
  | cons l ls ih =>
    have a := h l List.mem_cons_self
    have b' := ih fun m hm => h m (List.mem_cons_of_mem _ hm)
    rw [TL.len_tl] at a
    simp only [List.map_cons, List.flatten_cons, List.length_append, List.length_cons, List.length_nil]
    rw [Nat.add_mul]
    omega
/-! ### joins -/
theorem joinL_sum (S : List Nat) : ∀ ps : List (List Nat), ps ≠ [] → (TL.joinL S ps).length + S.length = (ps.map (·.length)).sum + ps.length * S.length
  | [], h => absurd rfl h
  | [p], _ => by simp [TL.joinL]
  | p :: q :: r, _ => by
    show (p ++ (S ++ TL.joinL S (q :: r))).length + S.length = _
    have := joinL_sum S (q :: r) (by simp)
    simp only [List.map_cons, List.sum_cons, List.length_append, List.length_cons] at this ⊢
    rw [Nat.add_mul]
    omega
theorem joinD_ok {y : Str} {ws : List Str} (hy : y.length ≤ 1) (h : (Txt.join y ws).length ≤ 1000000) : joinD y (.list (ws.map .str)) = .ok (.str (Txt.join y ws)) := by
  show (strsOf (ws.map PyData.str)).bind (fun ys => joinW y ys) = _
  rw [strsOf_map]
  show joinW y ws = _
  unfold joinW
  refine if_pos ?_
  by_cases e : ws = []
  · subst e; simp
  · have := joinL_sum (TL.tl y) (ws.map TL.tl) (by simpa using e)
    rw [← TL.tl_join, ← TL.join_eq, ← TL.len_tl, ← TL.len_tl, List.map_map, List.length_map] at this
    have e2 : (ws.map (List.length ∘ TL.tl)).sum = (ws.map (·.length)).sum := by
      congr 1
    rw [e2] at this
    omega
theorem len_nl : nlS.length = 1 := by decide +kernel
theorem len_sp : sepS.length = 1 := by decide +kernel
theorem len_em : emS.length = 0 := by decide +kernel
/-- a line of a page is no longer than the page -/
theorem line_le {ls : List Str} {l : Str} (h : l ∈ ls) : l.length + 1 ≤ (pageT ls).length := by
  rw [TL.len_tl, TL.len_tl, tl_page]
  induction ls with
  | nil => cases h
  | cons k ls ih =>
    rw [List.map_cons, List.flatten_cons, List.length_append, List.length_append]
    rcases List.mem_cons.mp h with h | h
    · subst h; simp only [List.length_cons, List.length_nil]; omega
    · have := ih h
      omega
end Z


set_option Elab.async false
set_option linter.all false
set_option maxRecDepth 100000
set_option maxHeartbeats 4000000
/-! Ratios: their text, and what reads them. -/
namespace K95
open PySem PySem.Spec PyProof.Rows L2 Z
abbrev Q := Int × Int
def ratD (p : Q) : D := .tuple [.int p.1, .int p.2]
abbrev zS (i : Int) : Str := Str.ofString (toString i)
abbrev slS : Str := Str.ofString "/"
def ratT (p : Q) : Str := if p.2 = 1 then zS p.1 else zS p.1 ++ slS ++ zS p.2
def Sm (i : Int) : Prop := i.natAbs < 10 ^ 70
def SmQ (p : Q) : Prop := Sm p.1 ∧ Sm p.2
theorem log_sm {i : Int} (h : Sm i) : i.natAbs.log2 < 1920 := by
  by_cases e : i.natAbs = 0
  · rw [e]; decide
  · refine (Nat.log2_lt e).mpr (Nat.lt_trans h ?_)
    decide +kernel
theorem strD_sm {i : Int} (h : Sm i) : strD (.int i) = .ok (.str (zS i)) := if_pos (log_sm h)
theorem fmtD_sm {i : Int} (h : Sm i) : fmtD (.int i) = .ok (.str (zS i)) := if_pos (log_sm h)
theorem zS_len {i : Int} (h : Sm i) : (zS i).length ≤ 71 := by
  unfold Sm at h
  by_cases c : 0 ≤ i
  · have := toString_length_le (v := i) c (k := 70) (by decide) (by omega)
    exact Nat.le_trans this (by decide)
  · have e := len_text_negI (n := i) (by omega)
    have := toString_length_le (v := 0 - i) (by omega) (k := 70) (by decide) (by omega)
    show (Str.ofString (toString i)).length ≤ 71
    omega
theorem len_sl : slS.length = 1 := by decide +kernel
theorem ratT_len {p : Q} (h : SmQ p) : (ratT p).length ≤ 143 := by
  have a := zS_len h.1
  have b := zS_len h.2
  unfold ratT
  split
  · omega
  · rw [Str.length_append, Str.length_append, len_sl]; omega
theorem i1_eq {a : Int} : eqD (.int a) (.int 1) = .ok (a == 1) := eq_int rfl
theorem part_ok {p : Q} (h : SmQ p) : G__law_part [ratD p] = .ok (.str (ratT p)) := by
  have a := zS_len h.1
  have b := zS_len h.2
  by_cases c : p.2 = 1
  · have e : ratT p = zS p.1 := if_pos c
    rw [e]
    exact ev_run rfl (ev_seqr (ev_ift (ev_t2 (ev_b2 (x := ratD p) (y := .int 1) rfl rfl (ix_t 1 rfl rfl)) rfl (by rw [i1_eq, c]; rfl)) (ev_ret (ev_b1 (ev_b2 (x := ratD p) (y := .int 0) rfl rfl (ix_t 0 rfl rfl)) (strD_sm h.1)))))
  · have e : ratT p = zS p.1 ++ slS ++ zS p.2 := if_neg c
    rw [e]
    refine ev_run rfl (ev_seq (ev_iff (ev_t2 (ev_b2 (x := ratD p) (y := .int 1) rfl rfl (ix_t 1 rfl rfl)) rfl (by rw [i1_eq, beq_eq_false_iff_ne.mpr c])) rfl) (ev_ret (ev_b2 (ev_b2 (ev_b1 (ev_b2 (x := ratD p) (y := .int 0) rfl rfl (ix_t 0 rfl rfl)) (strD_sm h.1)) rfl (addD_str (by rw [len_sl]; exact small (by omega))))
      (ev_b1 (ev_b2 (x := ratD p) (y := .int 1) rfl rfl (ix_t 1 rfl rfl)) (strD_sm h.2)) (addD_str (by rw [Str.length_append, len_sl]; exact small (by omega))))))
theorem zS_tl (i : Int) : ∀ c ∈ TL.tl (zS i), c = 45 ∨ (48 ≤ c ∧ c ≤ 57) := by
  by_cases h : 0 ≤ i
  · obtain ⟨n, rfl⟩ := Int.eq_ofNat_of_zero_le h
    intro c m
    rw [TL.tl_num] at m
    exact .inr (TL.numL_digits n c m)
  · obtain ⟨n, hn⟩ := Int.eq_ofNat_of_zero_le (a := 0 - i) (by omega)
    intro c m
    have e : zS i = Str.ofString "-" ++ zS (n : Nat) := by
      show Str.ofString (toString i) = _
      rw [toString_neg (by omega : i < 0), ← hn]
      exact TL.ext_tl (by rw [TL.tl_append, TL.tl_ofString, TL.tl_ofString, TL.tl_ofString, String.toList_append, List.map_append])
    rw [e, TL.tl_append] at m
    rcases List.mem_append.mp m with m | m
    · have : TL.tl (Str.ofString "-") = [45] := by decide +kernel
      rw [this] at m
      exact .inl (List.mem_singleton.mp m)
    · rw [TL.tl_num] at m
      exact .inr (TL.numL_digits n c m)
theorem ratT_tl (p : Q) : ∀ c ∈ TL.tl (ratT p), 45 ≤ c ∧ c ≤ 57 := by
  intro c m
  have z : ∀ i : Int, c ∈ TL.tl (zS i) → 45 ≤ c ∧ c ≤ 57 := fun i h => by have := zS_tl i c h; omega
  unfold ratT at m
  split at m
  · exact z _ m
  · rw [TL.tl_append, TL.tl_append] at m
    rcases List.mem_append.mp m with m | m
    · rcases List.mem_append.mp m with m | m
      · exact z _ m
      · have : TL.tl slS = [47] := by decide +kernel
        rw [this] at m
        have := List.mem_singleton.mp m
        omega
    · exact z _ m
theorem ratT_ok (p : Q) : PyData.strOk (ratT p) = true := strOk_tl.mpr fun c m => by
  have := ratT_tl p c m
  omega
theorem cj_ok {f : Rho → R D} {g : Str → Rho → R Str} {acc y : Str} {r : Rho} {o : R Str} (h : f r = .ok (.str y)) (hl : (acc ++ y).length ≤ sizeLine) (h1 : g (acc ++ y) r = o) : cJc f g acc r = o := by
  unfold cJc
  rw [h]
  show (if (acc ++ y).length ≤ sizeLine then g (acc ++ y) r else .no) = o
  rw [if_pos hl, h1]
theorem em_app (x : Str) : Str.empty ++ x = x := TL.ext_tl (by rw [TL.tl_append]; rfl)
theorem text_ok {p : Q} (h : SmQ p) : G_ratio_text [ratD p] = .ok (.str (ratT p)) := by
  have a := zS_len h.1
  have b := zS_len h.2
  by_cases c : p.2 = 1
  · have e : ratT p = zS p.1 := if_pos c
    rw [e]
    exact ev_run rfl (ev_seqr (ev_ift (ev_t2 (ev_b2 (x := ratD p) (y := .int 1) rfl rfl (ix_t 1 rfl rfl)) rfl (by rw [i1_eq, c]; rfl)) (ev_ret (ev_b1 (ev_b2 (x := ratD p) (y := .int 0) rfl rfl (ix_t 0 rfl rfl)) (strD_sm h.1)))))
  · have e : ratT p = zS p.1 ++ slS ++ zS p.2 := if_neg c
    rw [e]
    refine ev_run rfl (ev_seq (ev_iff (ev_t2 (ev_b2 (x := ratD p) (y := .int 1) rfl rfl (ix_t 1 rfl rfl)) rfl (by rw [i1_eq, beq_eq_false_iff_ne.mpr c])) rfl) (ev_ret ?_))
    unfold cJ
    have q : cJc (cB1 fmtD (cB2 ixD (cVarC 0) (cK (.int 0)))) (cJc (cK (.str (Str.ofString "/"))) (cJc (cB1 fmtD (cB2 ixD (cVarC 0) (cK (.int 1)))) cJ0)) Str.empty (startR 1 [ratD p]) = .ok (Str.empty ++ zS p.1 ++ slS ++ zS p.2) := by
      refine cj_ok (ev_b1 (ev_b2 (x := ratD p) (y := .int 0) rfl rfl (ix_t 0 rfl rfl)) (fmtD_sm h.1)) (by rw [em_app]; exact small (by omega)) (cj_ok (y := slS) rfl (by rw [em_app, Str.length_append, len_sl]; exact small (by omega)) (cj_ok (ev_b1 (ev_b2 (x := ratD p) (y := .int 1) rfl rfl (ix_t 1 rfl rfl)) (fmtD_sm h.2)) (by rw [em_app, Str.length_append, Str.length_append, len_sl]; exact small (by omega)) rfl))
    rw [q, em_app]
    rfl
/-! ### is_ratio -/
theorem abs_nat (i : Int) : absD (.int i) = .ok (.int (i.natAbs : Nat)) := by
  show R.ok (PyData.int (if i < 0 then -i else i)) = _
  congr 2
  split <;> omega
theorem while_gcd : ∀ (n x y : Nat), y < n → whileL (cT2 neD (cVarC 1) (cK (.int 0))) (sPar 0 1 (cVar 1) (cB2 modD (cVarC 0) (cVarC 1))) n [.sh (.int (x : Nat)), .sh (.int (y : Nat))] = .nx [.sh (.int (Nat.gcd x y : Nat)), .sh (.int 0)]
  | 0, _, _, h => absurd h (Nat.not_lt_zero _)
  | n + 1, x, y, h => by
    unfold whileL
    have ne : cT2 neD (cVarC 1) (cK (.int 0)) [.sh (.int (x : Nat)), .sh (.int (y : Nat))] = .ok (!((y : Int) == 0)) := by
      refine ev_t2 (x := .int (y : Nat)) (y := .int 0) rfl rfl ?_
      show (if SeqAt.shaped (.int (y : Nat)) && SeqAt.shaped (.int 0) then R.ok (!PyData.eqv (.int (y : Nat)) (.int 0)) else .no) = _
      have h1 : ∀ n : Int, SeqAt.shaped (.int n) = true := fun n => rfl
      rw [h1, h1]
      simp [PyData.eqv]
    rw [ne]
    by_cases c : y = 0
    · subst c
      show Out.nx _ = _
      rw [Nat.gcd_zero_right]
      rfl
    · have e : (!((y : Int) == 0)) = true := by
        rw [Bool.not_eq_true', beq_eq_false_iff_ne]
        omega
      rw [e]
      show (match sPar 0 1 (cVar 1) (cB2 modD (cVarC 0) (cVarC 1)) [.sh (.int (x : Nat)), .sh (.int (y : Nat))] with
        | .nx r2 => whileL _ _ n r2
        | .ct r2 => whileL _ _ n r2
        | .bk r2 => .nx r2
        | o => o) = _
      have p : sPar 0 1 (cVar 1) (cB2 modD (cVarC 0) (cVarC 1)) [.sh (.int (x : Nat)), .sh (.int (y : Nat))] = .nx [.sh (.int (y : Nat)), .sh (.int (x % y : Nat))] := by
        unfold sPar
        have m : cB2 modD (cVarC 0) (cVarC 1) [.sh (.int (x : Nat)), .sh (.int (y : Nat))] = .ok (.int (x % y : Nat)) := ev_b2 (x := .int (x : Nat)) (y := .int (y : Nat)) rfl rfl (mod_nat x y (by omega))
        show onE (cB2 modD (cVarC 0) (cVarC 1) [.sh (.int (x : Nat)), .sh (.int (y : Nat))]) _ _ = _
        rw [m]
        rfl
      rw [p]
      have hm : x % y < y := Nat.mod_lt _ (by omega)
      refine (while_gcd n y (x % y) (by omega)).trans ?_
      rw [Nat.gcd_comm x y, Nat.gcd_rec y x, Nat.gcd_comm (x % y) y]
theorem fuel_big {n : Nat} (h : n < 10 ^ 70) : n < fuelW := by
  refine Nat.lt_trans h (Nat.lt_of_lt_of_le (m := 2 ^ 300) (by decide +kernel) ?_)
  unfold fuelW
  exact Nat.pow_le_pow_right (by decide) (by decide)
theorem common_ok {a b : Int} (h : Sm b) : G_common [.int a, .int b] = .ok (.int (Nat.gcd a.natAbs b.natAbs : Nat)) := by
  refine ev_run rfl (ev_seq (ev_set (ev_b1 (x := .int a) rfl (abs_nat a))) (ev_seq (ev_set (ev_b1 (x := .int b) rfl (abs_nat b))) (ev_seq (while_gcd fuelW a.natAbs b.natAbs (fuel_big h)) (ev_ret rfl))))
def isR (p : Q) : Bool := decide (1 ≤ p.2) && Nat.gcd p.1.natAbs p.2.natAbs == 1
theorem isr_ok {p : Q} (h : SmQ p) : G_is_ratio [ratD p] = .ok (.bool (isR p)) := by
  refine ev_run rfl (ev_ret (ev_andV (ev_bl (ev_t2 (ev_b1 (x := ratD p) (y := .int 2) rfl rfl) rfl rfl)) ?_))
  have g : cBl (cT2 geD (cB2 ixD (cVarC 0) (cK (.int 1))) (cK (.int 1))) (startR 1 [ratD p]) = .ok (.bool (decide (1 ≤ p.2))) := ev_bl (ev_t2 (ev_b2 (x := ratD p) (y := .int 1) rfl rfl (ix_t 1 rfl rfl)) rfl rfl)
  unfold isR
  by_cases c : 1 ≤ p.2
  · rw [decide_eq_true c] at g ⊢
    rw [Bool.true_and]
    refine ev_andV g (ev_bl (ev_t2 (ev_call (ev_cons (ev_b2 (x := ratD p) (y := .int 0) rfl rfl (ix_t 0 rfl rfl)) (ev_cons (ev_b2 (x := ratD p) (y := .int 1) rfl rfl (ix_t 1 rfl rfl)) rfl)) (common_ok h.2)) rfl (eq_int ?_)))
    rw [Bool.eq_iff_iff, beq_iff_eq, beq_iff_eq]
    omega
  · rw [decide_eq_false c] at g ⊢
    rw [Bool.false_and]
    exact ev_andVf g
end K95


set_option Elab.async false
set_option linter.all false
set_option maxRecDepth 100000
set_option maxHeartbeats 4000000
/-! What reads a ratio, a number, the rows. -/
namespace K95
open PySem PySem.Spec PyProof.Rows L2 Z
/-- a def's body ends with an error of kind k or with a datum that S tells -/
def EndsR (k : Nat) (S : D → Prop) (o : Out) : Prop := (∃ r, o = .xx k r) ∨ ∃ d r, o = .rt d r ∧ S d
section
variable {k n m : Nat} {S : D → Prop} {F G : SF} {r r' : Rho} {ds : List D} {d : D} {o : Out} {t : Rho → R Bool}
theorem en_seq (h1 : F r = .nx r') (h2 : EndsR k S (G r')) : EndsR k S (sSeq F G r) := by unfold sSeq; rw [h1]; exact h2
theorem en_x (h1 : F r = .xx k r') : EndsR k S (sSeq F G r) := by unfold sSeq; rw [h1]; exact .inl ⟨r', rfl⟩
theorem en_rt (h1 : F r = .rt d r') (h : S d) : EndsR k S (F r) := .inr ⟨d, r', h1, h⟩
theorem run_ends (hl : ds.length = m) (h : EndsR k S (F (startR n ds))) : runF n m F ds = .ex k ∨ ∃ d, runF n m F ds = .ok d ∧ S d := by
  unfold runF runS
  rw [if_pos hl]
  rcases h with ⟨r, h⟩ | ⟨d, r, h, hs⟩
  · rw [h]; exact .inl rfl
  · rw [h]; exact .inr ⟨d, rfl, hs⟩
end
theorem gt_d (a b : Int) : gtD (.int a) (.int b) = .ok (decide (b < a)) := rfl
theorem lt_d (a b : Int) : ltD (.int a) (.int b) = .ok (decide (a < b)) := rfl
theorem le_d (a b : Int) : leD (.int a) (.int b) = .ok (decide (a ≤ b)) := rfl
theorem strOk_cut {w : Str} {lo hi : Option Int} (h : PyData.strOk w = true) : PyData.strOk (cutS w lo hi) = true := by
  refine strOk_tl.mpr fun c m => ?_
  rw [tl_cut] at m
  exact strOk_tl.mp h c (List.mem_of_mem_drop (List.mem_of_mem_take m))
theorem len_cut {w : Str} {lo hi : Option Int} : (cutS w lo hi).length ≤ w.length := by
  rw [TL.len_tl, tl_cut, TL.len_tl w, List.length_take, List.length_drop]
  omega
/-! ### digits -/
abbrev dgS : Str := Str.ofString "0123456789"
theorem tl_dg : TL.tl dgS = [48, 49, 50, 51, 52, 53, 54, 55, 56, 57] := by decide +kernel
theorem bools_map {α : Type} (p : α → Bool) : ∀ xs : List α, bools (xs.map fun x => .bool (p x)) = .ok (xs.map p)
  | [] => rfl
  | x :: xs => by
    show (bools (xs.map fun x => .bool (p x))).bind _ = _
    rw [bools_map p xs]
    rfl
theorem all_map {α : Type} (p : α → Bool) (xs : List α) : allD (.list (xs.map fun x => .bool (p x))) = .ok (.bool (xs.all p)) := by
  show (bools _).bind _ = _
  rw [bools_map]
  show R.ok (PyData.bool ((xs.map p).all id)) = _
  rw [List.all_map]
  rfl
def dgA (a : Str) : Bool := (TL.tl a).all fun c => decide (c ∈ TL.tl dgS)
theorem dgA_digits {a : Str} (h : dgA a = true) : NumText.AllDigits (TL.tl a) := fun c m => by
  have := List.all_eq_true.mp h c m
  rw [decide_eq_true_eq, tl_dg] at this
  simp at this
  omega
/-- a comprehension over the signs of a text: are they digits -/
theorem signs_ok {i j n : Nat} {r : Rho} {a : Str} (hn : noOw r [j] = true) (hv : cVar i r = .ok (.str a)) (hl : a.length ≤ 60000) (hj : cVarC j ((wipeR r [j]).set j (.sh .none)) = .ok .none) :
    cB1 allD (cL (cLc [j] (cIt (cVar i)) (gNm j) cYes (cBl (cT2 inD (cVarC j) (cK (.str (Str.ofString "0123456789"))))))) r = .ok (.bool (dgA a)) := by
  have hb : j < (wipeR r [j]).length := by
    unfold cVarC at hj
    by_cases c : j < (wipeR r [j]).length
    · exact c
    · rw [List.getElem?_eq_none (by simp; omega)] at hj
      cases hj
  refine ev_b1 (ev_l (ev_lcm (xs := TL.tl a) (e := fun c => .str ⟨#[c]⟩) (gg := fun c => .bool (decide (c ∈ TL.tl dgS))) hn (ev_it hv rfl) (by rw [← TL.len_tl]; exact small (by omega)) fun c m => ?_)) (all_map _ _)
  refine ⟨_, rfl, rfl, ev_bl (ev_t2 (x := .str ⟨#[c]⟩) (y := .str dgS) ?_ rfl rfl)⟩
  unfold cVarC
  rw [List.getElem?_set_self hb]
def isDig (a : Str) : Bool := (a != emS) && dgA a
theorem isdig_ok {a : Str} (h : PyData.strOk a = true) (hl : a.length ≤ 60000) : G_is_digits [.str a] = .ok (.bool (isDig a)) := by
  refine ev_run rfl (ev_ret ?_)
  have e : cBl (cT2 neD (cVarC 0) (cK (.str (Str.ofString "")))) (startR 2 [.str a]) = .ok (.bool (a != emS)) := ev_bl (ev_t2 (x := .str a) (y := .str emS) rfl rfl (neD_str h (by decide +kernel)))
  have g := signs_ok (i := 0) (j := 1) (n := 2) (r := startR 2 [.str a]) (a := a) rfl rfl hl rfl
  unfold isDig
  cases c : (a != emS) with
  | true => rw [c] at e; exact ev_andV e g
  | false => rw [c] at e; exact ev_andVf e
theorem val_lt : ∀ {cs : List Nat}, NumText.AllDigits cs → NumText.digitsVal cs < 10 ^ cs.length := by
  intro cs
  suffices h : ∀ (cs : List Nat) (a : Nat), NumText.AllDigits cs → cs.foldl (fun acc c => acc * 10 + (c - 48)) a < (a + 1) * 10 ^ cs.length by
    intro hc
    have := h cs 0 hc
    rw [Nat.zero_add, Nat.one_mul] at this
    exact this
  intro cs
  induction cs with
  | nil => intro a _; simp
  | cons c cs ih =>
    intro a hc
    have h1 := hc c List.mem_cons_self
    have := ih (a * 10 + (c - 48)) fun d m => hc d (List.mem_cons_of_mem _ m)
    refine Nat.lt_of_lt_of_le this ?_
    rw [List.length_cons, Nat.pow_succ, Nat.mul_comm (10 ^ cs.length) 10, ← Nat.mul_assoc]
    exact Nat.mul_le_mul_right _ (by omega)
theorem int_dig {a : Str} (h : dgA a = true) (h0 : TL.tl a ≠ []) (hl : a.length ≤ 60)   : Z.intD (.str a) = .ok (.int (NumText.digitsVal (TL.tl a) : Nat)) ∧ NumText.digitsVal (TL.tl a) < 10 ^ 60 := by
  have hd := dgA_digits h
  constructor
  · show intS a = _
    unfold intS
    rw [PySem.intText_digits (x := a) hd h0 (by omega)]
    exact if_pos (by omega)
  · refine Nat.lt_of_lt_of_le (val_lt hd) ?_
    rw [← TL.len_tl]
    exact Nat.pow_le_pow_right (by decide) hl
theorem dig_of {a : Str} (h : isDig a = true) : dgA a = true ∧ TL.tl a ≠ [] := by
  unfold isDig at h
  rw [Bool.and_eq_true] at h
  refine ⟨h.2, fun e => ?_⟩
  have := h.1
  rw [bne_iff_ne] at this
  exact this (TL.ext_tl (by rw [e, tl_em]))
/-! ### number_of -/
def numO (w : Str) : Option Nat := if 1 ≤ w.length ∧ w.length ≤ 3 ∧ dgA w = true ∧ numS (NumText.digitsVal (TL.tl w)) = w then some (NumText.digitsVal (TL.tl w)) else none
def natD (n : Nat) : D := .int (n : Nat)
theorem num_ok {w : Str} (h : PyData.strOk w = true) (hl : w.length ≤ 60000) : G_number_of [.str w] = oR 2 natD (numO w) := by
  have hlen : cB1 lenD (cVarC 0) (startR 2 [.str w]) = .ok (.int w.length) := ev_b1 (x := .str w) rfl (lenD_str (small (by omega)))
  have g := signs_ok (i := 0) (j := 1) (n := 2) (r := startR 2 [.str w]) (a := w) rfl rfl hl rfl
  unfold numO
  by_cases c1 : 1 ≤ w.length
  · by_cases c2 : w.length ≤ 3
    · have hch : cNot (cCh leD leD (cK (.int 1)) (cB1 lenD (cVarC 0)) (cK (.int 3))) (startR 2 [.str w]) = .ok false := ev_not (b := true) (ev_ch rfl hlen (by rw [le_d, decide_eq_true]; omega) rfl (by rw [le_d, decide_eq_true]; omega))
      by_cases c3 : dgA w = true
      · rw [c3] at g
        have h0 : TL.tl w ≠ [] := fun e => by rw [TL.len_tl, e] at c1; cases c1
        have hi := int_dig c3 h0 (by omega)
        have hv : NumText.digitsVal (TL.tl w) < 1000 := by
          have := val_lt (dgA_digits c3)
          rw [← TL.len_tl] at this
          exact Nat.lt_of_lt_of_le this (Nat.pow_le_pow_right (n := 10) (by decide) c2)
        have hs : cB1 strD (cB1 intD (cVarC 0)) (startR 2 [.str w]) = .ok (.str (numS (NumText.digitsVal (TL.tl w)))) := ev_b1 (ev_b1 (x := .str w) rfl hi.1) (strD_num (by omega))
        have hk : PyData.strOk (numS (NumText.digitsVal (TL.tl w))) = true := strOk_tl.mpr fun c m => by
          rw [TL.tl_num] at m
          have := TL.numL_digits _ c m
          omega
        have ht := ev_t2 (r := startR 2 [.str w]) (f := cB1 strD (cB1 intD (cVarC 0))) (g := cVarC 0) (x := .str (numS (NumText.digitsVal (TL.tl w)))) (y := .str w) hs rfl (neD_str hk h)
        by_cases c4 : numS (NumText.digitsVal (TL.tl w)) = w
        · rw [if_pos ⟨c1, c2, c3, c4⟩]
          rw [c4, bne_self_eq_false] at ht
          exact ev_run rfl (ev_seq (ev_iff (ev_orf hch (ev_orf (ev_not (b := true) (ev_t1 g rfl)) ht)) rfl) (ev_ret (ev_b1 (x := .str w) rfl hi.1)))
        · rw [if_neg fun q => c4 q.2.2.2]
          rw [bne_iff_ne.mpr c4] at ht
          exact ex_run rfl (ex_seq (ev_ift (ev_orf hch (ev_orf (ev_not (b := true) (ev_t1 g rfl)) ht)) rfl))
      · rw [Bool.not_eq_true] at c3
        rw [c3] at g
        rw [if_neg fun q => by rw [c3] at q; exact absurd q.2.2.1 Bool.false_ne_true]
        exact ex_run rfl (ex_seq (ev_ift (ev_orf hch (ev_ort (ev_not (b := false) (ev_t1 g rfl)))) rfl))
    · rw [if_neg fun q => c2 q.2.1]
      exact ex_run rfl (ex_seq (ev_ift (ev_ort (ev_not (b := false) (ev_ch rfl hlen (by rw [le_d, decide_eq_true]; omega) rfl (by rw [le_d, decide_eq_false]; omega)))) rfl))
  · rw [if_neg fun q => c1 q.1]
    exact ex_run rfl (ex_seq (ev_ift (ev_ort (ev_not (b := false) (ev_chf rfl hlen (by rw [le_d, decide_eq_false]; omega)))) rfl))
theorem numO_inv {w : Str} {n : Nat} (h : numO w = some n) : numS n = w ∧ n < 1000 := by
  unfold numO at h
  split at h
  · rename_i q
    cases h
    refine ⟨q.2.2.2, ?_⟩
    have := val_lt (dgA_digits q.2.2.1)
    rw [← TL.len_tl] at this
    exact Nat.lt_of_lt_of_le this (Nat.pow_le_pow_right (n := 10) (by decide) q.2.1)
  · cases h
/-! ### read_ratio -/
theorem sub_ok {x : Str} {i j : Nat} (h : Good x) : Good (PySem.Builtin.Str.strSub x i j) ∧ (PySem.Builtin.Str.strSub x i j).length ≤ x.length := by
  have e := TL.tl_strSub x i j
  have hl : (PySem.Builtin.Str.strSub x i j).length ≤ x.length := by
    rw [TL.len_tl, e, TL.len_tl x, List.length_take, List.length_drop]; omega
  refine ⟨⟨strOk_tl.mpr fun c m => ?_, Nat.le_trans hl h.2⟩, hl⟩
  rw [e] at m
  exact strOk_tl.mp h.1 c (List.mem_of_mem_drop (List.mem_of_mem_take m))
theorem partn {x : Str} (h : Good x) (hl : x.length ≤ 60) : ∃ a s b, Txt.partition x slS = (a, s, b) ∧ (Good a ∧ a.length ≤ 60) ∧ Good s ∧ (Good b ∧ b.length ≤ 60) := by
  have ge : Good Str.empty := ⟨by decide +kernel, by decide +kernel⟩
  have he : Str.empty.length ≤ 60 := by decide +kernel
  rcases PyProof.Rows.partition_whole x slS with ⟨e, _⟩ | ⟨i, e, _, _⟩
  · exact ⟨_, _, _, e, ⟨h, hl⟩, ge, ge, he⟩
  · refine ⟨_, _, _, e, ⟨(sub_ok h).1, Nat.le_trans (sub_ok h).2 hl⟩, ⟨by decide +kernel, by decide +kernel⟩, (sub_ok h).1, Nat.le_trans (sub_ok h).2 hl⟩
abbrev R6 (w bd : Str) (p a s b : Sl) : Rho := [.sh (.str w), .sh (.str bd), p, a, s, b]
theorem read_ok {w : Str} (hk : PyData.strOk w = true) (hl : w.length ≤ 60000) : G_read_ratio [.str w] = .ex 2 ∨ ∃ d, G_read_ratio [.str w] = .ok d ∧ ∃ p, d = ratD p ∧ ratT p = w ∧ SmQ p := by
  refine run_ends rfl ?_
  have hlen : cB1 lenD (cVarC 0) (startR 6 [.str w]) = .ok (.int w.length) := ev_b1 (x := .str w) rfl (lenD_str (small (by omega)))
  by_cases c : 60 < w.length
  · exact en_x (ev_ift (ev_t2 hlen rfl (by rw [gt_d, decide_eq_true]; omega)) rfl)
  refine en_seq (ev_iff (ev_t2 hlen rfl (by rw [gt_d, decide_eq_false]; omega)) rfl) ?_
  have hv : ∀ {r : Rho}, cVarC 0 r = .ok (.str w) → cT2 eqD (cSl (cVarC 0) cO0 (cO (cK (.int 1)))) (cK (.str (Str.ofString "-"))) r = .ok (cutS w none (some 1) == Str.ofString "-") := fun h =>
    ev_t2 (ev_sl h rfl rfl (slD_str (small (by omega)))) rfl (eqD_str (strOk_cut hk) (by decide +kernel))
  obtain ⟨bd, hset, gbd, lbd⟩ : ∃ bd, sSet 1 (cIf (cT2 eqD (cSl (cVarC 0) cO0 (cO (cK (.int 1)))) (cK (.str (Str.ofString "-")))) (cSl (cVarC 0) (cO (cK (.int 1))) cO0) (cVar 0)) (startR 6 [.str w]) = .nx (R6 w bd .un .un .un .un) ∧ Good bd ∧ bd.length ≤ 60 := by
    have h0 := hv (r := startR 6 [.str w]) rfl
    cases cb : (cutS w none (some 1) == Str.ofString "-") with
    | true =>
      rw [cb] at h0
      exact ⟨cutS w (some 1) none, ev_set (ev_cift h0 (ev_sl (x := .str w) rfl rfl rfl (slD_str (small (by omega))))), ⟨strOk_cut hk, Nat.le_trans len_cut hl⟩, Nat.le_trans len_cut (by omega)⟩
    | false =>
      rw [cb] at h0
      exact ⟨w, ev_set (ev_ciff h0 rfl), ⟨hk, hl⟩, by omega⟩
  refine en_seq hset ?_
  obtain ⟨a, s, b, ep, ⟨ga, la⟩, gs, gb, lb⟩ := partn gbd lbd
  have hp : partD bd (.str slS) = .ok (.tuple [.str a, .str s, .str b]) := by
    show (if (slS.length == 0) = false ∧ bd.length ≤ sizeLine then R.ok (PyData.tuple [.str (Txt.partition bd slS).1, .str (Txt.partition bd slS).2.1, .str (Txt.partition bd slS).2.2]) else .no) = _
    rw [if_pos ⟨by decide +kernel, small (by omega)⟩, ep]
  refine en_seq (r' := R6 w bd .un (.sh (.str a)) (.sh (.str s)) (.sh (.str b))) (ev_asg (ev_m1 (a := bd) rfl rfl hp) rfl) ?_
  have t1 : cNot (cT1 truD (cCall G_is_digits (cCons (cVar 3) cNil))) (R6 w bd .un (.sh (.str a)) (.sh (.str s)) (.sh (.str b))) = .ok (!isDig a) := ev_not (ev_t1 (ev_call (ev_cons (x := .str a) rfl rfl) (isdig_ok ga.1 ga.2)) rfl)
  have t2 : cT2 neD (cVarC 4) (cK (.str (Str.ofString ""))) (R6 w bd .un (.sh (.str a)) (.sh (.str s)) (.sh (.str b))) = .ok (s != emS) := ev_t2 (x := .str s) (y := .str emS) rfl rfl (neD_str gs.1 (by decide +kernel))
  have t3 : cNot (cT1 truD (cCall G_is_digits (cCons (cVar 5) cNil))) (R6 w bd .un (.sh (.str a)) (.sh (.str s)) (.sh (.str b))) = .ok (!isDig b) := ev_not (ev_t1 (ev_call (ev_cons (x := .str b) rfl rfl) (isdig_ok gb.1 gb.2)) rfl)
  cases ca : isDig a with
  | false =>
    rw [ca] at t1
    exact en_x (ev_ift (ev_ort t1) rfl)
  | true =>
  rw [ca] at t1
  obtain ⟨da, na⟩ := dig_of ca
  have ia := int_dig da na la
  -- the second number
  have two : ∃ v : Int, Sm v ∧ (sIf (cOr (cNot (cT1 truD (cCall G_is_digits (cCons (cVar 3) cNil)))) (cAnd (cT2 neD (cVarC 4) (cK (.str (Str.ofString "")))) (cNot (cT1 truD (cCall G_is_digits (cCons (cVar 5) cNil)))))) (sRaise 2) sNil (R6 w bd .un (.sh (.str a)) (.sh (.str s)) (.sh (.str b))) = .xx 2 (R6 w bd .un (.sh (.str a)) (.sh (.str s)) (.sh (.str b))) ∨
      (sIf (cOr (cNot (cT1 truD (cCall G_is_digits (cCons (cVar 3) cNil)))) (cAnd (cT2 neD (cVarC 4) (cK (.str (Str.ofString "")))) (cNot (cT1 truD (cCall G_is_digits (cCons (cVar 5) cNil)))))) (sRaise 2) sNil (R6 w bd .un (.sh (.str a)) (.sh (.str s)) (.sh (.str b))) = .nx (R6 w bd .un (.sh (.str a)) (.sh (.str s)) (.sh (.str b))) ∧
        cIf (cT2 eqD (cVarC 4) (cK (.str (Str.ofString "")))) (cK (.int 1)) (cB1 intD (cVarC 5)) (R6 w bd .un (.sh (.str a)) (.sh (.str s)) (.sh (.str b))) = .ok (.int v))) := by
    have t4 : cT2 eqD (cVarC 4) (cK (.str (Str.ofString ""))) (R6 w bd .un (.sh (.str a)) (.sh (.str s)) (.sh (.str b))) = .ok (s == emS) := ev_t2 (x := .str s) (y := .str emS) rfl rfl (eqD_str gs.1 (by decide +kernel))
    by_cases cs : s = emS
    · rw [cs] at t2 t4 ⊢
      rw [bne_self_eq_false] at t2
      rw [beq_self_eq_true] at t4
      exact ⟨1, by unfold Sm; decide +kernel, .inr ⟨ev_iff (ev_orf t1 (ev_andf t2)) rfl, ev_cift t4 rfl⟩⟩
    · rw [bne_iff_ne.mpr cs] at t2
      rw [beq_eq_false_iff_ne.mpr cs] at t4
      cases cb : isDig b with
      | false =>
        rw [cb] at t3
        exact ⟨1, by unfold Sm; decide +kernel, .inl (ev_ift (ev_orf t1 (ev_andt t2 t3)) rfl)⟩
      | true =>
        rw [cb] at t3
        obtain ⟨db, nb⟩ := dig_of cb
        have ib := int_dig db nb lb
        refine ⟨_, ?_, .inr ⟨ev_iff (ev_orf t1 (ev_andt t2 t3)) rfl, ev_ciff t4 (ev_b1 (x := .str b) rfl ib.1)⟩⟩
        unfold Sm
        have := ib.2
        omega
  obtain ⟨v, sv, hx | ⟨hn, h5⟩⟩ := two
  · exact en_x hx
  refine en_seq hn ?_
  have sa : Sm (NumText.digitsVal (TL.tl a) : Nat) := by unfold Sm; have := ia.2; omega
  refine en_seq (r' := R6 w bd (.sh (ratD (((NumText.digitsVal (TL.tl a) : Nat) : Int), v))) (.sh (.str a)) (.sh (.str s)) (.sh (.str b))) (ev_set (ev_tup (ev_cons (ev_b1 (x := .str a) rfl ia.1) (ev_cons h5 rfl)) (small (Nat.le_of_ble_eq_true rfl)))) ?_
  obtain ⟨u, su, hu⟩ : ∃ u : Int, Sm u ∧ sIf (cT2 eqD (cSl (cVarC 0) cO0 (cO (cK (.int 1)))) (cK (.str (Str.ofString "-")))) (sSet 2 (cCall G_negated (cCons (cVar 2) cNil))) sNil (R6 w bd (.sh (ratD (((NumText.digitsVal (TL.tl a) : Nat) : Int), v))) (.sh (.str a)) (.sh (.str s)) (.sh (.str b))) = .nx (R6 w bd (.sh (ratD (u, v))) (.sh (.str a)) (.sh (.str s)) (.sh (.str b))) := by
    have h0 := hv (r := R6 w bd (.sh (ratD (((NumText.digitsVal (TL.tl a) : Nat) : Int), v))) (.sh (.str a)) (.sh (.str s)) (.sh (.str b))) rfl
    cases cb : (cutS w none (some 1) == Str.ofString "-") with
    | true =>
      rw [cb] at h0
      refine ⟨-((NumText.digitsVal (TL.tl a) : Nat) : Int), by unfold Sm at sa ⊢; omega, ev_ift h0 (ev_set (ev_call (ev_cons (x := ratD _) rfl rfl) (ev_run rfl (ev_ret (ev_tup (ev_cons (ev_b1 (ev_b2 (x := ratD _) (y := .int 0) rfl rfl (ix_t 0 rfl rfl)) rfl) (ev_cons (ev_b2 (x := ratD _) (y := .int 1) rfl rfl (ix_t 1 rfl rfl)) rfl)) (small (Nat.le_of_ble_eq_true rfl)))))))⟩
    | false =>
      rw [cb] at h0
      exact ⟨_, sa, ev_iff h0 rfl⟩
  refine en_seq hu ?_
  have sq : SmQ (u, v) := ⟨su, sv⟩
  have u1 : cNot (cT1 truD (cCall G_is_ratio (cCons (cVar 2) cNil))) (R6 w bd (.sh (ratD (u, v))) (.sh (.str a)) (.sh (.str s)) (.sh (.str b))) = .ok (!isR (u, v)) := ev_not (ev_t1 (ev_call (ev_cons (x := ratD (u, v)) rfl rfl) (isr_ok sq)) rfl)
  have kT : PyData.strOk (ratT (u, v)) = true := ratT_ok (u, v)
  have u2 : cT2 neD (cCall G_ratio_text (cCons (cVar 2) cNil)) (cVarC 0) (R6 w bd (.sh (ratD (u, v))) (.sh (.str a)) (.sh (.str s)) (.sh (.str b))) = .ok (ratT (u, v) != w) := ev_t2 (ev_call (ev_cons (x := ratD (u, v)) rfl rfl) (text_ok sq)) (y := .str w) rfl (neD_str kT hk)
  cases c1 : isR (u, v) with
  | false =>
    rw [c1] at u1
    exact en_x (ev_ift (ev_ort u1) rfl)
  | true =>
  rw [c1] at u1
  by_cases c2 : ratT (u, v) = w
  · rw [c2, bne_self_eq_false] at u2
    exact en_seq (ev_iff (ev_orf u1 u2) rfl) (en_rt (ev_ret rfl) ⟨(u, v), rfl, c2, sq⟩)
  · rw [bne_iff_ne.mpr c2] at u2
    exact en_x (ev_ift (ev_orf u1 u2) rfl)
def rdR (w : Str) : Option Q := match G_read_ratio [.str w] with
  | .ok (.tuple [.int a, .int b]) => some (a, b)
  | _ => none
theorem rr {w : Str} (h : Good w) : G_read_ratio [.str w] = oR 2 ratD (rdR w) ∧ ∀ p, rdR w = some p → ratT p = w ∧ SmQ p := by
  unfold rdR
  rcases read_ok h.1 h.2 with e | ⟨d, e, p, rfl, h1, h2⟩
  · rw [e]; exact ⟨rfl, fun p q => nomatch q⟩
  · rw [e]
    exact ⟨rfl, fun q hq => by cases hq; exact ⟨h1, h2⟩⟩
end K95


set_option Elab.async false
set_option linter.all false
set_option maxRecDepth 100000
set_option maxHeartbeats 4000000
/-! Rows, the front row, the checks. -/
namespace K95
open PySem PySem.Spec PyProof.Rows L2 Z
def wsD (ws : List Str) : D := .list (ws.map .str)
def rowsD (rows : List (List Str)) : D := .list (rows.map wsD)
theorem good_em : Good emS := ⟨by decide +kernel, by decide +kernel⟩
theorem cut_init (ds : List D) (d : D) : Z.cutD (ds ++ [d]) none (some (-1)) = ds := by
  unfold Z.cutD
  rw [HT.sIx_none]
  have e : HT.sIx (ds ++ [d]).length (ds ++ [d]).length (some (-1)) = ds.length := by
    show (if (-1 : Int) < 0 then ((-1 : Int) + ((ds ++ [d]).length : Int)).toNat else min (-1 : Int).toNat (ds ++ [d]).length) = _
    rw [if_pos (by decide), List.length_append]
    simp only [List.length_cons, List.length_nil]
    omega
  rw [e, List.drop_zero, Nat.sub_zero, List.take_left]
theorem splitD_good {x y : Str} (hy : y.length = 1) (h : Good x) : splitD x (.str y) = .ok ((Txt.split x y).map .str) := by
  show (if (y.length == 0) = false ∧ x.length + 2 ≤ sizeLine then R.ok ((Txt.split x y).map PyData.str) else .no) = _
  exact if_pos ⟨by rw [hy]; rfl, small (by have := h.2; omega)⟩
theorem rows_ok {x : Str} (hk : PyData.strOk x = true) (hl : x.length ≤ 1000000) : G_rows_of [.str x] = oR 2 rowsD (rowsO x) := by
  have hlen : cB1 lenD (cVarC 0) (startR 3 [.str x]) = .ok (.int x.length) := ev_b1 (x := .str x) rfl (lenD_str (small hl))
  unfold rowsO
  by_cases c : 60000 < x.length
  · rw [if_pos c]
    exact ex_run rfl (ex_seq (ev_ift (ev_t2 hlen rfl (by rw [gt_d, decide_eq_true]; omega)) rfl))
  rw [if_neg c]
  have g : Good x := ⟨hk, by omega⟩
  obtain ⟨g1, g2, g3⟩ := good_part tl_nl g
  have e : Txt.split x nlS = (Txt.split x nlS).dropLast ++ [(Txt.split x nlS).getLast g3] := (List.dropLast_concat_getLast g3).symm
  have gl : Good ((Txt.split x nlS).getLast g3) := g1 _ (List.getLast_mem g3)
  have gi : ∀ l ∈ (Txt.split x nlS).dropLast, Good l := fun l m => g1 l (List.dropLast_subset _ m)
  have hlen2 : (Txt.split x nlS).dropLast.length ≤ 60001 := by rw [List.length_dropLast]; omega
  rw [List.getLast?_eq_some_getLast g3]
  revert e gl gi hlen2
  generalize (Txt.split x nlS).getLast g3 = l0
  generalize (Txt.split x nlS).dropLast = init
  intro e gl gi hlen2
  have em : (Txt.split x nlS).map PyData.str = init.map PyData.str ++ [.str l0] := by rw [e, List.map_append]; rfl
  have s1 : sSeq (sIf (cT2 gtD (cB1 lenD (cVarC 0)) (cK (.int 60000))) (sRaise 2) sNil) = sSeq (sIf (cT2 gtD (cB1 lenD (cVarC 0)) (cK (.int 60000))) (sRaise 2) sNil) := rfl
  have st1 : sIf (cT2 gtD (cB1 lenD (cVarC 0)) (cK (.int 60000))) (sRaise 2) sNil (startR 3 [.str x]) = .nx (startR 3 [.str x]) := ev_iff (ev_t2 hlen rfl (by rw [gt_d, decide_eq_false]; omega)) rfl
  have st2 : sSet 1 (cL (cM1F splitD (cVarC 0) (cK (.str (Str.ofString "\n"))))) (startR 3 [.str x]) = .nx [.sh (.str x), .sh (.list (init.map PyData.str ++ [.str l0])), .un] := by
    rw [← em]
    exact ev_set (ev_l (ev_m1F (a := x) rfl rfl (splitD_good len_nl g)))
  have st3 : cT2 neD (cB2 ixD (cVarC 1) (cB1 negD (cK (.int 1)))) (cK (.str (Str.ofString ""))) [.sh (.str x), .sh (.list (init.map PyData.str ++ [.str l0])), .un] = .ok (l0 != emS) := by
    refine ev_t2 (x := .str l0) (y := .str emS) (ev_b2 (x := .list (init.map PyData.str ++ [.str l0])) (y := .int (-1)) rfl rfl ?_) rfl (neD_str gl.1 (by decide +kernel))
    show atD (init.map PyData.str ++ [.str l0]) (-1) = _
    unfold atD
    rw [atI_last]
  by_cases c2 : l0 = emS
  · rw [c2, if_pos rfl]
    rw [c2, bne_self_eq_false] at st3
    rw [c2] at st2
    refine ev_run rfl (ev_seq st1 (ev_seq st2 (ev_seq (ev_iff st3 rfl) (ev_ret (ev_l ?_)))))
    rw [List.map_map]
    refine ev_lcm (xs := init) (e := .str) rfl (ev_it (x := .list (init.map .str)) (ev_sl (x := .list (init.map PyData.str ++ [.str emS])) (lo := none) (hi := some (-1)) rfl rfl rfl ?_) rfl) (small (by omega)) fun l m => ⟨_, rfl, rfl, ev_l (ev_m1F (a := l) rfl rfl (splitD_good len_sp (gi l m)))⟩
    show R.ok (PyData.list (Z.cutD _ none (some (-1)))) = _
    rw [cut_init]
  · rw [if_neg fun q => c2 (by injection q)]
    rw [bne_iff_ne.mpr c2] at st3
    exact ex_run rfl ((ev_seq st1 (ev_seq st2 (ex_seq (ev_ift st3 rfl)))))
theorem shp {d : D} (h : Smk 40 d) : SeqAt.shaped d = true := by
  unfold SeqAt.shaped
  rw [h.1, decide_eq_true (Nat.le_trans h.2 (by decide))]
  rfl
/-! ### the front row -/
def frontO (rows : List (List Str)) (word : Str) (many : Nat) : Option (List Str) := match rows with
  | (w :: us) :: _ => if w = word ∧ us.length + 1 = many then some us else none
  | _ => none
def strsD (ws : List Str) : D := .list (ws.map .str)
theorem front_ok {rows : List (List Str)} {word : Str} {many : Nat} (hr : ∀ ws ∈ rows, Row ws) (hw : PyData.strOk word = true) : G_front [rowsD rows, .str word, .int (many : Nat)] = oR 2 strsD (frontO rows word many) := by
  cases rows with
  | nil => exact ex_run rfl (ex_seq (ev_ift (ev_ort (ev_t2 (ev_b1 (x := rowsD []) rfl rfl) rfl rfl)) rfl))
  | cons ws rest =>
    obtain ⟨h1, h2, h3⟩ := hr ws List.mem_cons_self
    cases ws with
    | nil => exact absurd rfl h1
    | cons w us =>
      have t0 : cT2 eqD (cB1 lenD (cVarC 0)) (cK (.int 0)) (startR 3 [rowsD ((w :: us) :: rest), .str word, .int (many : Nat)]) = .ok false := by
        refine ev_t2 (x := .int ((rest.length + 1 : Nat) : Int)) (y := .int 0) (ev_b1 (x := rowsD ((w :: us) :: rest)) rfl ?_) rfl (eq_int ?_)
        · show R.ok (PyData.int ((((w :: us) :: rest).map wsD).length : Nat)) = _
          rw [List.length_map]; rfl
        · exact (beq_eq_false_iff_ne.mpr (by omega)).symm
      have f0 : cB2 ixD (cVarC 0) (cK (.int 0)) (startR 3 [rowsD ((w :: us) :: rest), .str word, .int (many : Nat)]) = .ok (wsD (w :: us)) := ev_b2 (x := rowsD ((w :: us) :: rest)) (y := .int 0) rfl rfl (ix_l 0 rfl rfl)
      have t1 : cT2 neD (cB2 ixD (cB2 ixD (cVarC 0) (cK (.int 0))) (cK (.int 0))) (cVarC 1) (startR 3 [rowsD ((w :: us) :: rest), .str word, .int (many : Nat)]) = .ok (w != word) := ev_t2 (ev_b2 f0 rfl (ix_l (d := .str w) 0 rfl rfl)) (y := .str word) rfl (neD_str (h3 w List.mem_cons_self).1.1 hw)
      have t2 : cT2 neD (cB1 lenD (cB2 ixD (cVarC 0) (cK (.int 0)))) (cVarC 2) (startR 3 [rowsD ((w :: us) :: rest), .str word, .int (many : Nat)]) = .ok (!decide (us.length + 1 = many)) := by
        refine ev_t2 (x := .int ((us.length + 1 : Nat) : Int)) (y := .int (many : Nat)) (ev_b1 f0 ?_) rfl ?_
        · show R.ok (PyData.int (((w :: us).map PyData.str).length : Nat)) = _
          rw [List.length_map]; rfl
        · show (if SeqAt.shaped (.int _) && SeqAt.shaped (.int _) then R.ok (!PyData.eqv (.int ((us.length + 1 : Nat) : Int)) (.int (many : Nat))) else .no) = _
          have s : ∀ n : Int, SeqAt.shaped (.int n) = true := fun n => rfl
          rw [s, s]
          have e : PyData.eqv (.int ((us.length + 1 : Nat) : Int)) (.int (many : Nat)) = decide (us.length + 1 = many) := by
            simp only [PyData.eqv]
            rw [Bool.eq_iff_iff, beq_iff_eq, decide_eq_true_eq]
            omega
          rw [e]
          rfl
      show _ = oR 2 strsD (if w = word ∧ us.length + 1 = many then some us else none)
      by_cases c1 : w = word
      · by_cases c2 : us.length + 1 = many
        · rw [if_pos ⟨c1, c2⟩]
          rw [bne_eq_false_iff_eq.mpr c1] at t1
          rw [decide_eq_true c2] at t2
          refine ev_run rfl (ev_seq (ev_iff (ev_orf t0 (ev_orf t1 t2)) rfl) (ev_ret (ev_sl f0 (lo := some 1) (hi := none) rfl rfl ?_)))
          exact cut_tail
        · rw [if_neg fun q => c2 q.2]
          rw [bne_eq_false_iff_eq.mpr c1] at t1
          rw [decide_eq_false c2] at t2
          exact ex_run rfl (ex_seq (ev_ift (ev_orf t0 (ev_orf t1 t2)) rfl))
      · rw [if_neg fun q => c1 q.1]
        rw [bne_iff_ne.mpr c1] at t1
        exact ex_run rfl (ex_seq (ev_ift (ev_orf t0 (ev_ort t1)) rfl))
/-! ### checks -/
def bR : Bool → R D
  | true => .ok .none
  | false => .ex 1
def rowD (row : List Q) : D := .tuple (row.map ratD)
abbrev Cond := List Q × Str × Q
def condD (c : Cond) : D := .tuple [rowD c.1, .str c.2.1, ratD c.2.2]
def sysD (w : Int) (cs : List Cond) : D := .tuple [.int w, .tuple (cs.map condD)]
theorem all_rat {i j : Nat} {r : Rho} {row : List Q} (hn : noOw r [j] = true) (hv : cVar i r = .ok (rowD row)) (hq : ∀ p ∈ row, SmQ p) (hl : row.length ≤ 1000000) (hj : cVarC j ((wipeR r [j]).set j (.sh .none)) = .ok .none) :
    cB1 allD (cL (cLc [j] (cIt (cVar i)) (gNm j) cYes (cCall G_is_ratio (cCons (cVar j) cNil)))) r = .ok (.bool (row.all isR)) := by
  have hb : j < (wipeR r [j]).length := by
    unfold cVarC at hj
    by_cases c : j < (wipeR r [j]).length
    · exact c
    · rw [List.getElem?_eq_none (by simp; omega)] at hj
      cases hj
  refine ev_b1 (ev_l (ev_lcm (xs := row) (e := ratD) (gg := fun p => .bool (isR p)) hn (ev_it hv rfl) (small hl) fun p m => ?_)) (all_map _ _)
  refine ⟨_, rfl, rfl, ev_call (ev_cons (x := ratD p) ?_ rfl) (isr_ok (hq p m))⟩
  unfold cVar
  rw [List.getElem?_set_self hb]
abbrev leS : Str := Str.ofString "<="
abbrev eqS : Str := Str.ofString "="
abbrev geS : Str := Str.ofString ">="
def okC (w : Int) (c : Cond) : Bool := decide ((c.1.length : Int) = w) && (c.2.1 == leS || c.2.1 == eqS) && isR c.2.2 && c.1.all isR
def CondOk (c : Cond) : Prop := c.1.length ≤ 60001 ∧ (∀ p ∈ c.1, SmQ p) ∧ PyData.strOk c.2.1 = true ∧ SmQ c.2.2
theorem mapO_unit {α : Type} (p : α → Bool) : ∀ xs : List α, mapO (fun x => if p x then some () else none) xs = if xs.all p then some (xs.map fun _ => ()) else none
  | [] => rfl
  | x :: xs => by
    unfold mapO
    rw [mapO_unit p xs]
    cases h : p x
    · simp [h]
    · cases h2 : xs.all p
      · simp [h, h2]
      · simp [h, h2]
theorem in_t2 {x a b : Str} (h : PyData.strOk x = true) (ha : PyData.strOk a = true) (hb : PyData.strOk b = true) : notInD (.str x) (.tuple [.str a, .str b]) = .ok (!(x == a || x == b)) := by
  have e : inD (.str x) (.tuple [.str a, .str b]) = .ok (x == a || x == b) := by
    show (if SeqAt.shaped (.str x) && SeqAt.shaped (.tuple [.str a, .str b]) then R.ok ([PyData.str a, .str b].any fun z => PyData.eqv z (.str x)) else .no) = _
    rw [shp (smk_str h), shp (smk_tup (k := 39) (List.forall_mem_cons.mpr ⟨smk_str ha, List.forall_mem_cons.mpr ⟨smk_str hb, by simp⟩⟩))]
    simp only [List.any_cons, List.any_nil, Bool.or_false, Bool.and_self, if_true, PyData.eqv]
    rw [Bool.beq_comm, Bool.beq_comm (a := b)]
  unfold notInD
  rw [e]
  rfl
def chkS (w : Int) (cs : List Cond) : Bool := decide (1 ≤ w ∧ w ≤ 24 ∧ cs.length ≤ 40) && cs.all (okC w)
abbrev R7 (v a b c d e f : Sl) : Rho := [v, a, b, c, d, e, f]
theorem chkS_ok {w : Int} {cs : List Cond} (hc : ∀ c ∈ cs, CondOk c) (hl : cs.length ≤ 60001) : G_check_system [sysD w cs] = bR (chkS w cs) := by
  have a1 : sAsg (gTp (gsCons (gNm 1) (gsCons (gNm 2) gsNil))) (cVar 0) (startR 7 [sysD w cs]) = .nx (R7 (.sh (sysD w cs)) (.sh (.int w)) (.sh (.tuple (cs.map condD))) .un .un .un .un) := ev_asg (d := sysD w cs) rfl rfl
  have t1 : cT2 ltD (cVarC 1) (cK (.int 1)) (R7 (.sh (sysD w cs)) (.sh (.int w)) (.sh (.tuple (cs.map condD))) .un .un .un .un) = .ok (decide (w < 1)) := ev_t2 (x := .int w) rfl rfl (lt_d _ _)
  have t2 : cT2 gtD (cVarC 1) (cK (.int 24)) (R7 (.sh (sysD w cs)) (.sh (.int w)) (.sh (.tuple (cs.map condD))) .un .un .un .un) = .ok (decide (24 < w)) := ev_t2 (x := .int w) rfl rfl (gt_d _ _)
  have t3 : cT2 gtD (cB1 lenD (cVarC 2)) (cK (.int 40)) (R7 (.sh (sysD w cs)) (.sh (.int w)) (.sh (.tuple (cs.map condD))) .un .un .un .un) = .ok (decide (40 < (cs.length : Int))) := by
    refine ev_t2 (x := .int (cs.length : Nat)) (ev_b1 (x := .tuple (cs.map condD)) rfl ?_) rfl (gt_d _ _)
    show R.ok (PyData.int ((cs.map condD).length : Nat)) = _
    rw [List.length_map]
  unfold chkS
  by_cases c1 : w < 1
  · rw [decide_eq_true c1] at t1
    rw [decide_eq_false (by omega), Bool.false_and]
    exact ex_run rfl (ev_seq a1 (ex_seq (ev_ift (ev_ort t1) rfl)))
  rw [decide_eq_false c1] at t1
  by_cases c2 : 24 < w
  · rw [decide_eq_true c2] at t2
    rw [decide_eq_false (by omega), Bool.false_and]
    exact ex_run rfl (ev_seq a1 (ex_seq (ev_ift (ev_orf t1 (ev_ort t2)) rfl)))
  rw [decide_eq_false c2] at t2
  by_cases c3 : 40 < (cs.length : Int)
  · rw [decide_eq_true c3] at t3
    rw [decide_eq_false (by omega), Bool.false_and]
    exact ex_run rfl (ev_seq a1 (ex_seq (ev_ift (ev_orf t1 (ev_orf t2 t3)) rfl)))
  rw [decide_eq_false c3] at t3
  rw [decide_eq_true (by omega), Bool.true_and]
  let I : List Unit → Rho → Prop := fun _ r => ∃ a b c d, r = R7 (.sh (sysD w cs)) (.sh (.int w)) (.sh (.tuple (cs.map condD))) a b c d ∧ noOw r [6] = true
  have loop := for_o (A := gTp (gsCons (gNm 3) (gsCons (gNm 4) (gsCons (gNm 5) gsNil)))) (F := sSeq (sIf (cOr (cT2 neD (cB1 lenD (cVarC 3)) (cVarC 1)) (cOr (cT2 notInD (cVarC 4) (cK (.tuple [(.str (Str.ofString "<=")), (.str (Str.ofString "="))]))) (cNot (cT1 truD (cCall G_is_ratio (cCons (cVar 5) cNil)))))) (sRaise 1) sNil)
    (sIf (cNot (cT1 truD (cB1 allD (cL (cLc [6] (cIt (cVar 3)) (gNm 6) cYes (cCall G_is_ratio (cCons (cVar 6) cNil))))))) (sRaise 1) sNil)) (k := 1) (N := cs.length) (e := condD) (q := fun c => if okC w c then some () else none) I cs [] (R7 (.sh (sysD w cs)) (.sh (.int w)) (.sh (.tuple (cs.map condD))) .un .un .un .un) ⟨_, _, _, _, rfl, rfl⟩ (by simp) fun c m _ r _ hI => by
      obtain ⟨a, b, d, e, rfl, hno⟩ := hI
      obtain ⟨h1, h2, h3, h4⟩ := hc c m
      have he : noOw [e] [0] = true := hno
      refine ⟨R7 (.sh (sysD w cs)) (.sh (.int w)) (.sh (.tuple (cs.map condD))) (.sh (rowD c.1)) (.sh (.str c.2.1)) (.sh (ratD c.2.2)) e, rfl, ?_⟩
      have u1 : cT2 neD (cB1 lenD (cVarC 3)) (cVarC 1) (R7 (.sh (sysD w cs)) (.sh (.int w)) (.sh (.tuple (cs.map condD))) (.sh (rowD c.1)) (.sh (.str c.2.1)) (.sh (ratD c.2.2)) e) = .ok (!decide ((c.1.length : Int) = w)) := by
        refine ev_t2 (x := .int (c.1.length : Nat)) (y := .int w) (ev_b1 (x := rowD c.1) rfl ?_) rfl ?_
        · show R.ok (PyData.int ((c.1.map ratD).length : Nat)) = _
          rw [List.length_map]
        · show (if SeqAt.shaped (.int _) && SeqAt.shaped (.int _) then R.ok (!PyData.eqv (.int (c.1.length : Nat)) (.int w)) else .no) = _
          have s : ∀ n : Int, SeqAt.shaped (.int n) = true := fun n => rfl
          rw [s, s]
          have e : PyData.eqv (.int (c.1.length : Nat)) (.int w) = decide ((c.1.length : Int) = w) := by
            simp only [PyData.eqv]
            rw [Bool.eq_iff_iff, beq_iff_eq, decide_eq_true_eq]
          rw [e]
          rfl
      have u2 : cT2 notInD (cVarC 4) (cK (.tuple [(.str (Str.ofString "<=")), (.str (Str.ofString "="))])) (R7 (.sh (sysD w cs)) (.sh (.int w)) (.sh (.tuple (cs.map condD))) (.sh (rowD c.1)) (.sh (.str c.2.1)) (.sh (ratD c.2.2)) e) = .ok (!(c.2.1 == leS || c.2.1 == eqS)) := ev_t2 (x := .str c.2.1) rfl rfl (in_t2 h3 (by decide +kernel) (by decide +kernel))
      have u3 : cNot (cT1 truD (cCall G_is_ratio (cCons (cVar 5) cNil))) (R7 (.sh (sysD w cs)) (.sh (.int w)) (.sh (.tuple (cs.map condD))) (.sh (rowD c.1)) (.sh (.str c.2.1)) (.sh (ratD c.2.2)) e) = .ok (!isR c.2.2) := ev_not (ev_t1 (ev_call (ev_cons (x := ratD c.2.2) rfl rfl) (isr_ok h4)) rfl)
      have u4 : cNot (cT1 truD (cB1 allD (cL (cLc [6] (cIt (cVar 3)) (gNm 6) cYes (cCall G_is_ratio (cCons (cVar 6) cNil)))))) (R7 (.sh (sysD w cs)) (.sh (.int w)) (.sh (.tuple (cs.map condD))) (.sh (rowD c.1)) (.sh (.str c.2.1)) (.sh (ratD c.2.2)) e) = .ok (!c.1.all isR) := ev_not (ev_t1 (all_rat (by cases e <;> first | rfl | exact hno) rfl h2 (by omega) rfl) rfl)
      unfold okC
      cases b1 : decide ((c.1.length : Int) = w) with
      | false => rw [b1] at u1; exact ⟨_, ex_seq (ev_ift (ev_ort u1) rfl)⟩
      | true =>
      rw [b1] at u1
      cases b2 : (c.2.1 == leS || c.2.1 == eqS) with
      | false => rw [b2] at u2; exact ⟨_, ex_seq (ev_ift (ev_orf u1 (ev_ort u2)) rfl)⟩
      | true =>
      rw [b2] at u2
      cases b3 : isR c.2.2 with
      | false => rw [b3] at u3; exact ⟨_, ex_seq (ev_ift (ev_orf u1 (ev_orf u2 u3)) rfl)⟩
      | true =>
      rw [b3] at u3
      cases b4 : c.1.all isR with
      | false => rw [b4] at u4; exact ⟨_, ev_seq (ev_iff (ev_orf u1 (ev_orf u2 u3)) rfl) (ev_ift u4 rfl)⟩
      | true =>
        rw [b4] at u4
        exact ⟨_, ev_seq (ev_iff (ev_orf u1 (ev_orf u2 u3)) rfl) (ev_iff u4 rfl), _, _, _, _, rfl, hno⟩
  rw [mapO_unit] at loop
  cases ca : cs.all (okC w) with
  | false =>
    rw [ca] at loop
    obtain ⟨r', loop⟩ := loop
    exact ex_run rfl (ev_seq a1 (ev_seq (ev_iff (ev_orf t1 (ev_orf t2 t3)) rfl) (sfor_of (ev_it (x := .tuple (cs.map condD)) rfl rfl) loop)))
  | true =>
    rw [ca] at loop
    obtain ⟨r', loop, _⟩ := loop
    exact ev_runn rfl (ev_seq a1 (ev_seq (ev_iff (ev_orf t1 (ev_orf t2 t3)) rfl) (sfor_of (ev_it (x := .tuple (cs.map condD)) rfl rfl) loop)))
/-! duels -/
def duelD (rows : List (List Q)) : D := .tuple (rows.map rowD)
def chkU (rows : List (List Q)) : Bool := match rows with
  | [] => false
  | r0 :: rest => decide (rest.length + 1 ≤ 8 ∧ 1 ≤ r0.length ∧ r0.length ≤ 8) && (r0 :: rest).all fun row => decide (row.length = r0.length) && row.all isR
theorem chkU_ok {rows : List (List Q)} (hl : rows.length ≤ 60001) (hr : ∀ row ∈ rows, row.length ≤ 60001 ∧ ∀ p ∈ row, SmQ p) : G_check_duel [duelD rows] = bR (chkU rows) := by
  have l0 : cB1 lenD (cVarC 0) (startR 3 [duelD rows]) = .ok (.int (rows.length : Nat)) := by
    refine ev_b1 (x := duelD rows) rfl ?_
    show R.ok (PyData.int ((rows.map rowD).length : Nat)) = _
    rw [List.length_map]
  cases rows with
  | nil => exact ex_run rfl (ex_seq (ev_ift (ev_ort (ev_not (b := false) (ev_chf rfl l0 (by rw [le_d]; rfl)))) rfl))
  | cons r0 rest =>
    have c1 : (1 : Int) ≤ ((r0 :: rest).length : Nat) := by simp only [List.length_cons]; omega
    have l1 : ∀ {r : Rho}, cVarC 0 r = .ok (duelD (r0 :: rest)) → cB1 lenD (cB2 ixD (cVarC 0) (cK (.int 0))) r = .ok (.int (r0.length : Nat)) := fun h => by
      refine ev_b1 (x := rowD r0) (ev_b2 h rfl (ix_t 0 rfl rfl)) ?_
      show R.ok (PyData.int ((r0.map ratD).length : Nat)) = _
      rw [List.length_map]
    show G_check_duel [duelD (r0 :: rest)] = bR (decide (rest.length + 1 ≤ 8 ∧ 1 ≤ r0.length ∧ r0.length ≤ 8) && (r0 :: rest).all fun row => decide (row.length = r0.length) && row.all isR)
    by_cases c2 : rest.length + 1 ≤ 8
    · have n1 : cNot (cCh leD leD (cK (.int 1)) (cB1 lenD (cVarC 0)) (cK (.int 8))) (startR 3 [duelD (r0 :: rest)]) = .ok false := ev_not (b := true) (ev_ch rfl l0 (by rw [le_d, decide_eq_true c1]) rfl (by rw [le_d, decide_eq_true]; simp only [List.length_cons]; omega))
      by_cases c3 : 1 ≤ r0.length
      · by_cases c4 : r0.length ≤ 8
        · have n2 : cNot (cCh leD leD (cK (.int 1)) (cB1 lenD (cB2 ixD (cVarC 0) (cK (.int 0)))) (cK (.int 8))) (startR 3 [duelD (r0 :: rest)]) = .ok false := ev_not (b := true) (ev_ch rfl (l1 rfl) (by rw [le_d, decide_eq_true]; omega) rfl (by rw [le_d, decide_eq_true]; omega))
          rw [decide_eq_true ⟨c2, c3, c4⟩, Bool.true_and]
          have ha : cNot (cT1 truD (cB1 allD (cL (cLc [1] (cIt (cVar 0)) (gNm 1) cYes (cAndV (cBl (cT2 eqD (cB1 lenD (cVarC 1)) (cB1 lenD (cB2 ixD (cVarC 0) (cK (.int 0)))))) (cB1 allD (cL (cLc [2] (cIt (cVar 1)) (gNm 2) cYes (cCall G_is_ratio (cCons (cVar 2) cNil)))))))))) (startR 3 [duelD (r0 :: rest)]) = .ok (!((r0 :: rest).all fun row => decide (row.length = r0.length) && row.all isR)) := by
            refine ev_not (ev_t1 (x := .bool ((r0 :: rest).all fun row => decide (row.length = r0.length) && row.all isR)) (ev_b1 (ev_l (ev_lcm (xs := r0 :: rest) (e := rowD) (gg := fun row => .bool (decide (row.length = r0.length) && row.all isR)) rfl (ev_it (x := duelD (r0 :: rest)) rfl rfl) (small (by omega)) fun row m => ?_)) (all_map _ _)) rfl)
            obtain ⟨k1, k2⟩ := hr row m
            refine ⟨[.sh (duelD (r0 :: rest)), .sh (rowD row), .un], rfl, rfl, ?_⟩
            have q1 : cBl (cT2 eqD (cB1 lenD (cVarC 1)) (cB1 lenD (cB2 ixD (cVarC 0) (cK (.int 0))))) [.sh (duelD (r0 :: rest)), .sh (rowD row), .un] = .ok (.bool (decide (row.length = r0.length))) := by
              refine ev_bl (ev_t2 (x := .int (row.length : Nat)) (ev_b1 (x := rowD row) rfl ?_) (l1 rfl) (eq_int ?_))
              · show R.ok (PyData.int ((row.map ratD).length : Nat)) = _
                rw [List.length_map]
              · rw [Bool.eq_iff_iff, beq_iff_eq, decide_eq_true_eq]
                omega
            cases hb : decide (row.length = r0.length) with
            | false => rw [hb] at q1; exact ev_andVf q1
            | true =>
              rw [hb] at q1
              exact ev_andV q1 (all_rat rfl rfl k2 (by omega) rfl)
          cases hb : (r0 :: rest).all fun row => decide (row.length = r0.length) && row.all isR with
          | false => rw [hb] at ha; exact ex_run rfl (ev_seq (ev_iff (ev_orf n1 n2) rfl) (ev_ift ha rfl))
          | true => rw [hb] at ha; exact ev_runn rfl (ev_seq (ev_iff (ev_orf n1 n2) rfl) (ev_iff ha rfl))
        · rw [decide_eq_false fun q => c4 q.2.2, Bool.false_and]
          exact ex_run rfl (ex_seq (ev_ift (ev_orf n1 (ev_not (b := false) (ev_ch rfl (l1 rfl) (by rw [le_d, decide_eq_true]; omega) rfl (by rw [le_d, decide_eq_false]; omega)))) rfl))
      · rw [decide_eq_false fun q => c3 q.2.1, Bool.false_and]
        exact ex_run rfl (ex_seq (ev_ift (ev_orf n1 (ev_not (b := false) (ev_chf rfl (l1 rfl) (by rw [le_d, decide_eq_false]; omega)))) rfl))
    · rw [decide_eq_false fun q => c2 q.1, Bool.false_and]
      exact ex_run rfl (ex_seq (ev_ift (ev_ort (ev_not (b := false) (ev_ch rfl l0 (by rw [le_d, decide_eq_true c1]) rfl (by rw [le_d, decide_eq_false]; simp only [List.length_cons]; omega)))) rfl))
end K95


set_option Elab.async false
set_option linter.all false
set_option maxRecDepth 100000
set_option maxHeartbeats 4000000
/-! The check of claims; checked. -/
namespace K95
open PySem PySem.Spec PyProof.Rows L2 Z
def plD (ps : List Nat) : D := .tuple (ps.map natD)
abbrev Claim := List Nat × Str × Q
def claimD (c : Claim) : D := .tuple [plD c.1, .str c.2.1, ratD c.2.2]
def claimsT (cs : List Claim) : D := .tuple (cs.map claimD)
def claimsD (m : Nat) (cs : List Claim) : D := .tuple [natD m, claimsT cs]
theorem ev_ok {m : Nat} : G_check_events [natD m] = bR (decide (1 ≤ m ∧ m ≤ 4)) := by
  by_cases c1 : 1 ≤ m
  · by_cases c2 : m ≤ 4
    · rw [decide_eq_true ⟨c1, c2⟩]
      exact ev_runn rfl (ev_iff (ev_not (b := true) (ev_ch (y := natD m) rfl rfl (by show leD (.int 1) (.int (m : Nat)) = _; rw [le_d, decide_eq_true]; omega) rfl (by show leD (.int (m : Nat)) (.int 4) = _; rw [le_d, decide_eq_true]; omega))) rfl)
    · rw [decide_eq_false fun q => c2 q.2]
      exact ex_run rfl (ev_ift (ev_not (b := false) (ev_ch (y := natD m) rfl rfl (by show leD (.int 1) (.int (m : Nat)) = _; rw [le_d, decide_eq_true]; omega) rfl (by show leD (.int (m : Nat)) (.int 4) = _; rw [le_d, decide_eq_false]; omega))) rfl)
  · rw [decide_eq_false fun q => c1 q.1]
    exact ex_run rfl (ev_ift (ev_not (b := false) (ev_chf (y := natD m) rfl rfl (by show leD (.int 1) (.int (m : Nat)) = _; rw [le_d, decide_eq_false]; omega))) rfl)
theorem ints_map : ∀ ps : List Nat, intsOf (ps.map natD) = .ok (ps.map Int.ofNat)
  | [] => rfl
  | p :: ps => by
    show (intsOf (ps.map natD)).bind _ = _
    rw [ints_map ps]
    rfl
theorem eqv_ints : ∀ xs ys : List Int, PyData.eqvAll (xs.map .int) (ys.map .int) = decide (xs = ys)
  | [], [] => by simp [PyData.eqvAll]
  | [], y :: ys => by simp [PyData.eqvAll]
  | x :: xs, [] => by simp [PyData.eqvAll]
  | x :: xs, y :: ys => by
    simp only [List.map_cons, PyData.eqvAll, PyData.eqv, eqv_ints xs ys]
    rw [Bool.eq_iff_iff]
    simp
theorem smk_ints (k : Nat) (xs : List Int) : Smk (k + 1) (.list (xs.map .int)) := smk_list fun d m => by
  obtain ⟨x, _, rfl⟩ := List.mem_map.mp m
  exact smk_int x
def rowsB (m : Nat) (ps : List Nat) : Bool := decide (setS (ps.map Int.ofNat) = ps.map Int.ofNat) && ps.all fun p => decide (p < 2 ^ m)
theorem nat_map (ps : List Nat) : ps.map natD = (ps.map Int.ofNat).map .int := by rw [List.map_map]; rfl
theorem rowsB_ok {m : Nat} {ps : List Nat} (h1 : 1 ≤ m) (h2 : m ≤ 4) (hl : ps.length < 64) : G_check_rows [natD m, plD ps] = bR (rowsB m ps) := by
  have e0 : sEx (cCall G_check_events (cCons (cVar 0) cNil)) (startR 3 [natD m, plD ps]) = .nx (startR 3 [natD m, plD ps]) := ev_ex (d := .none) (ev_call (ev_cons (x := natD m) rfl rfl) (by rw [ev_ok, decide_eq_true ⟨h1, h2⟩]; rfl))
  have t1 : cT2 neD (cL (fun r => ((cVarC 1) r).bind listD)) (cL (fun r => ((cVarC 1) r).bind setSD)) (startR 3 [natD m, plD ps]) = .ok (!decide (setS (ps.map Int.ofNat) = ps.map Int.ofNat)) := by
    refine ev_t2 (x := .list (ps.map natD)) (y := .list ((setS (ps.map Int.ofNat)).map .int)) rfl (ev_l ?_) ?_
    · show setSD (plD ps) = _
      show (intsOf (ps.map natD)).bind _ = _
      rw [ints_map]
      show (if (ps.map Int.ofNat).length < 64 then R.ok _ else .no) = _
      rw [if_pos (by rw [List.length_map]; exact hl)]
    · rw [nat_map]
      unfold neD
      rw [shp (smk_ints 39 _), shp (smk_ints 39 _)]
      show R.ok (!PyData.eqv (.list ((ps.map Int.ofNat).map .int)) (.list ((setS (ps.map Int.ofNat)).map .int))) = _
      have : PyData.eqv (.list ((ps.map Int.ofNat).map .int)) (.list ((setS (ps.map Int.ofNat)).map .int)) = decide (setS (ps.map Int.ofNat) = ps.map Int.ofNat) := by
        simp only [PyData.eqv]
        rw [eqv_ints]
        rw [Bool.eq_iff_iff, decide_eq_true_eq, decide_eq_true_eq]
        exact ⟨Eq.symm, Eq.symm⟩
      rw [this]
  have t2 : cNot (cT1 truD (cB1 allD (cL (cLc [2] (cIt (cVar 1)) (gNm 2) cYes (cBl (cCh leD ltD (cK (.int 0)) (cVarC 2) (cB2 shlD (cK (.int 1)) (cVarC 0)))))))) (startR 3 [natD m, plD ps]) = .ok (!ps.all fun p => decide (p < 2 ^ m)) := by
    refine ev_not (ev_t1 (x := .bool (ps.all fun p => decide (p < 2 ^ m))) (ev_b1 (ev_l (ev_lcm (xs := ps) (e := natD) (gg := fun p => .bool (decide (p < 2 ^ m))) rfl (ev_it (x := plD ps) rfl rfl) (small (by omega)) fun p _ => ⟨_, rfl, rfl, ev_bl ?_⟩)) (all_map _ _)) rfl)
    refine ev_ch (y := natD p) (z := .int ((2 ^ m : Nat) : Int)) rfl rfl (by show leD (.int 0) (.int (p : Nat)) = _; rw [le_d, decide_eq_true]; omega) (ev_b2 (x := .int 1) (y := natD m) rfl rfl ?_) ?_
    · show (if (0 : Int) ≤ ((m : Nat) : Int) ∧ ((m : Nat) : Int) ≤ 1000000 ∧ (1 : Int).natAbs < 2 ^ 64 then R.ok (PyData.int (1 * 2 ^ ((m : Nat) : Int).toNat)) else .no) = _
      rw [if_pos ⟨by omega, by omega, by decide⟩, Int.toNat_natCast, Int.one_mul]
      congr 2
    · show ltD (.int (p : Nat)) (.int ((2 ^ m : Nat) : Int)) = _
      rw [lt_d]
      congr 1
      rw [Bool.eq_iff_iff, decide_eq_true_eq, decide_eq_true_eq]
      omega
  unfold rowsB
  cases b1 : decide (setS (ps.map Int.ofNat) = ps.map Int.ofNat) with
  | false => rw [b1] at t1; exact ex_run rfl (ev_seq e0 (ev_ift (ev_ort t1) rfl))
  | true =>
    rw [b1] at t1
    cases b2 : ps.all fun p => decide (p < 2 ^ m) with
    | false => rw [b2] at t2; exact ex_run rfl (ev_seq e0 (ev_ift (ev_orf t1 t2) rfl))
    | true => rw [b2] at t2; exact ev_runn rfl (ev_seq e0 (ev_iff (ev_orf t1 t2) rfl))
def sgn (i : Int) : Int := if i = 0 then 0 else if 0 < i then 1 else -1
theorem sgn_ok (a b : Int) : G_sign_of [.tuple [.int a, .int b]] = .ok (.int (sgn a)) := by
  have t1 : cT2 eqD (cB2 ixD (cVarC 0) (cK (.int 0))) (cK (.int 0)) (startR 1 [.tuple [.int a, .int b]]) = .ok (a == 0) := ev_t2 (ev_b2 (x := .tuple [.int a, .int b]) (y := .int 0) rfl rfl (ix_t 0 rfl rfl)) rfl (eq_int rfl)
  have t2 : cT2 gtD (cB2 ixD (cVarC 0) (cK (.int 0))) (cK (.int 0)) (startR 1 [.tuple [.int a, .int b]]) = .ok (decide (0 < a)) := ev_t2 (ev_b2 (x := .tuple [.int a, .int b]) (y := .int 0) rfl rfl (ix_t 0 rfl rfl)) rfl (gt_d _ _)
  unfold sgn
  by_cases c : a = 0
  · rw [if_pos c]
    rw [beq_iff_eq.mpr c] at t1
    exact ev_run rfl (ev_seqr (ev_ift t1 (ev_ret rfl)))
  · rw [if_neg c]
    rw [beq_eq_false_iff_ne.mpr c] at t1
    by_cases c2 : 0 < a
    · rw [if_pos c2]
      rw [decide_eq_true c2] at t2
      exact ev_run rfl (ev_seq (ev_iff t1 rfl) (ev_ret (ev_cift t2 rfl)))
    · rw [if_neg c2]
      rw [decide_eq_false c2] at t2
      exact ev_run rfl (ev_seq (ev_iff t1 rfl) (ev_ret (ev_ciff t2 rfl)))
theorem cmp_ok {p : Q} (h : SmQ p) : G_compare [ratD p, .tuple [.int 1, .int 1]] = .ok (.int (sgn (p.1 - p.2))) := by
  have l1 := log_sm h.1
  have l2 := log_sm h.2
  have z : (1 : Int).natAbs.log2 = 0 := by decide
  have m1 : mulD (.int p.1) (.int 1) = .ok (.int p.1) := by
    show (if p.1.natAbs.log2 + (1 : Int).natAbs.log2 < 1000000 then R.ok (PyData.int (p.1 * 1)) else .no) = _
    rw [z, if_pos (by omega), Int.mul_one]
  have m2 : mulD (.int 1) (.int p.2) = .ok (.int p.2) := by
    show (if (1 : Int).natAbs.log2 + p.2.natAbs.log2 < 1000000 then R.ok (PyData.int (1 * p.2)) else .no) = _
    rw [z, if_pos (by omega), Int.one_mul]
  refine ev_run rfl (ev_ret (ev_call (ev_cons (ev_tup (ev_cons (ev_b2 (ev_b2 (ev_b2 (x := ratD p) (y := .int 0) rfl rfl (ix_t 0 rfl rfl)) (ev_b2 (x := .tuple [.int 1, .int 1]) (y := .int 1) rfl rfl (ix_t 1 rfl rfl)) m1)
    (ev_b2 (ev_b2 (x := .tuple [.int 1, .int 1]) (y := .int 0) rfl rfl (ix_t 0 rfl rfl)) (ev_b2 (x := ratD p) (y := .int 1) rfl rfl (ix_t 1 rfl rfl)) m2) rfl) (ev_cons (x := .int 1) rfl rfl)) (small (Nat.le_of_ble_eq_true rfl))) rfl) (sgn_ok _ _)))
theorem in_t3 {x a b c : Str} (h : PyData.strOk x = true) (ha : PyData.strOk a = true) (hb : PyData.strOk b = true) (hc : PyData.strOk c = true) : notInD (.str x) (.tuple [.str a, .str b, .str c]) = .ok (!(x == a || (x == b || x == c))) := by
  have e : inD (.str x) (.tuple [.str a, .str b, .str c]) = .ok (x == a || (x == b || x == c)) := by
    show (if SeqAt.shaped (.str x) && SeqAt.shaped (.tuple [.str a, .str b, .str c]) then R.ok ([PyData.str a, .str b, .str c].any fun z => PyData.eqv z (.str x)) else .no) = _
    rw [shp (smk_str h), shp (smk_tup (k := 39) (List.forall_mem_cons.mpr ⟨smk_str ha, List.forall_mem_cons.mpr ⟨smk_str hb, List.forall_mem_cons.mpr ⟨smk_str hc, by simp⟩⟩⟩))]
    simp only [List.any_cons, List.any_nil, Bool.or_false, Bool.and_self, if_true, PyData.eqv]
    rw [Bool.beq_comm, Bool.beq_comm (a := b), Bool.beq_comm (a := c)]
  unfold notInD
  rw [e]
  rfl
def okL (m : Nat) (c : Claim) : Bool := rowsB m c.1 && ((c.2.1 == leS || (c.2.1 == eqS || c.2.1 == geS)) && (isR c.2.2 && (decide (0 ≤ sgn c.2.2.1) && decide (sgn (c.2.2.1 - c.2.2.2) ≤ 0))))
def ClaimOk (c : Claim) : Prop := c.1.length < 64 ∧ PyData.strOk c.2.1 = true ∧ SmQ c.2.2
def chkL (m : Nat) (cs : List Claim) : Bool := decide (1 ≤ m ∧ m ≤ 4) && (decide (cs.length ≤ 12) && cs.all (okL m))
abbrev R5 (v a b c d : Sl) : Rho := [v, a, b, c, d]
theorem chkL_ok {m : Nat} {cs : List Claim} (hc : ∀ c ∈ cs, ClaimOk c) (hl : cs.length ≤ 60001) : G_check_claims [natD m, claimsT cs] = bR (chkL m cs) := by
  unfold chkL
  have he : cCall G_check_events (cCons (cVar 0) cNil) (startR 5 [natD m, claimsT cs]) = bR (decide (1 ≤ m ∧ m ≤ 4)) := by
    show (cCons (cVar 0) cNil (startR 5 [natD m, claimsT cs])).bind G_check_events = _
    exact ev_ok
  by_cases c1 : 1 ≤ m ∧ m ≤ 4
  case neg =>
    rw [decide_eq_false c1] at he ⊢
    exact ex_run rfl (ex_seq (ex_ex he))
  rw [decide_eq_true c1] at he ⊢
  rw [Bool.true_and]
  have e0 : sEx (cCall G_check_events (cCons (cVar 0) cNil)) (startR 5 [natD m, claimsT cs]) = .nx (startR 5 [natD m, claimsT cs]) := ev_ex he
  have t0 : cT2 gtD (cB1 lenD (cVarC 1)) (cK (.int 12)) (startR 5 [natD m, claimsT cs]) = .ok (decide (12 < (cs.length : Int))) := by
    refine ev_t2 (x := .int (cs.length : Nat)) (ev_b1 (x := claimsT cs) rfl ?_) rfl (gt_d _ _)
    show R.ok (PyData.int ((cs.map claimD).length : Nat)) = _
    rw [List.length_map]
  by_cases c2 : cs.length ≤ 12
  case neg =>
    rw [decide_eq_false c2]
    rw [decide_eq_true (by omega)] at t0
    exact ex_run rfl (ev_seq e0 (ex_seq (ev_ift t0 rfl)))
  rw [decide_eq_true c2, Bool.true_and]
  rw [decide_eq_false (by omega)] at t0
  let I : List Unit → Rho → Prop := fun _ r => ∃ a b c, r = R5 (.sh (natD m)) (.sh (claimsT cs)) a b c
  have loop := for_o (A := gTp (gsCons (gNm 2) (gsCons (gNm 3) (gsCons (gNm 4) gsNil)))) (F := sSeq (sEx (cCall G_check_rows (cCons (cVar 0) (cCons (cVar 2) cNil))))
    (sIf (cOr (cT2 notInD (cVarC 3) (cTup (cCons (cK (.str (Str.ofString "<="))) (cCons (cK (.str (Str.ofString "="))) (cCons (cK (.str (Str.ofString ">="))) cNil))))) (cOr (cNot (cT1 truD (cCall G_is_ratio (cCons (cVar 4) cNil)))) (cOr (cT2 ltD (cCall G_sign_of (cCons (cVar 4) cNil)) (cK (.int 0))) (cT2 gtD (cCall G_compare (cCons (cVar 4) (cCons (cK (.tuple [(.int 1), (.int 1)])) cNil))) (cK (.int 0)))))) (sRaise 1) sNil)) (k := 1) (N := cs.length) (e := claimD) (q := fun c => if okL m c then some () else none) I cs [] (R5 (.sh (natD m)) (.sh (claimsT cs)) .un .un .un) ⟨_, _, _, rfl⟩ (by simp) fun c mm _ r _ hI => by
      obtain ⟨a, b, d, rfl⟩ := hI
      obtain ⟨h1, h2, h3⟩ := hc c mm
      refine ⟨R5 (.sh (natD m)) (.sh (claimsT cs)) (.sh (plD c.1)) (.sh (.str c.2.1)) (.sh (ratD c.2.2)), rfl, ?_⟩
      have u0 : cCall G_check_rows (cCons (cVar 0) (cCons (cVar 2) cNil)) (R5 (.sh (natD m)) (.sh (claimsT cs)) (.sh (plD c.1)) (.sh (.str c.2.1)) (.sh (ratD c.2.2))) = bR (rowsB m c.1) := by
        show (cCons (cVar 0) (cCons (cVar 2) cNil) (R5 (.sh (natD m)) (.sh (claimsT cs)) (.sh (plD c.1)) (.sh (.str c.2.1)) (.sh (ratD c.2.2)))).bind G_check_rows = _
        exact rowsB_ok c1.1 c1.2 h1
      have u1 : cT2 notInD (cVarC 3) (cTup (cCons (cK (.str (Str.ofString "<="))) (cCons (cK (.str (Str.ofString "="))) (cCons (cK (.str (Str.ofString ">="))) cNil)))) (R5 (.sh (natD m)) (.sh (claimsT cs)) (.sh (plD c.1)) (.sh (.str c.2.1)) (.sh (ratD c.2.2))) = .ok (!(c.2.1 == leS || (c.2.1 == eqS || c.2.1 == geS))) := ev_t2 (x := .str c.2.1) (y := .tuple [.str leS, .str eqS, .str geS]) rfl (ev_tup rfl (small (Nat.le_of_ble_eq_true rfl))) (in_t3 h2 (by decide +kernel) (by decide +kernel) (by decide +kernel))
      have u2 : cNot (cT1 truD (cCall G_is_ratio (cCons (cVar 4) cNil))) (R5 (.sh (natD m)) (.sh (claimsT cs)) (.sh (plD c.1)) (.sh (.str c.2.1)) (.sh (ratD c.2.2))) = .ok (!isR c.2.2) := ev_not (ev_t1 (ev_call (ev_cons (x := ratD c.2.2) rfl rfl) (isr_ok h3)) rfl)
      have u3 : cT2 ltD (cCall G_sign_of (cCons (cVar 4) cNil)) (cK (.int 0)) (R5 (.sh (natD m)) (.sh (claimsT cs)) (.sh (plD c.1)) (.sh (.str c.2.1)) (.sh (ratD c.2.2))) = .ok (decide (sgn c.2.2.1 < 0)) := ev_t2 (ev_call (ev_cons (x := ratD c.2.2) rfl rfl) (sgn_ok _ _)) rfl (lt_d _ _)
      have u4 : cT2 gtD (cCall G_compare (cCons (cVar 4) (cCons (cK (.tuple [(.int 1), (.int 1)])) cNil))) (cK (.int 0)) (R5 (.sh (natD m)) (.sh (claimsT cs)) (.sh (plD c.1)) (.sh (.str c.2.1)) (.sh (ratD c.2.2))) = .ok (decide (0 < sgn (c.2.2.1 - c.2.2.2))) := ev_t2 (ev_call (ev_cons (x := ratD c.2.2) rfl rfl) (cmp_ok h3)) rfl (gt_d _ _)
      unfold okL
      cases b0 : rowsB m c.1 with
      | false => rw [b0] at u0; exact ⟨_, ex_seq (ex_ex u0)⟩
      | true =>
      rw [b0] at u0
      cases b1 : (c.2.1 == leS || (c.2.1 == eqS || c.2.1 == geS)) with
      | false => rw [b1] at u1; exact ⟨_, ev_seq (ev_ex u0) (ev_ift (ev_ort u1) rfl)⟩
      | true =>
      rw [b1] at u1
      cases b2 : isR c.2.2 with
      | false => rw [b2] at u2; exact ⟨_, ev_seq (ev_ex u0) (ev_ift (ev_orf u1 (ev_ort u2)) rfl)⟩
      | true =>
      rw [b2] at u2
      by_cases b3 : 0 ≤ sgn c.2.2.1
      case neg =>
        rw [decide_eq_false b3]
        rw [decide_eq_true (by omega)] at u3
        exact ⟨_, ev_seq (ev_ex u0) (ev_ift (ev_orf u1 (ev_orf u2 (ev_ort u3))) rfl)⟩
      rw [decide_eq_true b3]
      rw [decide_eq_false (by omega)] at u3
      by_cases b4 : sgn (c.2.2.1 - c.2.2.2) ≤ 0
      case neg =>
        rw [decide_eq_false b4]
        rw [decide_eq_true (by omega)] at u4
        exact ⟨_, ev_seq (ev_ex u0) (ev_ift (ev_orf u1 (ev_orf u2 (ev_orf u3 u4))) rfl)⟩
      rw [decide_eq_true b4]
      rw [decide_eq_false (by omega)] at u4
      exact ⟨_, ev_seq (ev_ex u0) (ev_iff (ev_orf u1 (ev_orf u2 (ev_orf u3 u4))) rfl), _, _, _, rfl⟩
  rw [mapO_unit] at loop
  cases ca : cs.all (okL m) with
  | false =>
    rw [ca] at loop
    obtain ⟨r', loop⟩ := loop
    exact ex_run rfl (ev_seq e0 (ev_seq (ev_iff t0 rfl) (sfor_of (ev_it (x := claimsT cs) rfl rfl) loop)))
  | true =>
    rw [ca] at loop
    obtain ⟨r', loop, _⟩ := loop
    exact ev_runn rfl (ev_seq e0 (ev_seq (ev_iff t0 rfl) (sfor_of (ev_it (x := claimsT cs) rfl rfl) loop)))
/-! ### checked -/
theorem check_sys {v : D} {b : Bool} (h : G_check_system [v] = bR b) : G_checked [fnD (Str.ofString "check_system"), v] = oR 2 id (if b then some v else none) := by
  have e : cCallL 0 [((Str.ofString "check_system"), G_check_system), ((Str.ofString "check_duel"), G_check_duel)] G_lambda (cCons (cVar 1) cNil) (startR 2 [fnD (Str.ofString "check_system"), v]) = bR b := by rw [← h]; rfl
  cases b with
  | true => exact ev_run rfl (ev_seq (r' := startR 2 [fnD (Str.ofString "check_system"), v]) (by unfold sTryR; rw [ev_ex e]) (ev_ret rfl))
  | false => exact ex_run rfl (ex_seq (r' := startR 2 [fnD (Str.ofString "check_system"), v]) (by unfold sTryR; rw [ex_ex e]; rfl))
theorem check_duel {v : D} {b : Bool} (h : G_check_duel [v] = bR b) : G_checked [fnD (Str.ofString "check_duel"), v] = oR 2 id (if b then some v else none) := by
  have e : cCallL 0 [((Str.ofString "check_system"), G_check_system), ((Str.ofString "check_duel"), G_check_duel)] G_lambda (cCons (cVar 1) cNil) (startR 2 [fnD (Str.ofString "check_duel"), v]) = bR b := by rw [← h]; rfl
  cases b with
  | true => exact ev_run rfl (ev_seq (r' := startR 2 [fnD (Str.ofString "check_duel"), v]) (by unfold sTryR; rw [ev_ex e]) (ev_ret rfl))
  | false => exact ex_run rfl (ex_seq (r' := startR 2 [fnD (Str.ofString "check_duel"), v]) (by unfold sTryR; rw [ex_ex e]; rfl))
theorem check_cls {a c : D} {b : Bool} (h : G_check_claims [a, c] = bR b) : G_checked [.dict [(.none, .none)], .tuple [a, c]] = oR 2 id (if b then some (.tuple [a, c]) else none) := by
  have e : cCallL 0 [((Str.ofString "check_system"), G_check_system), ((Str.ofString "check_duel"), G_check_duel)] G_lambda (cCons (cVar 1) cNil) (startR 2 [.dict [(.none, .none)], .tuple [a, c]]) = bR b := by rw [← h]; rfl
  cases b with
  | true => exact ev_run rfl (ev_seq (r' := startR 2 [.dict [(.none, .none)], .tuple [a, c]]) (by unfold sTryR; rw [ev_ex e]) (ev_ret rfl))
  | false => exact ex_run rfl (ex_seq (r' := startR 2 [.dict [(.none, .none)], .tuple [a, c]]) (by unfold sTryR; rw [ex_ex e]; rfl))
end K95


set_option Elab.async false
set_option linter.all false
set_option maxRecDepth 100000
set_option maxHeartbeats 4000000
/-! The readers, each equal to a plain function. -/
namespace K95
open PySem PySem.Spec PyProof.Rows L2 Z
theorem at_m1 {ds : List D} {d : D} : ixD (.list (ds ++ [d])) (.int (-1)) = .ok d := by
  show atD (ds ++ [d]) (-1) = _
  unfold atD
  rw [atI_last]
theorem at_m2 {ds : List D} {d e : D} : ixD (.list (ds ++ [d, e])) (.int (-2)) = .ok d := by
  show atD (ds ++ [d, e]) (-2) = _
  have h : atI (ds ++ [d, e]) (-2) = some d := by
    unfold atI ixN
    rw [if_neg (by decide), if_pos (by simp only [List.length_append, List.length_cons, List.length_nil]; omega)]
    show (ds ++ [d, e])[_]? = _
    have : ((-2 : Int) + ((ds ++ [d, e]).length : Nat)).toNat = ds.length := by simp only [List.length_append, List.length_cons, List.length_nil]; omega
    rw [this, List.getElem?_append_right (Nat.le_refl _), Nat.sub_self]
    rfl
  unfold atD
  rw [h]
theorem cut_init2 (ds : List D) (d e : D) : Z.cutD (ds ++ [d, e]) none (some (-2)) = ds := by
  unfold Z.cutD
  rw [HT.sIx_none]
  have e : HT.sIx (ds ++ [d, e]).length (ds ++ [d, e]).length (some (-2)) = ds.length := by
    show (if (-2 : Int) < 0 then ((-2 : Int) + ((ds ++ [d, e]).length : Int)).toNat else min (-2 : Int).toNat (ds ++ [d, e]).length) = _
    rw [if_pos (by decide), List.length_append]
    simp only [List.length_cons, List.length_nil]
    omega
  rw [e, List.drop_zero, Nat.sub_zero, List.take_left]
theorem tup_o {α : Type} {fa : Rho → R (List D)} {r : Rho} {k : Nat} {g : α → List D} {o : Option α} (h : fa r = oR k g o) : cB1 tupD (cL fa) r = oR k (fun x => .tuple (g x)) o := by
  unfold cB1 cL
  rw [h]
  cases o <;> rfl
theorem rdWord {j : Nat} {r : Rho} {w : Str} (h : cVar j r = .ok (.str w)) (g : Good w) : cCall G_read_ratio (cCons (cVar j) cNil) r = oR 2 ratD (rdR w) := by
  show (cCons (cVar j) cNil r).bind G_read_ratio = _
  rw [ev_cons h rfl]
  exact (rr g).1
def rdC (words : List Str) : Option Cond := if words.length < 3 then none else
  (mapO rdR (words.take (words.length - 2))).bind fun row => (rdR (words.getD (words.length - 1) emS)).bind fun q => some (row, words.getD (words.length - 2) emS, q)
theorem rdC_app {ws : List Str} {rel b : Str} (h : ws ≠ []) : rdC (ws ++ [rel, b]) = (mapO rdR ws).bind fun row => (rdR b).bind fun q => some (row, rel, q) := by
  have h1 : 0 < ws.length := List.length_pos_iff.mpr h
  have e : (ws ++ [rel, b]).length = ws.length + 2 := by simp
  unfold rdC
  rw [if_neg (by omega), e, Nat.add_sub_cancel, List.take_left]
  have g1 : (ws ++ [rel, b]).getD (ws.length + 2 - 1) emS = b := by
    rw [List.getD_eq_getElem?_getD, List.getElem?_append_right (by omega), show ws.length + 2 - 1 - ws.length = 1 by omega]
    rfl
  have g2 : (ws ++ [rel, b]).getD ws.length emS = rel := by
    rw [List.getD_eq_getElem?_getD, List.getElem?_append_right (by omega), Nat.sub_self]
    rfl
  rw [g1, g2]
theorem three {words : List Str} (h : ¬ words.length < 3) : ∃ ws rel b, ws ≠ [] ∧ words = ws ++ [rel, b] := by
  refine ⟨words.take (words.length - 2), words[words.length - 2]'(by omega), words[words.length - 1]'(by omega), ?_, ?_⟩
  · intro e
    have := congrArg List.length e
    rw [List.length_take] at this
    simp at this
    omega
  · have e : words.drop (words.length - 2) = [words[words.length - 2]'(by omega), words[words.length - 1]'(by omega)] := by
      rw [List.drop_eq_getElem_cons (by omega), List.drop_eq_getElem_cons (by omega), List.drop_of_length_le (by omega)]
      congr 2
      congr 1
      omega
    rw [← e, List.take_append_drop]
def rdSys (x : Str) : Option (Nat × List Cond) := (rowsO x).bind fun rows => (frontO rows (Str.ofString "unknowns") 2).bind fun us => (numO (us.headD emS)).bind fun w =>
  (mapO rdC rows.tail).bind fun cs => if chkS (w : Nat) cs then some (w, cs) else none
theorem frontO_inv {rows : List (List Str)} {word : Str} {us : List Str} {many : Nat} (h : frontO rows word many = some us) : ∃ rest, rows = (word :: us) :: rest ∧ us.length + 1 = many := by
  unfold frontO at h
  split at h
  · split at h
    · rename_i q
      cases h
      exact ⟨_, by rw [q.1], q.2⟩
    · cases h
  · cases h
theorem rdC_ok {words : List Str} {c : Cond} (hr : Row words) (h : rdC words = some c) : CondOk c ∧ c.1 ≠ [] ∧ c.1.map ratT ++ [c.2.1, ratT c.2.2] = words ∧ Good c.2.1 := by
  by_cases c3 : words.length < 3
  · unfold rdC at h
    rw [if_pos c3] at h
    cases h
  obtain ⟨ws, rel, b, hne, rfl⟩ := three c3
  rw [rdC_app hne] at h
  obtain ⟨row, h1, h⟩ := Option.bind_eq_some_iff.mp h
  obtain ⟨q, h2, h⟩ := Option.bind_eq_some_iff.mp h
  cases h
  have hg : ∀ w ∈ ws, Good w := fun w m => (hr.2.2 w (List.mem_append_left _ m)).1
  obtain ⟨e1, e2⟩ := mapO_inv (t := ratT) (P := SmQ) h1 fun w m y hy => (rr (hg w m)).2 y hy
  have gb : Good b := (hr.2.2 b (by simp)).1
  have gr : Good rel := (hr.2.2 rel (by simp)).1
  obtain ⟨e3, e4⟩ := (rr gb).2 q h2
  have el := (mapO_some h1).1
  have hl := hr.2.1
  rw [List.length_append] at hl
  refine ⟨⟨by show row.length ≤ 60001; omega, e2, gr.1, e4⟩, ?_, ?_, gr⟩
  · intro e
    have h0 : 0 < ws.length := List.length_pos_iff.mpr hne
    have h1 : row.length = 0 := congrArg List.length e
    omega
  · show row.map ratT ++ [rel, ratT q] = _
    rw [e1, e3]
theorem rows_wsD (rows : List (List Str)) : rowsD rows = .list (rows.map wsD) := rfl
theorem callO {Gd : List D → R D} {f : Rho → R D} {r : Rho} {x : D} {o : R D} (h : f r = .ok x) (h2 : Gd [x] = o) : cCall Gd (cCons f cNil) r = o := by
  show (cCons f cNil r).bind Gd = _
  rw [ev_cons h rfl]
  exact h2
theorem sys_ok {x : Str} (hk : PyData.strOk x = true) (hl : x.length ≤ 1000000) : G_read_system [.str x] = oR 2 (fun v => sysD (v.1 : Nat) v.2) (rdSys x) := by
  have e1 : cCall G_rows_of (cCons (cVar 0) cNil) (startR 7 [.str x]) = oR 2 rowsD (rowsO x) := callO rfl (rows_ok hk hl)
  unfold rdSys
  cases h1 : rowsO x with
  | none => rw [h1] at e1; exact ex_run rfl (ex_seq (ex_set e1))
  | some rows =>
  rw [h1] at e1
  obtain ⟨_, _, hrl, hrows⟩ := rowsO_inv hk h1
  show _ = oR 2 _ ((frontO rows (Str.ofString "unknowns") 2).bind _)
  have s1 : sSet 1 (cCall G_rows_of (cCons (cVar 0) cNil)) (startR 7 [.str x]) = .nx (R7 (.sh (.str x)) (.sh (rowsD rows)) .un .un .un .un .un) := ev_set e1
  have e2 : cCall G_front (cCons (cVar 1) (cCons (cK (.str (Str.ofString "unknowns"))) (cCons (cK (.int 2)) cNil))) (R7 (.sh (.str x)) (.sh (rowsD rows)) .un .un .un .un .un) = oR 2 strsD (frontO rows (Str.ofString "unknowns") 2) := front_ok (many := 2) hrows (by decide +kernel)
  cases h2 : frontO rows (Str.ofString "unknowns") 2 with
  | none => rw [h2] at e2; exact ex_run rfl (ev_seq s1 (ex_seq (ex_set (ex_calla (ex_cons (ex_b2 e2))))))
  | some us =>
  rw [h2] at e2
  obtain ⟨rest, er, hu⟩ := frontO_inv h2
  obtain ⟨u, rfl⟩ : ∃ u, us = [u] := by
    match us, hu with
    | [u], _ => exact ⟨u, rfl⟩
  subst er
  have gu : Good u := ((hrows _ List.mem_cons_self).2.2 u (by simp)).1
  show _ = oR 2 _ ((numO u).bind _)
  have e3 : cCall G_number_of (cCons (cB2 ixD (cCall G_front (cCons (cVar 1) (cCons (cK (.str (Str.ofString "unknowns"))) (cCons (cK (.int 2)) cNil)))) (cK (.int 0))) cNil) (R7 (.sh (.str x)) (.sh (rowsD ((Str.ofString "unknowns" :: [u]) :: rest))) .un .un .un .un .un) = oR 2 natD (numO u) := callO (x := .str u) (ev_b2 (x := strsD [u]) (y := .int 0) e2 rfl (ix_l 0 rfl rfl)) (num_ok gu.1 gu.2)
  cases h3 : numO u with
  | none => rw [h3] at e3; exact ex_run rfl (ev_seq s1 (ex_seq (ex_set e3)))
  | some w =>
  rw [h3] at e3
  show _ = oR 2 _ ((mapO rdC rest).bind _)
  have s2 := ev_set (i := 2) e3
  have hrest : ∀ ws ∈ rest, Row ws := fun ws m => hrows ws (List.mem_cons_of_mem _ m)
  have hn : rest.length ≤ 60000 := by simp only [List.length_cons] at hrl; omega
  have loop := for_o (A := gNm 4) (F := sSeq (sIf (cT2 ltD (cB1 lenD (cVarC 4)) (cK (.int 3))) (sRaise 2) sNil)
    (sSeq (sSet 5 (cB1 tupD (cL (cLc [6] (cIt (cSl (cVarC 4) cO0 (cO (cB1 negD (cK (.int 2)))))) (gNm 6) cYes (cCall G_read_ratio (cCons (cVar 6) cNil))))))
    (sApp 3 (cTup (cCons (cVar 5) (cCons (cB2 ixD (cVarC 4) (cB1 negD (cK (.int 2)))) (cCons (cCall G_read_ratio (cCons (cB2 ixD (cVarC 4) (cB1 negD (cK (.int 1)))) cNil)) cNil))))))) (k := 2) (N := rest.length) (e := wsD) (q := rdC)
    (fun acc r => ∃ a b c, r = R7 (.sh (.str x)) (.sh (rowsD ((Str.ofString "unknowns" :: [u]) :: rest))) (.sh (natD w)) (.ow (acc.map condD)) a b c ∧ noOw [c] [0] = true) rest [] (R7 (.sh (.str x)) (.sh (rowsD ((Str.ofString "unknowns" :: [u]) :: rest))) (.sh (natD w)) (.ow []) .un .un .un) ⟨_, _, _, rfl, rfl⟩ (by simp) fun words mw acc r hacc hI => by
      obtain ⟨a, b, c, rfl, hno⟩ := hI
      have hw := hrest words mw
      refine ⟨R7 (.sh (.str x)) (.sh (rowsD ((Str.ofString "unknowns" :: [u]) :: rest))) (.sh (natD w)) (.ow (acc.map condD)) (.sh (wsD words)) b c, rfl, ?_⟩
      have t1 : cT2 ltD (cB1 lenD (cVarC 4)) (cK (.int 3)) (R7 (.sh (.str x)) (.sh (rowsD ((Str.ofString "unknowns" :: [u]) :: rest))) (.sh (natD w)) (.ow (acc.map condD)) (.sh (wsD words)) b c) = .ok (decide (((words.length : Nat) : Int) < 3)) := by
        refine ev_t2 (x := .int (words.length : Nat)) (ev_b1 (x := wsD words) rfl ?_) rfl (lt_d _ _)
        show R.ok (PyData.int ((words.map PyData.str).length : Nat)) = _
        rw [List.length_map]
      by_cases c3 : words.length < 3
      · rw [decide_eq_true (by omega)] at t1
        have e : rdC words = none := by unfold rdC; rw [if_pos c3]
        rw [e]
        exact ⟨_, ex_seq (ev_ift t1 rfl)⟩
      rw [decide_eq_false (by omega)] at t1
      obtain ⟨ws, rel, bb, hne, rfl⟩ := three c3
      rw [rdC_app hne]
      have hg : ∀ v ∈ ws, Good v := fun v m => (hw.2.2 v (List.mem_append_left _ m)).1
      have gb : Good bb := (hw.2.2 bb (by simp)).1
      have hwl := hw.2.1
      rw [List.length_append] at hwl
      have em : wsD (ws ++ [rel, bb]) = .list (ws.map .str ++ [.str rel, .str bb]) := by unfold wsD; rw [List.map_append]; rfl
      have e5 : cB1 tupD (cL (cLc [6] (cIt (cSl (cVarC 4) cO0 (cO (cB1 negD (cK (.int 2)))))) (gNm 6) cYes (cCall G_read_ratio (cCons (cVar 6) cNil)))) (R7 (.sh (.str x)) (.sh (rowsD ((Str.ofString "unknowns" :: [u]) :: rest))) (.sh (natD w)) (.ow (acc.map condD)) (.sh (wsD (ws ++ [rel, bb]))) b c) = oR 2 rowD (mapO rdR ws) := by
        refine tup_o (ev_lco (xs := ws) (e := .str) (q := rdR) (gg := ratD) (by cases c <;> first | rfl | exact hno) (ev_it (x := .list (ws.map .str)) (ev_sl (x := wsD (ws ++ [rel, bb])) (lo := none) (hi := some (-2)) rfl rfl rfl ?_) rfl) (small (by omega)) fun v m => ⟨_, rfl, rfl, rdWord rfl (hg v m)⟩)
        rw [em]
        show R.ok (PyData.list (Z.cutD _ none (some (-2)))) = _
        rw [cut_init2]
      cases h5 : mapO rdR ws with
      | none => rw [h5] at e5; exact ⟨_, ev_seq (ev_iff t1 rfl) (ex_seq (ex_set e5))⟩
      | some row =>
      rw [h5] at e5
      rw [show (some row).bind (fun row => (rdR bb).bind fun q => some (row, rel, q)) = (rdR bb).bind fun q => some (row, rel, q) from rfl]
      have s5 := ev_set (i := 5) e5
      have e6 : cCall G_read_ratio (cCons (cB2 ixD (cVarC 4) (cB1 negD (cK (.int 1)))) cNil) (R7 (.sh (.str x)) (.sh (rowsD ((Str.ofString "unknowns" :: [u]) :: rest))) (.sh (natD w)) (.ow (acc.map condD)) (.sh (wsD (ws ++ [rel, bb]))) (.sh (rowD row)) c) = oR 2 ratD (rdR bb) := by
        refine callO (x := .str bb) (ev_b2 (x := wsD (ws ++ [rel, bb])) (y := .int (-1)) rfl rfl ?_) (rr gb).1
        have em2 : wsD (ws ++ [rel, bb]) = .list ((ws.map .str ++ [.str rel]) ++ [.str bb]) := by rw [em, List.append_assoc]; rfl
        rw [em2]
        exact at_m1
      have e7 : cB2 ixD (cVarC 4) (cB1 negD (cK (.int 2))) (R7 (.sh (.str x)) (.sh (rowsD ((Str.ofString "unknowns" :: [u]) :: rest))) (.sh (natD w)) (.ow (acc.map condD)) (.sh (wsD (ws ++ [rel, bb]))) (.sh (rowD row)) c) = .ok (.str rel) := by
        refine ev_b2 (x := wsD (ws ++ [rel, bb])) (y := .int (-2)) rfl rfl ?_
        rw [em]
        exact at_m2
      cases h6 : rdR bb with
      | none => rw [h6] at e6; exact ⟨_, ev_seq (ev_iff t1 rfl) (ev_seq s5 (ex_app (ds := acc.map condD) rfl (ex_tup (ex_consr (x := rowD row) rfl (ex_consr e7 (ex_cons e6))))))⟩
      | some q =>
      rw [h6] at e6
      refine ⟨_, ev_seq (ev_iff t1 rfl) (ev_seq s5 (ev_app (ds := acc.map condD) (d := condD (row, rel, q)) rfl (ev_tup (ev_cons (x := rowD row) rfl (ev_cons e7 (ev_cons e6 rfl))) (small (Nat.le_of_ble_eq_true rfl))) (by rw [List.length_map]; have : sizeLine = 16777216 := rfl; omega))), .sh (wsD (ws ++ [rel, bb])), .sh (rowD row), c, ?_, hno⟩
      rw [List.map_append]
      rfl
  have s3 : sOwn 3 (cLst cNil) (R7 (.sh (.str x)) (.sh (rowsD ((Str.ofString "unknowns" :: [u]) :: rest))) (.sh (natD w)) .un .un .un .un) = .nx (R7 (.sh (.str x)) (.sh (rowsD ((Str.ofString "unknowns" :: [u]) :: rest))) (.sh (natD w)) (.ow []) .un .un .un) := ev_own rfl (Nat.le_of_ble_eq_true rfl)
  have hit : cIt (cSl (cVarC 1) (cO (cK (.int 1))) cO0) (R7 (.sh (.str x)) (.sh (rowsD ((Str.ofString "unknowns" :: [u]) :: rest))) (.sh (natD w)) (.ow []) .un .un .un) = .ok (rest.map wsD) := ev_it (x := .list (rest.map wsD)) (ev_sl (x := rowsD ((Str.ofString "unknowns" :: [u]) :: rest)) (lo := some 1) (hi := none) rfl rfl rfl cut_tail) rfl
  cases h4 : mapO rdC rest with
  | none =>
    rw [h4] at loop
    obtain ⟨r', loop⟩ := loop
    exact ex_run rfl (ev_seq s1 (ev_seq s2 (ev_seq s3 (ex_seq (sfor_of hit loop)))))
  | some cs =>
    rw [h4] at loop
    obtain ⟨r', loop, a, b, c, rfl, _⟩ := loop
    have hcs : ∀ c ∈ cs, CondOk c := (mapO_inv (t := fun c : Cond => c.1.map ratT ++ [c.2.1, ratT c.2.2]) (P := CondOk) h4 fun ws m y hy => ⟨(rdC_ok (hrest ws m) hy).2.2.1, (rdC_ok (hrest ws m) hy).1⟩).2
    have hlen := (mapO_some h4).1
    have ck := check_sys (v := sysD (w : Nat) cs) (chkS_ok (w := (w : Nat)) hcs (by omega))
    have ec : cCall G_checked (cCons (cK (fnD (Str.ofString "check_system"))) (cCons (cTup (cCons (cVar 2) (cCons (cB1 tupD (cVarC 3)) cNil))) cNil)) (R7 (.sh (.str x)) (.sh (rowsD ((Str.ofString "unknowns" :: [u]) :: rest))) (.sh (natD w)) (.ow (([] ++ cs).map condD)) a b c) = oR 2 id (if chkS (w : Nat) cs then some (sysD (w : Nat) cs) else none) := by
      rw [List.nil_append]
      show (cCons _ _ _).bind G_checked = _
      rw [ev_cons (x := fnD (Str.ofString "check_system")) rfl (ev_cons (x := sysD (w : Nat) cs) (ev_tup (ds := [natD w, .tuple (cs.map condD)]) rfl (small (Nat.le_of_ble_eq_true rfl))) rfl)]
      exact ck
    show _ = oR 2 (fun v : Nat × List Cond => sysD (v.1 : Nat) v.2) (if chkS (w : Nat) cs then some (w, cs) else none)
    cases hb : chkS (w : Nat) cs with
    | false => rw [hb] at ec; exact ex_run rfl (ev_seq s1 (ev_seq s2 (ev_seq s3 (ev_seq (sfor_of hit loop) (ex_ret ec)))))
    | true => rw [hb] at ec; exact ev_run rfl (ev_seq s1 (ev_seq s2 (ev_seq s3 (ev_seq (sfor_of hit loop) (ev_ret ec)))))
end K95


set_option Elab.async false
set_option linter.all false
set_option maxRecDepth 100000
set_option maxHeartbeats 4000000
namespace K95
open PySem PySem.Spec PyProof.Rows L2 Z
/-! ### duels -/
def rdDuel (x : Str) : Option (List (List Q)) := (rowsO x).bind fun rows => (frontO rows (Str.ofString "duel") 1).bind fun _ => if rows.length < 2 then none else
  (mapO (mapO rdR) rows.tail).bind fun rs => if chkU rs then some rs else none
theorem row_inv {words : List Str} {row : List Q} (hr : Row words) (h : mapO rdR words = some row) : row.map ratT = words ∧ (∀ p ∈ row, SmQ p) ∧ row.length ≤ 60001 := by
  obtain ⟨e1, e2⟩ := mapO_inv (t := ratT) (P := SmQ) h fun w m y hy => (rr (hr.2.2 w m).1).2 y hy
  exact ⟨e1, e2, by have := (mapO_some h).1; have := hr.2.1; omega⟩
theorem duel_ok {x : Str} (hk : PyData.strOk x = true) (hl : x.length ≤ 1000000) : G_read_duel [.str x] = oR 2 duelD (rdDuel x) := by
  have e1 : cCall G_rows_of (cCons (cVar 0) cNil) (startR 4 [.str x]) = oR 2 rowsD (rowsO x) := callO rfl (rows_ok hk hl)
  unfold rdDuel
  cases h1 : rowsO x with
  | none => rw [h1] at e1; exact ex_run rfl (ex_seq (ex_set e1))
  | some rows =>
  rw [h1] at e1
  obtain ⟨_, _, hrl, hrows⟩ := rowsO_inv hk h1
  show _ = oR 2 _ ((frontO rows (Str.ofString "duel") 1).bind _)
  have s1 : sSet 1 (cCall G_rows_of (cCons (cVar 0) cNil)) (startR 4 [.str x]) = .nx [.sh (.str x), .sh (rowsD rows), .un, .un] := ev_set e1
  have e2 : cCall G_front (cCons (cVar 1) (cCons (cK (.str (Str.ofString "duel"))) (cCons (cK (.int 1)) cNil))) [.sh (.str x), .sh (rowsD rows), .un, .un] = oR 2 strsD (frontO rows (Str.ofString "duel") 1) := front_ok (many := 1) hrows (by decide +kernel)
  cases h2 : frontO rows (Str.ofString "duel") 1 with
  | none => rw [h2] at e2; exact ex_run rfl (ev_seq s1 (ex_seq (ex_ex e2)))
  | some us =>
  rw [h2] at e2
  obtain ⟨rest, er, hu⟩ := frontO_inv h2
  have t1 : cT2 ltD (cB1 lenD (cVarC 1)) (cK (.int 2)) [.sh (.str x), .sh (rowsD rows), .un, .un] = .ok (decide (((rows.length : Nat) : Int) < 2)) := by
    refine ev_t2 (x := .int (rows.length : Nat)) (ev_b1 (x := rowsD rows) rfl ?_) rfl (lt_d _ _)
    show R.ok (PyData.int ((rows.map wsD).length : Nat)) = _
    rw [List.length_map]
  show _ = oR 2 _ (if rows.length < 2 then none else _)
  by_cases c2 : rows.length < 2
  · rw [decide_eq_true (by omega)] at t1
    rw [if_pos c2]
    exact ex_run rfl (ev_seq s1 (ev_seq (ev_ex e2) (ex_seq (ev_ift t1 rfl))))
  rw [decide_eq_false (by omega)] at t1
  rw [if_neg c2]
  subst er
  show _ = oR 2 _ ((mapO (mapO rdR) rest).bind _)
  have hrest : ∀ ws ∈ rest, Row ws := fun ws m => hrows ws (List.mem_cons_of_mem _ m)
  have hn : rest.length ≤ 60000 := by simp only [List.length_cons] at hrl; omega
  have e3 : cB1 tupD (cL (cLc [2] (cIt (cSl (cVarC 1) (cO (cK (.int 1))) cO0)) (gNm 2) cYes (cB1 tupD (cL (cLc [3] (cIt (cVar 2)) (gNm 3) cYes (cCall G_read_ratio (cCons (cVar 3) cNil))))))) [.sh (.str x), .sh (rowsD ((Str.ofString "duel" :: us) :: rest)), .un, .un] = oR 2 duelD (mapO (mapO rdR) rest) := by
    refine tup_o (ev_lco (xs := rest) (e := wsD) (q := mapO rdR) (gg := rowD) rfl (ev_it (x := .list (rest.map wsD)) (ev_sl (x := rowsD ((Str.ofString "duel" :: us) :: rest)) (lo := some 1) (hi := none) rfl rfl rfl cut_tail) rfl) (small (by omega)) fun ws m => ⟨_, rfl, rfl, ?_⟩)
    have hw := hrest ws m
    exact tup_o (ev_lco (xs := ws) (e := .str) (q := rdR) (gg := ratD) rfl (ev_it (x := wsD ws) rfl rfl) (small (by have := hw.2.1; omega)) fun v mv => ⟨_, rfl, rfl, rdWord rfl (hw.2.2 v mv).1⟩)
  cases h3 : mapO (mapO rdR) rest with
  | none =>
    rw [h3] at e3
    refine ex_run rfl (ev_seq s1 (ev_seq (ev_ex e2) (ev_seq (ev_iff t1 rfl) (ex_ret (ex_calla (ex_consr (x := fnD (Str.ofString "check_duel")) rfl (ex_cons e3)))))))
  | some rs =>
    rw [h3] at e3
    have hrs : ∀ row ∈ rs, row.length ≤ 60001 ∧ ∀ p ∈ row, SmQ p := (mapO_inv (t := fun row : List Q => row.map ratT) (P := fun row : List Q => row.length ≤ 60001 ∧ ∀ p ∈ row, SmQ p) h3 fun ws m y hy => ⟨(row_inv (hrest ws m) hy).1, (row_inv (hrest ws m) hy).2.2, (row_inv (hrest ws m) hy).2.1⟩).2
    have hlen := (mapO_some h3).1
    have ck := check_duel (v := duelD rs) (chkU_ok (by omega) hrs)
    have ec : cCall G_checked (cCons (cK (fnD (Str.ofString "check_duel"))) (cCons (cB1 tupD (cL (cLc [2] (cIt (cSl (cVarC 1) (cO (cK (.int 1))) cO0)) (gNm 2) cYes (cB1 tupD (cL (cLc [3] (cIt (cVar 2)) (gNm 3) cYes (cCall G_read_ratio (cCons (cVar 3) cNil)))))))) cNil)) [.sh (.str x), .sh (rowsD ((Str.ofString "duel" :: us) :: rest)), .un, .un] = oR 2 id (if chkU rs then some (duelD rs) else none) := by
      show (cCons _ _ _).bind G_checked = _
      rw [ev_cons (x := fnD (Str.ofString "check_duel")) rfl (ev_cons (x := duelD rs) e3 rfl)]
      exact ck
    show _ = oR 2 duelD (if chkU rs then some rs else none)
    cases hb : chkU rs with
    | false => rw [hb] at ec; exact ex_run rfl (ev_seq s1 (ev_seq (ev_ex e2) (ev_seq (ev_iff t1 rfl) (ex_ret ec))))
    | true => rw [hb] at ec; exact ev_run rfl (ev_seq s1 (ev_seq (ev_ex e2) (ev_seq (ev_iff t1 rfl) (ev_ret ec))))
/-! ### claims -/
abbrev plS : Str := Str.ofString "+"
abbrev noneS : Str := Str.ofString "none"
theorem tl_pl : TL.tl plS = [43] := by decide +kernel
theorem len_pl : plS.length = 1 := by decide +kernel
def rdPl (p : Str) : Option (List Nat) := if p = noneS then some [] else mapO numO (Txt.split p plS)
def rdL : List Str → Option Claim
  | [p, rel, t] => (rdPl p).bind fun ps => (rdR t).bind fun q => some (ps, rel, q)
  | _ => none
def rdCls (x : Str) : Option (Nat × List Claim) := (rowsO x).bind fun rows => (frontO rows (Str.ofString "events") 2).bind fun us => (numO (us.headD emS)).bind fun m =>
  (mapO rdL rows.tail).bind fun cs => if chkL m cs then some (m, cs) else none
/-- the rows' words are short -/
def Thin (x : Str) : Prop := ∀ rows, rowsO x = some rows → ∀ ws ∈ rows, ∀ w ∈ ws, w.length ≤ 120
def placesT (ps : List Nat) : Str := if ps = [] then noneS else Txt.join plS (ps.map numS)
theorem numS_len (n : Nat) : 1 ≤ (numS n).length := by
  rw [TL.len_tl, TL.tl_num]
  exact List.length_pos_iff.mpr (TL.numL_ne n)
theorem sum_ge : ∀ ps : List Nat, ps.length ≤ ((ps.map numS).map (fun w => (TL.tl w).length)).sum
  | [] => Nat.le_refl _
  | p :: ps => by
    simp only [List.map_cons, List.sum_cons, List.length_cons]
    have := sum_ge ps
    have h := numS_len p
    rw [TL.len_tl] at h
    omega
theorem rdPl_inv {p : Str} {ps : List Nat} (g : Good p) (hl : p.length ≤ 120) (h : rdPl p = some ps) : placesT ps = p ∧ ps.length < 64 ∧ ∀ n ∈ ps, n < 1000 := by
  unfold rdPl at h
  split at h
  · rename_i q
    cases h
    exact ⟨q.symm, by decide, fun n m => nomatch m⟩
  · obtain ⟨e1, e2⟩ := mapO_inv (t := numS) (P := (· < 1000)) h fun w m y hy => numO_inv hy
    have hne : Txt.split p plS ≠ [] := (good_part tl_pl g).2.2
    have hp : ps ≠ [] := fun e => by rw [e] at e1; exact hne e1.symm
    have ej : Txt.join plS (ps.map numS) = p := by rw [e1, split_back]
    refine ⟨by unfold placesT; rw [if_neg hp, ej], ?_, e2⟩
    have := joinL_sum (TL.tl plS) ((ps.map numS).map TL.tl) (by simpa using hp)
    rw [← TL.tl_join, ← TL.join_eq, ej, ← TL.len_tl, List.map_map, List.length_map, List.length_map, tl_pl] at this
    have h2 := sum_ge ps
    rw [List.map_map] at h2
    have e3 : ((ps.map numS).map (List.length ∘ TL.tl)).sum = (ps.map ((fun w => (TL.tl w).length) ∘ numS)).sum := by rw [List.map_map]; rfl
    rw [e3] at this
    simp only [List.length_cons, List.length_nil, Nat.mul_one] at this
    omega
theorem rdL_ok {words : List Str} {c : Claim} (hr : Row words) (ht : ∀ w ∈ words, w.length ≤ 120) (h : rdL words = some c) : ClaimOk c ∧ [placesT c.1, c.2.1, ratT c.2.2] = words ∧ Good c.2.1 ∧ ∀ n ∈ c.1, n < 1000 := by
  match words, h with
  | [p, rel, t], h =>
    obtain ⟨ps, h1, h⟩ := Option.bind_eq_some_iff.mp h
    obtain ⟨q, h2, h⟩ := Option.bind_eq_some_iff.mp h
    cases h
    have gp : Good p := (hr.2.2 p (by simp)).1
    have grl : Good rel := (hr.2.2 rel (by simp)).1
    have gt : Good t := (hr.2.2 t (by simp)).1
    obtain ⟨a1, a2, a3⟩ := rdPl_inv gp (ht p (by simp)) h1
    obtain ⟨b1, b2⟩ := (rr gt).2 q h2
    refine ⟨⟨a2, grl.1, b2⟩, ?_, grl, a3⟩
    show [placesT ps, rel, ratT q] = _
    rw [a1, b1]
abbrev R8 (a b c d e f g h : Sl) : Rho := [a, b, c, d, e, f, g, h]
theorem cls_ok {x : Str} (hk : PyData.strOk x = true) (hl : x.length ≤ 1000000) (ht : Thin x) : G_read_claims [.str x] = oR 2 (fun v => claimsD v.1 v.2) (rdCls x) := by
  have e1 : cCall G_rows_of (cCons (cVar 0) cNil) (startR 8 [.str x]) = oR 2 rowsD (rowsO x) := callO rfl (rows_ok hk hl)
  unfold rdCls
  cases h1 : rowsO x with
  | none => rw [h1] at e1; exact ex_run rfl (ex_seq (ex_set e1))
  | some rows =>
  rw [h1] at e1
  obtain ⟨_, _, hrl, hrows⟩ := rowsO_inv hk h1
  have hthin := ht rows h1
  show _ = oR 2 _ ((frontO rows (Str.ofString "events") 2).bind _)
  have s1 : sSet 1 (cCall G_rows_of (cCons (cVar 0) cNil)) (startR 8 [.str x]) = .nx (R8 (.sh (.str x)) (.sh (rowsD rows)) .un .un .un .un .un .un) := ev_set e1
  have e2 : cCall G_front (cCons (cVar 1) (cCons (cK (.str (Str.ofString "events"))) (cCons (cK (.int 2)) cNil))) (R8 (.sh (.str x)) (.sh (rowsD rows)) .un .un .un .un .un .un) = oR 2 strsD (frontO rows (Str.ofString "events") 2) := front_ok (many := 2) hrows (by decide +kernel)
  cases h2 : frontO rows (Str.ofString "events") 2 with
  | none => rw [h2] at e2; exact ex_run rfl (ev_seq s1 (ex_seq (ex_set (ex_calla (ex_cons (ex_b2 e2))))))
  | some us =>
  rw [h2] at e2
  obtain ⟨rest, er, hu⟩ := frontO_inv h2
  obtain ⟨u, rfl⟩ : ∃ u, us = [u] := by
    match us, hu with
    | [u], _ => exact ⟨u, rfl⟩
  subst er
  have gu : Good u := ((hrows _ List.mem_cons_self).2.2 u (by simp)).1
  show _ = oR 2 _ ((numO u).bind _)
  have e3 : cCall G_number_of (cCons (cB2 ixD (cCall G_front (cCons (cVar 1) (cCons (cK (.str (Str.ofString "events"))) (cCons (cK (.int 2)) cNil)))) (cK (.int 0))) cNil) (R8 (.sh (.str x)) (.sh (rowsD ((Str.ofString "events" :: [u]) :: rest))) .un .un .un .un .un .un) = oR 2 natD (numO u) := callO (x := .str u) (ev_b2 (x := strsD [u]) (y := .int 0) e2 rfl (ix_l 0 rfl rfl)) (num_ok gu.1 gu.2)
  cases h3 : numO u with
  | none => rw [h3] at e3; exact ex_run rfl (ev_seq s1 (ex_seq (ex_set e3)))
  | some w =>
  rw [h3] at e3
  show _ = oR 2 _ ((mapO rdL rest).bind _)
  have s2 := ev_set (i := 2) e3
  have hrest : ∀ ws ∈ rest, Row ws := fun ws m => hrows ws (List.mem_cons_of_mem _ m)
  have hn : rest.length ≤ 60000 := by simp only [List.length_cons] at hrl; omega
  have loop := for_o (A := gNm 4) (F := sSeq (sIf (cT2 neD (cB1 lenD (cVarC 4)) (cK (.int 3))) (sRaise 2) sNil)
    (sSeq (sSet 6 (cIf (cT2 eqD (cB2 ixD (cVarC 4) (cK (.int 0))) (cK (.str (Str.ofString "none")))) (cTup cNil) (cB1 tupD (cL (cLc [7] (cIt (cL (cM1F splitD (cB2 ixD (cVarC 4) (cK (.int 0))) (cK (.str (Str.ofString "+")))))) (gNm 7) cYes (cCall G_number_of (cCons (cVar 7) cNil)))))))
    (sApp 3 (cTup (cCons (cVar 6) (cCons (cB2 ixD (cVarC 4) (cK (.int 1))) (cCons (cCall G_read_ratio (cCons (cB2 ixD (cVarC 4) (cK (.int 2))) cNil)) cNil))))))) (k := 2) (N := rest.length) (e := wsD) (q := rdL)
    (fun acc r => ∃ a b c, r = R8 (.sh (.str x)) (.sh (rowsD ((Str.ofString "events" :: [u]) :: rest))) (.sh (natD w)) (.ow (acc.map claimD)) a .un b c ∧ noOw [c] [0] = true) rest [] (R8 (.sh (.str x)) (.sh (rowsD ((Str.ofString "events" :: [u]) :: rest))) (.sh (natD w)) (.ow []) .un .un .un .un) ⟨_, _, _, rfl, rfl⟩ (by simp) fun words mw acc r hacc hI => by
      obtain ⟨a, b, c, rfl, hno⟩ := hI
      have hw := hrest words mw
      have hwt := hthin words (List.mem_cons_of_mem _ mw)
      refine ⟨R8 (.sh (.str x)) (.sh (rowsD ((Str.ofString "events" :: [u]) :: rest))) (.sh (natD w)) (.ow (acc.map claimD)) (.sh (wsD words)) .un b c, rfl, ?_⟩
      have t1 : cT2 neD (cB1 lenD (cVarC 4)) (cK (.int 3)) (R8 (.sh (.str x)) (.sh (rowsD ((Str.ofString "events" :: [u]) :: rest))) (.sh (natD w)) (.ow (acc.map claimD)) (.sh (wsD words)) .un b c) = .ok (!decide (words.length = 3)) := by
        refine ev_t2 (x := .int (words.length : Nat)) (y := .int 3) (ev_b1 (x := wsD words) rfl ?_) rfl ?_
        · show R.ok (PyData.int ((words.map PyData.str).length : Nat)) = _
          rw [List.length_map]
        · show (if SeqAt.shaped (.int _) && SeqAt.shaped (.int _) then R.ok (!PyData.eqv (.int (words.length : Nat)) (.int 3)) else .no) = _
          have s : ∀ n : Int, SeqAt.shaped (.int n) = true := fun n => rfl
          rw [s, s]
          have e : PyData.eqv (.int (words.length : Nat)) (.int 3) = decide (words.length = 3) := by
            simp only [PyData.eqv]
            rw [Bool.eq_iff_iff, beq_iff_eq, decide_eq_true_eq]
            omega
          rw [e]
          rfl
      by_cases c3 : words.length = 3
      case neg =>
        rw [decide_eq_false c3] at t1
        have e : rdL words = none := by
          unfold rdL
          split
          · exact absurd rfl c3
          · rfl
        rw [e]
        exact ⟨_, ex_seq (ev_ift t1 rfl)⟩
      rw [decide_eq_true c3] at t1
      obtain ⟨p, rel, t, rfl⟩ : ∃ p rel t, words = [p, rel, t] := by
        match words, c3 with
        | [p, rel, t], _ => exact ⟨p, rel, t, rfl⟩
      have gp : Good p := (hw.2.2 p (by simp)).1
      have gt : Good t := (hw.2.2 t (by simp)).1
      have f0 : cB2 ixD (cVarC 4) (cK (.int 0)) (R8 (.sh (.str x)) (.sh (rowsD ((Str.ofString "events" :: [u]) :: rest))) (.sh (natD w)) (.ow (acc.map claimD)) (.sh (wsD [p, rel, t])) .un b c) = .ok (.str p) := ev_b2 (x := wsD [p, rel, t]) (y := .int 0) rfl rfl (ix_l 0 rfl rfl)
      have t2 : cT2 eqD (cB2 ixD (cVarC 4) (cK (.int 0))) (cK (.str (Str.ofString "none"))) (R8 (.sh (.str x)) (.sh (rowsD ((Str.ofString "events" :: [u]) :: rest))) (.sh (natD w)) (.ow (acc.map claimD)) (.sh (wsD [p, rel, t])) .un b c) = .ok (p == noneS) := ev_t2 f0 rfl (eqD_str gp.1 (by decide +kernel))
      have e5 : cIf (cT2 eqD (cB2 ixD (cVarC 4) (cK (.int 0))) (cK (.str (Str.ofString "none")))) (cTup cNil) (cB1 tupD (cL (cLc [7] (cIt (cL (cM1F splitD (cB2 ixD (cVarC 4) (cK (.int 0))) (cK (.str (Str.ofString "+")))))) (gNm 7) cYes (cCall G_number_of (cCons (cVar 7) cNil))))) (R8 (.sh (.str x)) (.sh (rowsD ((Str.ofString "events" :: [u]) :: rest))) (.sh (natD w)) (.ow (acc.map claimD)) (.sh (wsD [p, rel, t])) .un b c) = oR 2 plD (rdPl p) := by
        unfold rdPl
        by_cases cn : p = noneS
        · rw [if_pos cn]
          rw [beq_iff_eq.mpr cn] at t2
          exact ev_cift t2 rfl
        · rw [if_neg cn]
          rw [beq_eq_false_iff_ne.mpr cn] at t2
          obtain ⟨k1, k2, _⟩ := good_part tl_pl gp
          have e : cB1 tupD (cL (cLc [7] (cIt (cL (cM1F splitD (cB2 ixD (cVarC 4) (cK (.int 0))) (cK (.str (Str.ofString "+")))))) (gNm 7) cYes (cCall G_number_of (cCons (cVar 7) cNil)))) (R8 (.sh (.str x)) (.sh (rowsD ((Str.ofString "events" :: [u]) :: rest))) (.sh (natD w)) (.ow (acc.map claimD)) (.sh (wsD [p, rel, t])) .un b c) = oR 2 plD (mapO numO (Txt.split p plS)) :=
            tup_o (ev_lco (xs := Txt.split p plS) (e := .str) (q := numO) (gg := natD) (by cases c <;> first | rfl | exact hno) (ev_it (x := .list ((Txt.split p plS).map .str)) (ev_l (ev_m1F (a := p) f0 rfl (splitD_good len_pl gp))) rfl) (small (by omega)) fun v m => ⟨_, rfl, rfl, callO (x := .str v) rfl (num_ok (k1 v m).1 (k1 v m).2)⟩)
          show (cT2 eqD _ _ _).bind _ = _
          rw [t2]
          exact e
      rw [show rdL [p, rel, t] = (rdPl p).bind fun ps => (rdR t).bind fun q => some (ps, rel, q) from rfl]
      cases h5 : rdPl p with
      | none => rw [h5] at e5; exact ⟨_, ev_seq (ev_iff t1 rfl) (ex_seq (ex_set e5))⟩
      | some ps =>
      rw [h5] at e5
      rw [show (some ps).bind (fun ps => (rdR t).bind fun q => some (ps, rel, q)) = (rdR t).bind fun q => some (ps, rel, q) from rfl]
      have s5 := ev_set (i := 6) e5
      have e6 : cCall G_read_ratio (cCons (cB2 ixD (cVarC 4) (cK (.int 2))) cNil) (R8 (.sh (.str x)) (.sh (rowsD ((Str.ofString "events" :: [u]) :: rest))) (.sh (natD w)) (.ow (acc.map claimD)) (.sh (wsD [p, rel, t])) .un (.sh (plD ps)) c) = oR 2 ratD (rdR t) := callO (x := .str t) (ev_b2 (x := wsD [p, rel, t]) (y := .int 2) rfl rfl (ix_l 2 rfl rfl)) (rr gt).1
      have e7 : cB2 ixD (cVarC 4) (cK (.int 1)) (R8 (.sh (.str x)) (.sh (rowsD ((Str.ofString "events" :: [u]) :: rest))) (.sh (natD w)) (.ow (acc.map claimD)) (.sh (wsD [p, rel, t])) .un (.sh (plD ps)) c) = .ok (.str rel) := ev_b2 (x := wsD [p, rel, t]) (y := .int 1) rfl rfl (ix_l 1 rfl rfl)
      cases h6 : rdR t with
      | none => rw [h6] at e6; exact ⟨_, ev_seq (ev_iff t1 rfl) (ev_seq s5 (ex_app (ds := acc.map claimD) rfl (ex_tup (ex_consr (x := plD ps) rfl (ex_consr e7 (ex_cons e6))))))⟩
      | some q =>
      rw [h6] at e6
      refine ⟨_, ev_seq (ev_iff t1 rfl) (ev_seq s5 (ev_app (ds := acc.map claimD) (d := claimD (ps, rel, q)) rfl (ev_tup (ev_cons (x := plD ps) rfl (ev_cons e7 (ev_cons e6 rfl))) (small (Nat.le_of_ble_eq_true rfl))) (by rw [List.length_map]; have : sizeLine = 16777216 := rfl; omega))), .sh (wsD [p, rel, t]), .sh (plD ps), c, ?_, hno⟩
      rw [List.map_append]
      rfl
  have s3 : sOwn 3 (cLst cNil) (R8 (.sh (.str x)) (.sh (rowsD ((Str.ofString "events" :: [u]) :: rest))) (.sh (natD w)) .un .un .un .un .un) = .nx (R8 (.sh (.str x)) (.sh (rowsD ((Str.ofString "events" :: [u]) :: rest))) (.sh (natD w)) (.ow []) .un .un .un .un) := ev_own rfl (Nat.le_of_ble_eq_true rfl)
  have hit : cIt (cSl (cVarC 1) (cO (cK (.int 1))) cO0) (R8 (.sh (.str x)) (.sh (rowsD ((Str.ofString "events" :: [u]) :: rest))) (.sh (natD w)) (.ow []) .un .un .un .un) = .ok (rest.map wsD) := ev_it (x := .list (rest.map wsD)) (ev_sl (x := rowsD ((Str.ofString "events" :: [u]) :: rest)) (lo := some 1) (hi := none) rfl rfl rfl cut_tail) rfl
  cases h4 : mapO rdL rest with
  | none =>
    rw [h4] at loop
    obtain ⟨r', loop⟩ := loop
    exact ex_run rfl (ev_seq s1 (ev_seq s2 (ev_seq s3 (ex_seq (sfor_of hit loop)))))
  | some cs =>
    rw [h4] at loop
    obtain ⟨r', loop, a, b, c, rfl, _⟩ := loop
    have hcs : ∀ c ∈ cs, ClaimOk c := (mapO_inv (t := fun c : Claim => [placesT c.1, c.2.1, ratT c.2.2]) (P := ClaimOk) h4 fun ws m y hy => ⟨(rdL_ok (hrest ws m) (hthin ws (List.mem_cons_of_mem _ m)) hy).2.1, (rdL_ok (hrest ws m) (hthin ws (List.mem_cons_of_mem _ m)) hy).1⟩).2
    have hlen := (mapO_some h4).1
    have ck := check_cls (chkL_ok (m := w) hcs (by omega))
    have s4 : sSet 5 (cTup (cCons (cVar 2) (cCons (cB1 tupD (cVarC 3)) cNil))) (R8 (.sh (.str x)) (.sh (rowsD ((Str.ofString "events" :: [u]) :: rest))) (.sh (natD w)) (.ow (([] ++ cs).map claimD)) a .un b c) = .nx (R8 (.sh (.str x)) (.sh (rowsD ((Str.ofString "events" :: [u]) :: rest))) (.sh (natD w)) (.ow (([] ++ cs).map claimD)) a (.sh (claimsD w cs)) b c) := ev_set (ev_tup (ds := [natD w, claimsT cs]) rfl (small (Nat.le_of_ble_eq_true rfl)))
    have ec : cCall G_checked (cCons (cK (.dict [(.none, .none)])) (cCons (cVar 5) cNil)) (R8 (.sh (.str x)) (.sh (rowsD ((Str.ofString "events" :: [u]) :: rest))) (.sh (natD w)) (.ow (([] ++ cs).map claimD)) a (.sh (claimsD w cs)) b c) = oR 2 id (if chkL w cs then some (claimsD w cs) else none) := by
      show (cCons _ _ _).bind G_checked = _
      rw [ev_cons (x := .dict [(.none, .none)]) rfl (ev_cons (x := claimsD w cs) rfl rfl)]
      exact ck
    show _ = oR 2 (fun v : Nat × List Claim => claimsD v.1 v.2) (if chkL w cs then some (w, cs) else none)
    cases hb : chkL w cs with
    | false => rw [hb] at ec; exact ex_run rfl (ev_seq s1 (ev_seq s2 (ev_seq s3 (ev_seq (sfor_of hit loop) (ev_seq s4 (ex_ret ec))))))
    | true => rw [hb] at ec; exact ev_run rfl (ev_seq s1 (ev_seq s2 (ev_seq s3 (ev_seq (sfor_of hit loop) (ev_seq s4 (ev_ret ec))))))
end K95


set_option Elab.async false
set_option linter.all false
set_option maxRecDepth 100000
set_option maxHeartbeats 4000000
/-! The texts. -/
namespace K95
open PySem PySem.Spec PyProof.Rows L2 Z
theorem page_end {i j : Nat} {r : Rho} {ls : List Str} (h : r[i]? = some (.ow (ls.map .str))) (hno : noOw (r.set i (.sh (.list (ls.map .str)))) [j] = true) (hv : cVar i (r.set i (.sh (.list (ls.map .str)))) = .ok (.list (ls.map .str)))
    (hj : cVarC j ((wipeR (r.set i (.sh (.list (ls.map .str)))) [j]).set j (.sh .none)) = .ok .none) (hl : (pageT ls).length ≤ 1000000) :
    sRel i (sRet (cM1 joinD (cK (.str (Str.ofString ""))) (cL (cLc [j] (cIt (cVar i)) (gNm j) cYes (cB2 addD (cVarC j) (cK (.str (Str.ofString "\n")))))))) r = .rt (.str (pageT ls)) (r.set i (.sh (.list (ls.map .str)))) := by
  refine ev_rel h (ev_ret (ev_m1 (a := emS) rfl (ev_l ?_) (joinD_ok (y := emS) (ws := ls.map (· ++ nlS)) (by rw [len_em]; omega) hl)))
  rw [List.map_map]
  have hb : j < (wipeR (r.set i (.sh (.list (ls.map .str)))) [j]).length := by
    unfold cVarC at hj
    by_cases c : j < (wipeR (r.set i (.sh (.list (ls.map .str)))) [j]).length
    · exact c
    · rw [List.getElem?_eq_none (by simp only [List.length_set] at c ⊢; omega)] at hj
      cases hj
  have hn : ls.length ≤ (pageT ls).length := by
    rw [TL.len_tl, tl_page]
    clear hl h hno hv hj hb
    induction ls with
    | nil => simp
    | cons l ls ih => simp only [List.map_cons, List.flatten_cons, List.length_append, List.length_cons, List.length_nil]; omega
  refine ev_lcm (xs := ls) (e := .str) hno (ev_it hv rfl) (small (by omega)) fun l m => ⟨_, rfl, rfl, ev_b2 (x := .str l) (y := .str nlS) ?_ rfl (addD_str (by rw [len_nl]; exact small (by have := line_le m; omega)))⟩
  unfold cVarC
  rw [List.getElem?_set_self hb]
/-! ### the pages -/
abbrev unS : Str := Str.ofString "unknowns"
abbrev evS : Str := Str.ofString "events"
abbrev duS : Str := Str.ofString "duel"
def condW (c : Cond) : List Str := c.1.map ratT ++ [c.2.1, ratT c.2.2]
def claimW (c : Claim) : List Str := [placesT c.1, c.2.1, ratT c.2.2]
def sysW (w : Nat) (cs : List Cond) : List (List Str) := [unS, numS w] :: cs.map condW
def duelW (rows : List (List Q)) : List (List Str) := [duS] :: rows.map fun row => row.map ratT
def clsW (m : Nat) (cs : List Claim) : List (List Str) := [evS, numS m] :: cs.map claimW
def pg (rows : List (List Str)) : Str := pageT (rows.map line)
theorem line_two (a b : Str) : line [a, b] = a ++ (sepS ++ b) := by rw [line_cons (by simp), line_one]
theorem head_un (n : Nat) : Str.ofString "unknowns " ++ numS n = line [unS, numS n] := by
  rw [line_two]
  exact TL.ext_tl (by rw [TL.tl_append, TL.tl_append, TL.tl_append, ← List.append_assoc]; congr 1)
theorem head_ev (n : Nat) : Str.ofString "events " ++ numS n = line [evS, numS n] := by
  rw [line_two]
  exact TL.ext_tl (by rw [TL.tl_append, TL.tl_append, TL.tl_append, ← List.append_assoc]; congr 1)
theorem pg_line {rows : List (List Str)} {ws : List Str} (h : ws ∈ rows) : (line ws).length ≤ (pg rows).length := by
  have := line_le (List.mem_map_of_mem (f := line) h)
  unfold pg
  omega
theorem part_call {j : Nat} {r : Rho} {p : Q} (h : cVar j r = .ok (ratD p)) (s : SmQ p) : cCall G__law_part (cCons (cVar j) cNil) r = .ok (.str (ratT p)) := callO h (part_ok s)
theorem text_call {j : Nat} {r : Rho} {p : Q} (h : cVar j r = .ok (ratD p)) (s : SmQ p) : cCall G_ratio_text (cCons (cVar j) cNil) r = .ok (.str (ratT p)) := callO h (text_ok s)
theorem numS_short {n : Nat} (h : n < 1000) : (numS n).length ≤ 100 := (wd_num h).2.1
/-! systems -/
abbrev R10 (a b c d e f g h i j : Sl) : Rho := [a, b, c, d, e, f, g, h, i, j]
structure SysOk (w : Nat) (cs : List Cond) : Prop where
  hw : w < 1000
  hc : ∀ c ∈ cs, CondOk c ∧ c.1 ≠ []
  hn : cs.length ≤ 60001
  hp : (pg (sysW w cs)).length ≤ 60000
theorem ltext_sys {w : Nat} {cs : List Cond} (h : SysOk w cs) : G__law_text [.int 0, sysD (w : Nat) cs] = .ok (.str (pg (sysW w cs))) := by
  have t0 : cT2 eqD (cVarC 0) (cK (.int 0)) (startR 10 [.int 0, sysD (w : Nat) cs]) = .ok true := ev_t2 (x := .int 0) (y := .int 0) rfl rfl (eq_int rfl)
  have s1 : sOwn 2 (cLst (cCons (cB2 addD (cK (.str (Str.ofString "unknowns "))) (cB1 strD (cB2 ixD (cVarC 1) (cK (.int 0))))) cNil)) (startR 10 [.int 0, sysD (w : Nat) cs]) = .nx (R10 (.sh (.int 0)) (.sh (sysD (w : Nat) cs)) (.ow [.str (line [unS, numS w])]) .un .un .un .un .un .un .un) := by
    refine ev_own (ev_lst (ev_cons (ev_b2 (x := .str (Str.ofString "unknowns ")) rfl (ev_b1 (ev_b2 (x := sysD (w : Nat) cs) (y := .int 0) rfl rfl (ix_t (d := .int (w : Nat)) 0 rfl rfl)) (strD_num (by have := h.hw; omega))) ?_) rfl) (small (Nat.le_of_ble_eq_true rfl))) (Nat.le_of_ble_eq_true rfl)
    rw [addD_str, head_un]
    have := numS_short h.hw
    have e : (Str.ofString "unknowns ").length = 9 := by decide +kernel
    rw [e]
    exact small (by omega)
  have s2 : sOwn 2 (cCat (cVarC 2) (cL (cLc [6, 4, 7] (cIt (cB2 ixD (cVarC 1) (cK (.int 1)))) (gTp (gsCons (gNm 6) (gsCons (gNm 4) (gsCons (gNm 7) gsNil)))) cYes (cM1 joinD (cK (.str (Str.ofString " "))) (cB2 addD (cL (cLc [8] (cIt (cVar 6)) (gNm 8) cYes (cCall G__law_part (cCons (cVar 8) cNil)))) (cL (cLst (cCons (cVar 4) (cCons (cCall G__law_part (cCons (cVar 7) cNil)) cNil))))))))) (R10 (.sh (.int 0)) (.sh (sysD (w : Nat) cs)) (.ow [.str (line [unS, numS w])]) .un .un .un .un .un .un .un) =
      .nx (R10 (.sh (.int 0)) (.sh (sysD (w : Nat) cs)) (.ow (((sysW w cs).map line).map .str)) .un .un .un .un .un .un .un) := by
    have e : ((sysW w cs).map line).map PyData.str = [.str (line [unS, numS w])] ++ cs.map fun c => .str (line (condW c)) := by
      unfold sysW
      rw [List.map_cons, List.map_cons, List.map_map, List.map_map]
      rfl
    rw [e]
    refine ev_own (ev_cat (xs := [.str (line [unS, numS w])]) rfl (ev_l (ev_lcm (xs := cs) (e := condD) rfl (ev_it (x := .tuple (cs.map condD)) (ev_b2 (x := sysD (w : Nat) cs) (y := .int 1) rfl rfl (ix_t 1 rfl rfl)) rfl) (small (by have := h.hn; omega)) fun c m => ⟨R10 (.sh (.int 0)) (.sh (sysD (w : Nat) cs)) (.ow [.str (line [unS, numS w])]) .un (.sh (.str c.2.1)) .un (.sh (rowD c.1)) (.sh (ratD c.2.2)) .un .un, rfl, rfl, ?_⟩)) (small (by rw [List.length_map]; have := h.hn; simp only [List.length_cons, List.length_nil]; omega))) (Nat.le_of_ble_eq_true rfl)
    obtain ⟨h1, h2, h3, h4⟩ := (h.hc c m).1
    refine ev_m1 (a := sepS) rfl (ev_b2 (x := .list ((c.1.map ratT).map .str)) (y := .list [.str c.2.1, .str (ratT c.2.2)]) (ev_l ?_) (ev_l (ev_lst (ev_cons (x := .str c.2.1) rfl (ev_cons (part_call rfl h4) rfl)) (small (Nat.le_of_ble_eq_true rfl)))) (addD_list (small (by simp only [List.length_map, List.length_cons, List.length_nil]; omega)))) ?_
    · rw [List.map_map]
      exact ev_lcm (xs := c.1) (e := ratD) rfl (ev_it (x := rowD c.1) rfl rfl) (small (by omega)) fun p mp => ⟨_, rfl, rfl, part_call rfl (h2 p mp)⟩
    · have e2 : (c.1.map ratT).map PyData.str ++ [.str c.2.1, .str (ratT c.2.2)] = (condW c).map .str := by
        unfold condW
        rw [List.map_append]
        rfl
      rw [e2]
      exact joinD_ok (by rw [len_sp]; omega) (by have := pg_line (rows := sysW w cs) (ws := condW c) (List.mem_cons_of_mem _ (List.mem_map_of_mem m)); have := h.hp; show (line (condW c)).length ≤ 1000000; omega)
  exact ev_run rfl (ev_seq (ev_ift t0 (ev_seq s1 s2)) (page_end rfl rfl rfl rfl (by have := h.hp; show (pg (sysW w cs)).length ≤ 1000000; omega)))
theorem rowt_ok {row : List Q} (hq : ∀ p ∈ row, SmQ p) (hn : row.length ≤ 60001) (hl : (line (row.map ratT)).length ≤ 1000000) : G_row_text [rowD row] = .ok (.str (line (row.map ratT))) := by
  refine ev_run rfl (ev_ret (ev_m1 (a := sepS) rfl (ev_l ?_) (joinD_ok (y := sepS) (ws := row.map ratT) (by rw [len_sp]; omega) hl)))
  rw [List.map_map]
  exact ev_lcm (xs := row) (e := ratD) rfl (ev_it (x := rowD row) rfl rfl) (small (by omega)) fun p mp => ⟨_, rfl, rfl, text_call rfl (hq p mp)⟩
theorem cond_line {c : Cond} (h : c.1 ≠ []) : line (c.1.map ratT) ++ sepS ++ c.2.1 ++ sepS ++ ratT c.2.2 = line (condW c) := by
  unfold condW
  rw [line_append (by simpa using h) (by simp), line_two]
  exact TL.ext_tl (by simp only [TL.tl_append, List.append_assoc])
theorem wtext_sys {w : Nat} {cs : List Cond} (h : SysOk w cs) (hk : chkS (w : Nat) cs = true) : G_system_text [sysD (w : Nat) cs] = .ok (.str (pg (sysW w cs))) := by
  have c0 : sEx (cCall G_check_system (cCons (cVar 0) cNil)) (startR 7 [sysD (w : Nat) cs]) = .nx (startR 7 [sysD (w : Nat) cs]) := ev_ex (d := .none) (callO rfl (by rw [chkS_ok (fun c m => (h.hc c m).1) h.hn, hk]; rfl))
  have a0 : sAsg (gTp (gsCons (gNm 2) (gsCons (gNm 3) gsNil))) (cVar 0) (startR 7 [sysD (w : Nat) cs]) = .nx (R7 (.sh (sysD (w : Nat) cs)) .un (.sh (.int (w : Nat))) (.sh (.tuple (cs.map condD))) .un .un .un) := ev_asg (d := sysD (w : Nat) cs) rfl rfl
  have s1 : sOwn 1 (cLst (cCons (cB2 addD (cK (.str (Str.ofString "unknowns "))) (cB1 strD (cVarC 2))) cNil)) (R7 (.sh (sysD (w : Nat) cs)) .un (.sh (.int (w : Nat))) (.sh (.tuple (cs.map condD))) .un .un .un) = .nx (R7 (.sh (sysD (w : Nat) cs)) (.ow [.str (line [unS, numS w])]) (.sh (.int (w : Nat))) (.sh (.tuple (cs.map condD))) .un .un .un) := by
    refine ev_own (ev_lst (ev_cons (ev_b2 (x := .str (Str.ofString "unknowns ")) rfl (ev_b1 (x := .int (w : Nat)) rfl (strD_num (by have := h.hw; omega))) ?_) rfl) (small (Nat.le_of_ble_eq_true rfl))) (Nat.le_of_ble_eq_true rfl)
    rw [addD_str, head_un]
    have := numS_short h.hw
    have e : (Str.ofString "unknowns ").length = 9 := by decide +kernel
    rw [e]
    exact small (by omega)
  have s2 : xsExt 1 (cLc [4, 5, 6] (cIt (cVar 3)) (gTp (gsCons (gNm 4) (gsCons (gNm 5) (gsCons (gNm 6) gsNil)))) cYes (cB2 addD (cB2 addD (cB2 addD (cB2 addD (cCall G_row_text (cCons (cVar 4) cNil)) (cK (.str (Str.ofString " ")))) (cVarC 5)) (cK (.str (Str.ofString " ")))) (cCall G_ratio_text (cCons (cVar 6) cNil)))) (R7 (.sh (sysD (w : Nat) cs)) (.ow [.str (line [unS, numS w])]) (.sh (.int (w : Nat))) (.sh (.tuple (cs.map condD))) .un .un .un) =
      .nx (R7 (.sh (sysD (w : Nat) cs)) (.ow (((sysW w cs).map line).map .str)) (.sh (.int (w : Nat))) (.sh (.tuple (cs.map condD))) .un .un .un) := by
    have e : ((sysW w cs).map line).map PyData.str = [.str (line [unS, numS w])] ++ cs.map fun c => .str (line (condW c)) := by
      unfold sysW
      rw [List.map_cons, List.map_cons, List.map_map, List.map_map]
      rfl
    rw [e]
    refine ev_ext (ds := [.str (line [unS, numS w])]) rfl (ev_lcm (xs := cs) (e := condD) rfl (ev_it (x := .tuple (cs.map condD)) rfl rfl) (small (by have := h.hn; omega)) fun c m => ⟨R7 (.sh (sysD (w : Nat) cs)) (.ow [.str (line [unS, numS w])]) (.sh (.int (w : Nat))) (.sh (.tuple (cs.map condD))) (.sh (rowD c.1)) (.sh (.str c.2.1)) (.sh (ratD c.2.2)), rfl, rfl, ?_⟩) (small (by rw [List.length_map]; have := h.hn; simp only [List.length_cons, List.length_nil]; omega))
    obtain ⟨⟨h1, h2, h3, h4⟩, h5⟩ := h.hc c m
    have hl : (line (condW c)).length ≤ 60000 := by
      have := pg_line (rows := sysW w cs) (ws := condW c) (List.mem_cons_of_mem _ (List.mem_map_of_mem m))
      have := h.hp
      omega
    rw [← cond_line h5] at hl ⊢
    simp only [Str.length_append] at hl
    refine ev_b2 (ev_b2 (ev_b2 (ev_b2 (callO (x := rowD c.1) rfl (rowt_ok h2 h1 (by omega))) (y := .str sepS) rfl (addD_str (small (by omega)))) (y := .str c.2.1) rfl (addD_str (small (by simp only [Str.length_append]; omega)))) (y := .str sepS) rfl (addD_str (small (by simp only [Str.length_append]; omega)))) (text_call rfl h4) (addD_str (small (by simp only [Str.length_append]; omega)))
  exact ev_run rfl (ev_seq c0 (ev_seq a0 (ev_seq s1 (ev_seq s2 (page_end rfl rfl rfl rfl (by have := h.hp; show (pg (sysW w cs)).length ≤ 1000000; omega))))))
/-! duels -/
structure DuelOk (rows : List (List Q)) : Prop where
  hc : ∀ row ∈ rows, row.length ≤ 60001 ∧ ∀ p ∈ row, SmQ p
  hn : rows.length ≤ 60001
  hp : (pg (duelW rows)).length ≤ 60000
theorem ltext_duel {rows : List (List Q)} (h : DuelOk rows) : G__law_text [.int 1, duelD rows] = .ok (.str (pg (duelW rows))) := by
  have t0 : cT2 eqD (cVarC 0) (cK (.int 0)) (startR 10 [.int 1, duelD rows]) = .ok false := ev_t2 (x := .int 1) (y := .int 0) rfl rfl (eq_int rfl)
  have t1 : cT2 eqD (cVarC 0) (cK (.int 1)) (startR 10 [.int 1, duelD rows]) = .ok true := ev_t2 (x := .int 1) (y := .int 1) rfl rfl (eq_int rfl)
  have s2 : sOwn 2 (cCat (cL (cLst (cCons (cK (.str (Str.ofString "duel"))) cNil))) (cL (cLc [6] (cIt (cVar 1)) (gNm 6) cYes (cM1 joinD (cK (.str (Str.ofString " "))) (cL (cLc [8] (cIt (cVar 6)) (gNm 8) cYes (cCall G__law_part (cCons (cVar 8) cNil)))))))) (startR 10 [.int 1, duelD rows]) =
      .nx (R10 (.sh (.int 1)) (.sh (duelD rows)) (.ow (((duelW rows).map line).map .str)) .un .un .un .un .un .un .un) := by
    have e : ((duelW rows).map line).map PyData.str = [.str duS] ++ rows.map fun row => .str (line (row.map ratT)) := by
      unfold duelW
      rw [List.map_cons, List.map_cons, List.map_map, List.map_map, line_one]
      rfl
    rw [e]
    refine ev_own (ev_cat (xs := [.str duS]) (ev_l (ev_lst rfl (small (Nat.le_of_ble_eq_true rfl)))) (ev_l (ev_lcm (xs := rows) (e := rowD) rfl (ev_it (x := duelD rows) rfl rfl) (small (by have := h.hn; omega)) fun row m => ⟨R10 (.sh (.int 1)) (.sh (duelD rows)) .un .un .un .un (.sh (rowD row)) .un .un .un, rfl, rfl, ?_⟩)) (small (by rw [List.length_map]; have := h.hn; simp only [List.length_cons, List.length_nil]; omega))) (Nat.le_of_ble_eq_true rfl)
    obtain ⟨h1, h2⟩ := h.hc row m
    refine ev_m1 (a := sepS) (y := .list ((row.map ratT).map .str)) rfl (ev_l ?_) (joinD_ok (by rw [len_sp]; omega) (by have := pg_line (rows := duelW rows) (ws := row.map ratT) (List.mem_cons_of_mem _ (List.mem_map_of_mem (f := fun row : List Q => row.map ratT) m)); have := h.hp; show (line (row.map ratT)).length ≤ 1000000; omega))
    rw [List.map_map]
    exact ev_lcm (xs := row) (e := ratD) rfl (ev_it (x := rowD row) rfl rfl) (small (by omega)) fun p mp => ⟨_, rfl, rfl, part_call rfl (h2 p mp)⟩
  exact ev_run rfl (ev_seq (ev_iff t0 (ev_ift t1 s2)) (page_end rfl rfl rfl rfl (by have := h.hp; show (pg (duelW rows)).length ≤ 1000000; omega)))
theorem wtext_duel {rows : List (List Q)} (h : DuelOk rows) (hk : chkU rows = true) : G_duel_text [duelD rows] = .ok (.str (pg (duelW rows))) := by
  have c0 : sEx (cCall G_check_duel (cCons (cVar 0) cNil)) (startR 3 [duelD rows]) = .nx (startR 3 [duelD rows]) := ev_ex (d := .none) (callO rfl (by rw [chkU_ok h.hn h.hc, hk]; rfl))
  have s1 : sOwn 1 (cLst (cCons (cK (.str (Str.ofString "duel"))) cNil)) (startR 3 [duelD rows]) = .nx [.sh (duelD rows), .ow [.str duS], .un] := ev_own (ev_lst rfl (small (Nat.le_of_ble_eq_true rfl))) (Nat.le_of_ble_eq_true rfl)
  have s2 : xsExt 1 (cLc [2] (cIt (cVar 0)) (gNm 2) cYes (cCall G_row_text (cCons (cVar 2) cNil))) [.sh (duelD rows), .ow [.str duS], .un] = .nx [.sh (duelD rows), .ow (((duelW rows).map line).map .str), .un] := by
    have e : ((duelW rows).map line).map PyData.str = [.str duS] ++ rows.map fun row => .str (line (row.map ratT)) := by
      unfold duelW
      rw [List.map_cons, List.map_cons, List.map_map, List.map_map, line_one]
      rfl
    rw [e]
    refine ev_ext (ds := [.str duS]) rfl (ev_lcm (xs := rows) (e := rowD) rfl (ev_it (x := duelD rows) rfl rfl) (small (by have := h.hn; omega)) fun row m => ⟨_, rfl, rfl, callO (x := rowD row) rfl (rowt_ok (h.hc row m).2 (h.hc row m).1 ?_)⟩) (small (by rw [List.length_map]; have := h.hn; simp only [List.length_cons, List.length_nil]; omega))
    have := pg_line (rows := duelW rows) (ws := row.map ratT) (List.mem_cons_of_mem _ (List.mem_map_of_mem (f := fun row : List Q => row.map ratT) m))
    have := h.hp
    omega
  exact ev_run rfl (ev_seq c0 (ev_seq s1 (ev_seq s2 (page_end rfl rfl rfl rfl (by have := h.hp; show (pg (duelW rows)).length ≤ 1000000; omega)))))
/-! claims -/
structure ClsOk (m : Nat) (cs : List Claim) : Prop where
  hm : m < 1000
  hc : ∀ c ∈ cs, ClaimOk c ∧ ∀ n ∈ c.1, n < 1000
  hn : cs.length ≤ 60001
  hp : (pg (clsW m cs)).length ≤ 60000
theorem claim_line (c : Claim) : placesT c.1 ++ sepS ++ c.2.1 ++ sepS ++ ratT c.2.2 = line (claimW c) := by
  unfold claimW
  rw [line_cons (by simp), line_two]
  exact TL.ext_tl (by simp only [TL.tl_append, List.append_assoc])
/-- the places, joined -/
theorem join_places {i j : Nat} {r : Rho} {ps : List Nat} (hn : noOw r [j] = true) (hv : cVar i r = .ok (plD ps)) (hl : ps.length < 64) (hp : ∀ n ∈ ps, n < 1000) (hj : cVarC j ((wipeR r [j]).set j (.sh .none)) = .ok .none) :
    cM1 joinD (cK (.str (Str.ofString "+"))) (cL (cLc [j] (cIt (cVar i)) (gNm j) cYes (cB1 strD (cVarC j)))) r = .ok (.str (Txt.join plS (ps.map numS))) := by
  have hb : j < (wipeR r [j]).length := by
    unfold cVarC at hj
    by_cases c : j < (wipeR r [j]).length
    · exact c
    · rw [List.getElem?_eq_none (by simp; omega)] at hj
      cases hj
  have hlen : (Txt.join plS (ps.map numS)).length ≤ 1000000 := by
    by_cases e : ps = []
    · subst e; decide +kernel
    have h1 := joinL_sum (TL.tl plS) ((ps.map numS).map TL.tl) (by simpa using e)
    rw [← TL.tl_join, ← TL.join_eq, ← TL.len_tl, List.map_map, List.map_map, List.length_map, List.length_map, tl_pl] at h1
    have h2 : ∀ qs : List Nat, (∀ n ∈ qs, n < 1000) → (qs.map ((List.length ∘ TL.tl) ∘ numS)).sum ≤ 100 * qs.length := by
      intro qs
      induction qs with
      | nil => intro _; simp
      | cons q qs ih =>
        intro h
        have a := numS_short (h q List.mem_cons_self)
        have b := ih fun n m => h n (List.mem_cons_of_mem _ m)
        rw [TL.len_tl] at a
        simp only [List.map_cons, List.sum_cons, List.length_cons, Function.comp] at b ⊢
        omega
    have h3 := h2 ps hp
    have h4 : (Txt.join plS (ps.map numS)).length + 1 = (ps.map ((List.length ∘ TL.tl) ∘ numS)).sum + ps.length * 1 := h1
    omega
  refine ev_m1 (a := plS) (y := .list ((ps.map numS).map .str)) rfl (ev_l ?_) (joinD_ok (by rw [len_pl]; omega) hlen)
  rw [List.map_map]
  refine ev_lcm (xs := ps) (e := natD) hn (ev_it hv rfl) (small (by omega)) fun n m => ⟨_, rfl, rfl, ev_b1 (x := natD n) ?_ (strD_num (by have := hp n m; omega))⟩
  unfold cVarC
  rw [List.getElem?_set_self hb]
theorem len0 {i : Nat} {r : Rho} {ps : List Nat} (h : cVarC i r = .ok (plD ps)) : cT2 eqD (cB1 lenD (cVarC i)) (cK (.int 0)) r = .ok (decide (ps = [])) := by
  refine ev_t2 (x := .int (ps.length : Nat)) (y := .int 0) (ev_b1 h ?_) rfl (eq_int ?_)
  · show R.ok (PyData.int ((ps.map natD).length : Nat)) = _
    rw [List.length_map]
  · rw [Bool.eq_iff_iff, beq_iff_eq, decide_eq_true_eq]
    exact ⟨fun e => by subst e; rfl, fun e => List.length_eq_zero_iff.mp (by omega)⟩
def clsLs (m : Nat) (acc : List Claim) : List D := .str (line [evS, numS m]) :: acc.map fun c => .str (line (claimW c))
theorem clsLs_all (m : Nat) (cs : List Claim) : clsLs m cs = ((clsW m cs).map line).map .str := by
  unfold clsLs clsW
  rw [List.map_cons, List.map_cons, List.map_map, List.map_map]
  rfl
theorem ltext_cls {m : Nat} {cs : List Claim} (h : ClsOk m cs) : G__law_text [.int 2, claimsD m cs] = .ok (.str (pg (clsW m cs))) := by
  have t0 : cT2 eqD (cVarC 0) (cK (.int 0)) (startR 10 [.int 2, claimsD m cs]) = .ok false := ev_t2 (x := .int 2) (y := .int 0) rfl rfl (eq_int rfl)
  have t1 : cT2 eqD (cVarC 0) (cK (.int 1)) (startR 10 [.int 2, claimsD m cs]) = .ok false := ev_t2 (x := .int 2) (y := .int 1) rfl rfl (eq_int rfl)
  have s1 : sOwn 2 (cLst (cCons (cB2 addD (cK (.str (Str.ofString "events "))) (cB1 strD (cB2 ixD (cVarC 1) (cK (.int 0))))) cNil)) (startR 10 [.int 2, claimsD m cs]) = .nx (R10 (.sh (.int 2)) (.sh (claimsD m cs)) (.ow (clsLs m [])) .un .un .un .un .un .un .un) := by
    refine ev_own (ev_lst (ev_cons (ev_b2 (x := .str (Str.ofString "events ")) rfl (ev_b1 (ev_b2 (x := claimsD m cs) (y := .int 0) rfl rfl (ix_t (d := natD m) 0 rfl rfl)) (strD_num (by have := h.hm; omega))) ?_) rfl) (small (Nat.le_of_ble_eq_true rfl))) (Nat.le_of_ble_eq_true rfl)
    rw [addD_str, head_ev]
    have := numS_short h.hm
    have e : (Str.ofString "events ").length = 7 := by decide +kernel
    rw [e]
    exact small (by omega)
  have hit : cIt (cB2 ixD (cVarC 1) (cK (.int 1))) (R10 (.sh (.int 2)) (.sh (claimsD m cs)) (.ow (clsLs m [])) .un .un .un .un .un .un .un) = .ok (cs.map claimD) := ev_it (x := claimsT cs) (ev_b2 (x := claimsD m cs) (y := .int 1) rfl rfl (ix_t 1 rfl rfl)) rfl
  have loop := for_o (A := gTp (gsCons (gNm 3) (gsCons (gNm 4) (gsCons (gNm 5) gsNil)))) (F := sApp 2 (cB2 addD (cB2 addD (cB2 addD (cB2 addD (cB2 ixD (cL (cLst (cCons (cM1 joinD (cK (.str (Str.ofString "+"))) (cL (cLc [9] (cIt (cVar 3)) (gNm 9) cYes (cB1 strD (cVarC 9))))) (cCons (cK (.str (Str.ofString "none"))) cNil)))) (cB1 intD (cBl (cT2 eqD (cB1 lenD (cVarC 3)) (cK (.int 0)))))) (cK (.str (Str.ofString " ")))) (cVarC 4)) (cK (.str (Str.ofString " ")))) (cCall G__law_part (cCons (cVar 5) cNil)))) (k := 2) (N := cs.length) (e := claimD) (q := fun c : Claim => some c)
    (fun acc r => ∃ a b c, r = R10 (.sh (.int 2)) (.sh (claimsD m cs)) (.ow (clsLs m acc)) a b c .un .un .un .un) cs [] (R10 (.sh (.int 2)) (.sh (claimsD m cs)) (.ow (clsLs m [])) .un .un .un .un .un .un .un) ⟨_, _, _, rfl⟩ (by simp) fun c mc acc r hacc hI => by
      obtain ⟨a, b, d, rfl⟩ := hI
      refine ⟨R10 (.sh (.int 2)) (.sh (claimsD m cs)) (.ow (clsLs m acc)) (.sh (plD c.1)) (.sh (.str c.2.1)) (.sh (ratD c.2.2)) .un .un .un .un, rfl, ?_⟩
      obtain ⟨⟨h1, h2, h3⟩, h4⟩ := h.hc c mc
      have hl : (line (claimW c)).length ≤ 60000 := by
        have := pg_line (rows := clsW m cs) (ws := claimW c) (List.mem_cons_of_mem _ (List.mem_map_of_mem mc))
        have := h.hp
        omega
      have e1 : cB2 ixD (cL (cLst (cCons (cM1 joinD (cK (.str (Str.ofString "+"))) (cL (cLc [9] (cIt (cVar 3)) (gNm 9) cYes (cB1 strD (cVarC 9))))) (cCons (cK (.str (Str.ofString "none"))) cNil)))) (cB1 intD (cBl (cT2 eqD (cB1 lenD (cVarC 3)) (cK (.int 0))))) (R10 (.sh (.int 2)) (.sh (claimsD m cs)) (.ow (clsLs m acc)) (.sh (plD c.1)) (.sh (.str c.2.1)) (.sh (ratD c.2.2)) .un .un .un .un) = .ok (.str (placesT c.1)) := by
        refine ev_b2 (x := .list [.str (Txt.join plS (c.1.map numS)), .str noneS]) (y := .int (if c.1 = [] then 1 else 0)) (ev_l (ev_lst (ev_cons (join_places rfl rfl h1 h4 rfl) rfl) (small (Nat.le_of_ble_eq_true rfl)))) (ev_b1 (ev_bl (len0 rfl)) ?_) ?_
        · show R.ok (PyData.int (if decide (c.1 = []) then 1 else 0)) = _
          by_cases e : c.1 = [] <;> simp [e]
        · unfold placesT
          by_cases e : c.1 = []
          · rw [if_pos e, if_pos e]; exact ix_l 1 rfl rfl
          · rw [if_neg e, if_neg e]; exact ix_l 0 rfl rfl
      rw [← claim_line] at hl
      simp only [Str.length_append] at hl
      refine ⟨_, ev_app (ds := clsLs m acc) (d := .str (line (claimW c))) rfl ?_ ?_, .sh (plD c.1), .sh (.str c.2.1), .sh (ratD c.2.2), ?_⟩
      · rw [← claim_line]
        exact ev_b2 (ev_b2 (ev_b2 (ev_b2 e1 (y := .str sepS) rfl (addD_str (small (by omega)))) (y := .str c.2.1) rfl (addD_str (small (by simp only [Str.length_append]; omega)))) (y := .str sepS) rfl (addD_str (small (by simp only [Str.length_append]; omega)))) (part_call rfl h3) (addD_str (small (by simp only [Str.length_append]; omega)))
      · unfold clsLs
        rw [List.length_cons, List.length_map]
        have : sizeLine = 16777216 := rfl
        have := h.hn
        omega
      · unfold clsLs
        rw [List.map_append]
        rfl
  have hm := mapO_map (q := fun c : Claim => some c) (t := id) (ys := cs) fun y _ => rfl
  rw [List.map_id] at hm
  rw [hm] at loop
  obtain ⟨r', loop, a, b, c, rfl⟩ := loop
  rw [List.nil_append] at loop
  exact ev_run rfl (ev_seq (ev_iff t0 (ev_iff t1 (ev_seq s1 (sfor_of hit loop)))) (page_end (congrArg some (congrArg Sl.ow (clsLs_all m cs))) rfl rfl rfl (by have := h.hp; show (pg (clsW m cs)).length ≤ 1000000; omega)))
abbrev R9 (a b c d e f g h i : Sl) : Rho := [a, b, c, d, e, f, g, h, i]
theorem wtext_cls {m : Nat} {cs : List Claim} (h : ClsOk m cs) (hk : chkL m cs = true) : G_claims_text [natD m, claimsT cs] = .ok (.str (pg (clsW m cs))) := by
  have c0 : sEx (cCall G_check_claims (cCons (cVar 0) (cCons (cVar 1) cNil))) (startR 9 [natD m, claimsT cs]) = .nx (startR 9 [natD m, claimsT cs]) := ev_ex (d := .none) (by
    show (cCons (cVar 0) (cCons (cVar 1) cNil) (startR 9 [natD m, claimsT cs])).bind G_check_claims = _
    show G_check_claims [natD m, claimsT cs] = _
    rw [chkL_ok (fun c mc => (h.hc c mc).1) h.hn, hk]
    rfl)
  have s1 : sOwn 2 (cLst (cCons (cB2 addD (cK (.str (Str.ofString "events "))) (cB1 strD (cVarC 0))) cNil)) (startR 9 [natD m, claimsT cs]) = .nx (R9 (.sh (natD m)) (.sh (claimsT cs)) (.ow (clsLs m [])) .un .un .un .un .un .un) := by
    refine ev_own (ev_lst (ev_cons (ev_b2 (x := .str (Str.ofString "events ")) rfl (ev_b1 (x := natD m) rfl (strD_num (by have := h.hm; omega))) ?_) rfl) (small (Nat.le_of_ble_eq_true rfl))) (Nat.le_of_ble_eq_true rfl)
    rw [addD_str, head_ev]
    have := numS_short h.hm
    have e : (Str.ofString "events ").length = 7 := by decide +kernel
    rw [e]
    exact small (by omega)
  have hit : cIt (cVar 1) (R9 (.sh (natD m)) (.sh (claimsT cs)) (.ow (clsLs m [])) .un .un .un .un .un .un) = .ok (cs.map claimD) := ev_it (x := claimsT cs) rfl rfl
  have loop := for_o (A := gTp (gsCons (gNm 3) (gsCons (gNm 4) (gsCons (gNm 5) gsNil)))) (F := sSeq (sSet 6 (cIf (cT2 eqD (cB1 lenD (cVarC 3)) (cK (.int 0))) (cK (.str (Str.ofString "none"))) (cM1 joinD (cK (.str (Str.ofString "+"))) (cL (cLc [8] (cIt (cVar 3)) (gNm 8) cYes (cB1 strD (cVarC 8)))))))
    (sApp 2 (cB2 addD (cB2 addD (cB2 addD (cB2 addD (cVarC 6) (cK (.str (Str.ofString " ")))) (cVarC 4)) (cK (.str (Str.ofString " ")))) (cCall G_ratio_text (cCons (cVar 5) cNil))))) (k := 2) (N := cs.length) (e := claimD) (q := fun c : Claim => some c)
    (fun acc r => ∃ a b c d, r = R9 (.sh (natD m)) (.sh (claimsT cs)) (.ow (clsLs m acc)) a b c d .un .un) cs [] (R9 (.sh (natD m)) (.sh (claimsT cs)) (.ow (clsLs m [])) .un .un .un .un .un .un) ⟨_, _, _, _, rfl⟩ (by simp) fun c mc acc r hacc hI => by
      obtain ⟨a, b, d, e, rfl⟩ := hI
      refine ⟨R9 (.sh (natD m)) (.sh (claimsT cs)) (.ow (clsLs m acc)) (.sh (plD c.1)) (.sh (.str c.2.1)) (.sh (ratD c.2.2)) e .un .un, rfl, ?_⟩
      obtain ⟨⟨h1, h2, h3⟩, h4⟩ := h.hc c mc
      have hl : (line (claimW c)).length ≤ 60000 := by
        have := pg_line (rows := clsW m cs) (ws := claimW c) (List.mem_cons_of_mem _ (List.mem_map_of_mem mc))
        have := h.hp
        omega
      have t2 : cT2 eqD (cB1 lenD (cVarC 3)) (cK (.int 0)) (R9 (.sh (natD m)) (.sh (claimsT cs)) (.ow (clsLs m acc)) (.sh (plD c.1)) (.sh (.str c.2.1)) (.sh (ratD c.2.2)) e .un .un) = .ok (decide (c.1 = [])) := len0 rfl
      have e1 : cIf (cT2 eqD (cB1 lenD (cVarC 3)) (cK (.int 0))) (cK (.str (Str.ofString "none"))) (cM1 joinD (cK (.str (Str.ofString "+"))) (cL (cLc [8] (cIt (cVar 3)) (gNm 8) cYes (cB1 strD (cVarC 8))))) (R9 (.sh (natD m)) (.sh (claimsT cs)) (.ow (clsLs m acc)) (.sh (plD c.1)) (.sh (.str c.2.1)) (.sh (ratD c.2.2)) e .un .un) = .ok (.str (placesT c.1)) := by
        unfold placesT
        by_cases ec : c.1 = []
        · rw [if_pos ec]
          rw [decide_eq_true ec] at t2
          exact ev_cift t2 rfl
        · rw [if_neg ec]
          rw [decide_eq_false ec] at t2
          exact ev_ciff t2 (join_places rfl rfl h1 h4 rfl)
      rw [← claim_line] at hl
      simp only [Str.length_append] at hl
      refine ⟨_, ev_seq (ev_set e1) (ev_app (ds := clsLs m acc) (d := .str (line (claimW c))) rfl ?_ ?_), .sh (plD c.1), .sh (.str c.2.1), .sh (ratD c.2.2), .sh (.str (placesT c.1)), ?_⟩
      · rw [← claim_line]
        exact ev_b2 (ev_b2 (ev_b2 (ev_b2 (x := .str (placesT c.1)) rfl (y := .str sepS) rfl (addD_str (small (by omega)))) (y := .str c.2.1) rfl (addD_str (small (by simp only [Str.length_append]; omega)))) (y := .str sepS) rfl (addD_str (small (by simp only [Str.length_append]; omega)))) (text_call rfl h3) (addD_str (small (by simp only [Str.length_append]; omega)))
      · unfold clsLs
        rw [List.length_cons, List.length_map]
        have : sizeLine = 16777216 := rfl
        have := h.hn
        omega
      · unfold clsLs
        rw [List.map_append]
        rfl
  have hm := mapO_map (q := fun c : Claim => some c) (t := id) (ys := cs) fun y _ => rfl
  rw [List.map_id] at hm
  rw [hm] at loop
  obtain ⟨r', loop, a, b, c, d, rfl⟩ := loop
  rw [List.nil_append] at loop
  exact ev_run rfl (ev_seq c0 (ev_seq s1 (ev_seq (sfor_of hit loop) (page_end (congrArg some (congrArg Sl.ow (clsLs_all m cs))) rfl rfl rfl (by have := h.hp; show (pg (clsW m cs)).length ≤ 1000000; omega)))))
end K95


set_option Elab.async false
set_option linter.all false
set_option maxRecDepth 100000
set_option maxHeartbeats 4000000
/-! What is told; every text that is read has just that text. -/
namespace K95
open PySem PySem.Spec PyProof.Rows L2 Z
def toldD (v : D) : D := .tuple [.str (Str.ofString "told"), v]
def formD : D := .str (Str.ofString "form")
def refD : D := .str (Str.ofString "refused")
/-- what _law_told makes of a def's answer -/
def ansO : R D → R D
  | .ok d => .ok (toldD d)
  | .ex 1 => .ok refD
  | .ex 2 => .ok formD
  | _ => .no
theorem try_ok {F : SF} {r r' : Rho} {d : D} {mt : Nat → Option Bool} {ans : Nat → Option Str} {i : Nat} (h : F r = .rt d r') : sTryE i F mt ans r = .rt d r' := by unfold sTryE; rw [h]
theorem told_other {k : Int} {v : D} {o : R D} (hk : (k == 2) = false) (ho : o ≠ .no ∧ ∀ j, o = .ex j → j = 1 ∨ j = 2)
    (h : cCallE [((Str.ofString "system_text"), G_system_text), ((Str.ofString "duel_text"), G_duel_text), ((Str.ofString "read_system"), G_read_system), ((Str.ofString "read_duel"), G_read_duel), ((Str.ofString "read_claims"), G_read_claims)] (cB2 ixD (cL (cLst (cCons (cK (fnD (Str.ofString "system_text"))) (cCons (cK (fnD (Str.ofString "duel_text"))) (cCons (cK .none) (cCons (cK (fnD (Str.ofString "read_system"))) (cCons (cK (fnD (Str.ofString "read_duel"))) (cCons (cK (fnD (Str.ofString "read_claims"))) cNil)))))))) (cVarC 0)) (cCons (cVar 1) cNil) (startR 3 [.int k, v]) = o) :
    G__law_told [.int k, v] = ansO o := by
  have t0 : cT2 eqD (cVarC 0) (cK (.int 2)) (startR 3 [.int k, v]) = .ok false := ev_t2 (x := .int k) (y := .int 2) rfl rfl (by rw [eq_int rfl, hk])
  cases o with
  | no => exact absurd rfl ho.1
  | ok d =>
    exact ev_run rfl (try_ok (ev_seq (ev_iff t0 rfl) (ev_ret (ev_tup (ev_cons (x := .str (Str.ofString "told")) rfl (ev_cons h rfl)) (small (Nat.le_of_ble_eq_true rfl))))))
  | ex j =>
    have hx : sSeq (sIf (cT2 eqD (cVarC 0) (cK (.int 2))) (sRet (cTup (cCons (cK (.str (Str.ofString "told"))) (cCons (cCall G_claims_text (cCons (cB2 ixD (cVarC 1) (cK (.int 0))) (cCons (cB2 ixD (cVarC 1) (cK (.int 1))) cNil))) cNil)))) sNil)
      (sRet (cTup (cCons (cK (.str (Str.ofString "told"))) (cCons (cCallE [((Str.ofString "system_text"), G_system_text), ((Str.ofString "duel_text"), G_duel_text), ((Str.ofString "read_system"), G_read_system), ((Str.ofString "read_duel"), G_read_duel), ((Str.ofString "read_claims"), G_read_claims)] (cB2 ixD (cL (cLst (cCons (cK (fnD (Str.ofString "system_text"))) (cCons (cK (fnD (Str.ofString "duel_text"))) (cCons (cK .none) (cCons (cK (fnD (Str.ofString "read_system"))) (cCons (cK (fnD (Str.ofString "read_duel"))) (cCons (cK (fnD (Str.ofString "read_claims"))) cNil)))))))) (cVarC 0)) (cCons (cVar 1) cNil)) cNil)))) (startR 3 [.int k, v]) = .xx j (startR 3 [.int k, v]) :=
      ev_seq (ev_iff t0 rfl) (ex_ret (ex_tup (ex_consr (x := .str (Str.ofString "told")) rfl (ex_cons h))))
    rcases ho.2 j rfl with rfl | rfl
    · exact ev_run rfl (by unfold sTryE; rw [hx]; rfl)
    · exact ev_run rfl (by unfold sTryE; rw [hx]; rfl)
theorem oR_good {α : Type} {k : Nat} {g : α → D} {o : Option α} (hk : k = 1 ∨ k = 2) : oR k g o ≠ .no ∧ ∀ j, oR k g o = .ex j → j = 1 ∨ j = 2 := by
  cases o with
  | none => exact ⟨fun e => (nomatch e), fun j e => by cases e; exact hk⟩
  | some a => exact ⟨fun e => (nomatch e), fun j e => nomatch e⟩
theorem ok_good (d : D) : R.ok d ≠ .no ∧ ∀ j, R.ok d = .ex j → j = 1 ∨ j = 2 := ⟨fun e => (nomatch e), fun j e => nomatch e⟩
theorem told_sysT {v : D} {o : R D} (ho : o ≠ .no ∧ ∀ j, o = .ex j → j = 1 ∨ j = 2) (h : G_system_text [v] = o) : G__law_told [.int 0, v] = ansO o := told_other rfl ho (by rw [← h]; rfl)
theorem told_duelT {v : D} {o : R D} (ho : o ≠ .no ∧ ∀ j, o = .ex j → j = 1 ∨ j = 2) (h : G_duel_text [v] = o) : G__law_told [.int 1, v] = ansO o := told_other rfl ho (by rw [← h]; rfl)
theorem told_sysR {v : D} {o : R D} (ho : o ≠ .no ∧ ∀ j, o = .ex j → j = 1 ∨ j = 2) (h : G_read_system [v] = o) : G__law_told [.int 3, v] = ansO o := told_other rfl ho (by rw [← h]; rfl)
theorem told_duelR {v : D} {o : R D} (ho : o ≠ .no ∧ ∀ j, o = .ex j → j = 1 ∨ j = 2) (h : G_read_duel [v] = o) : G__law_told [.int 4, v] = ansO o := told_other rfl ho (by rw [← h]; rfl)
theorem told_clsR {v : D} {o : R D} (ho : o ≠ .no ∧ ∀ j, o = .ex j → j = 1 ∨ j = 2) (h : G_read_claims [v] = o) : G__law_told [.int 5, v] = ansO o := told_other rfl ho (by rw [← h]; rfl)
theorem told_clsT {a c d : D} (h : G_claims_text [a, c] = .ok d) : G__law_told [.int 2, .tuple [a, c]] = .ok (toldD d) := by
  have t0 : cT2 eqD (cVarC 0) (cK (.int 2)) (startR 3 [.int 2, .tuple [a, c]]) = .ok true := ev_t2 (x := .int 2) (y := .int 2) rfl rfl (eq_int rfl)
  have e : cCall G_claims_text (cCons (cB2 ixD (cVarC 1) (cK (.int 0))) (cCons (cB2 ixD (cVarC 1) (cK (.int 1))) cNil)) (startR 3 [.int 2, .tuple [a, c]]) = .ok d := ev_call (ds := [a, c]) (ev_cons (ev_b2 (x := .tuple [a, c]) (y := .int 0) rfl rfl (ix_t 0 rfl rfl)) (ev_cons (ev_b2 (x := .tuple [a, c]) (y := .int 1) rfl rfl (ix_t 1 rfl rfl)) rfl)) h
  exact ev_run rfl (try_ok (ev_seqr (ev_ift t0 (ev_ret (ev_tup (ev_cons (x := .str (Str.ofString "told")) rfl (ev_cons e rfl)) (small (Nat.le_of_ble_eq_true rfl)))))))
theorem told_clsX {a c : D} (h : G_claims_text [a, c] = .ex 1) : G__law_told [.int 2, .tuple [a, c]] = .ok refD := by
  have t0 : cT2 eqD (cVarC 0) (cK (.int 2)) (startR 3 [.int 2, .tuple [a, c]]) = .ok true := ev_t2 (x := .int 2) (y := .int 2) rfl rfl (eq_int rfl)
  have e : cCall G_claims_text (cCons (cB2 ixD (cVarC 1) (cK (.int 0))) (cCons (cB2 ixD (cVarC 1) (cK (.int 1))) cNil)) (startR 3 [.int 2, .tuple [a, c]]) = .ex 1 := ex_call (ds := [a, c]) (ev_cons (ev_b2 (x := .tuple [a, c]) (y := .int 0) rfl rfl (ix_t 0 rfl rfl)) (ev_cons (ev_b2 (x := .tuple [a, c]) (y := .int 1) rfl rfl (ix_t 1 rfl rfl)) rfl)) h
  have hx := ex_seq (G := sRet (cTup (cCons (cK (.str (Str.ofString "told"))) (cCons (cCallE [((Str.ofString "system_text"), G_system_text), ((Str.ofString "duel_text"), G_duel_text), ((Str.ofString "read_system"), G_read_system), ((Str.ofString "read_duel"), G_read_duel), ((Str.ofString "read_claims"), G_read_claims)] (cB2 ixD (cL (cLst (cCons (cK (fnD (Str.ofString "system_text"))) (cCons (cK (fnD (Str.ofString "duel_text"))) (cCons (cK .none) (cCons (cK (fnD (Str.ofString "read_system"))) (cCons (cK (fnD (Str.ofString "read_duel"))) (cCons (cK (fnD (Str.ofString "read_claims"))) cNil)))))))) (cVarC 0)) (cCons (cVar 1) cNil)) cNil)))) (F := sIf (cT2 eqD (cVarC 0) (cK (.int 2))) (sRet (cTup (cCons (cK (.str (Str.ofString "told"))) (cCons (cCall G_claims_text (cCons (cB2 ixD (cVarC 1) (cK (.int 0))) (cCons (cB2 ixD (cVarC 1) (cK (.int 1))) cNil))) cNil)))) sNil) (ev_ift (F := sRet (cTup (cCons (cK (.str (Str.ofString "told"))) (cCons (cCall G_claims_text (cCons (cB2 ixD (cVarC 1) (cK (.int 0))) (cCons (cB2 ixD (cVarC 1) (cK (.int 1))) cNil))) cNil)))) (G := sNil) t0 (ex_ret (ex_tup (ex_consr (x := .str (Str.ofString "told")) rfl (ex_cons e)))))
  exact ev_run rfl (by unfold sTryE; rw [hx]; rfl)
/-! ### small data -/
theorem smk_rat (k : Nat) (p : Q) : Smk (k + 1) (ratD p) := smk_tup (List.forall_mem_cons.mpr ⟨smk_int _, List.forall_mem_cons.mpr ⟨smk_int _, by simp⟩⟩)
theorem smk_row (k : Nat) (row : List Q) : Smk (k + 2) (rowD row) := smk_tup fun d m => by
  obtain ⟨p, _, rfl⟩ := List.mem_map.mp m
  exact smk_rat k p
theorem smk_cond {c : Cond} (h : PyData.strOk c.2.1 = true) (k : Nat) : Smk (k + 3) (condD c) := smk_tup (List.forall_mem_cons.mpr ⟨smk_row k _, List.forall_mem_cons.mpr ⟨smk_str h, List.forall_mem_cons.mpr ⟨smk_rat (k + 1) _, by simp⟩⟩⟩)
theorem smk_sys {w : Int} {cs : List Cond} (h : ∀ c ∈ cs, PyData.strOk c.2.1 = true) (k : Nat) : Smk (k + 5) (sysD w cs) := smk_tup (List.forall_mem_cons.mpr ⟨smk_int _, List.forall_mem_cons.mpr ⟨smk_tup fun d m => by
  obtain ⟨c, mc, rfl⟩ := List.mem_map.mp m
  exact smk_cond (h c mc) k, by simp⟩⟩)
theorem smk_duel (rows : List (List Q)) (k : Nat) : Smk (k + 5) (duelD rows) := smk_tup fun d m => by
  obtain ⟨row, _, rfl⟩ := List.mem_map.mp m
  exact smk_row (k + 2) row
theorem smk_pl (k : Nat) (ps : List Nat) : Smk (k + 1) (plD ps) := smk_tup fun d m => by
  obtain ⟨n, _, rfl⟩ := List.mem_map.mp m
  exact smk_int _
theorem smk_claim {c : Claim} (h : PyData.strOk c.2.1 = true) (k : Nat) : Smk (k + 3) (claimD c) := smk_tup (List.forall_mem_cons.mpr ⟨smk_pl (k + 1) _, List.forall_mem_cons.mpr ⟨smk_str h, List.forall_mem_cons.mpr ⟨smk_rat (k + 1) _, by simp⟩⟩⟩)
theorem smk_cls {m : Nat} {cs : List Claim} (h : ∀ c ∈ cs, PyData.strOk c.2.1 = true) (k : Nat) : Smk (k + 5) (claimsD m cs) := smk_tup (List.forall_mem_cons.mpr ⟨smk_int _, List.forall_mem_cons.mpr ⟨smk_tup fun d mm => by
  obtain ⟨c, mc, rfl⟩ := List.mem_map.mp mm
  exact smk_claim (h c mc) k, by simp⟩⟩)
/-! ### soundness -/
theorem two_rows {rows : List (List Str)} {word u : Str} {us : List Str} {rest : List (List Str)} {n : Nat} (he : rows = (word :: us) :: rest) (hu : us.length + 1 = 2) (hn : numO (us.headD emS) = some n) : rows = [word, numS n] :: rest ∧ n < 1000 := by
  match us, hu with
  | [u], _ =>
    obtain ⟨e1, e2⟩ := numO_inv hn
    exact ⟨by rw [he, e1]; rfl, e2⟩
theorem rdSys_inv {x : Str} {w : Nat} {cs : List Cond} (hk : PyData.strOk x = true) (h : rdSys x = some (w, cs)) : SysOk w cs ∧ pg (sysW w cs) = x ∧ chkS (w : Nat) cs = true := by
  unfold rdSys at h
  obtain ⟨rows, h1, h⟩ := Option.bind_eq_some_iff.mp h
  obtain ⟨us, h2, h⟩ := Option.bind_eq_some_iff.mp h
  obtain ⟨n, h3, h⟩ := Option.bind_eq_some_iff.mp h
  obtain ⟨ds, h4, h⟩ := Option.bind_eq_some_iff.mp h
  obtain ⟨e1, e2, e3, e4⟩ := rowsO_inv hk h1
  obtain ⟨rest, f1, f2⟩ := frontO_inv h2
  split at h
  case isFalse => cases h
  case isTrue hc =>
    cases h
    obtain ⟨g1, g2⟩ := two_rows (u := emS) f1 f2 h3
    subst g1
    have hr : ∀ ws ∈ rest, Row ws := fun ws m => e4 ws (List.mem_cons_of_mem _ m)
    obtain ⟨i1, i2⟩ := mapO_inv (t := condW) (P := fun c : Cond => CondOk c ∧ c.1 ≠ []) (xs := rest) h4 fun ws m c hcc => ⟨(rdC_ok (hr ws m) hcc).2.2.1, (rdC_ok (hr ws m) hcc).1, (rdC_ok (hr ws m) hcc).2.1⟩
    have ep : pg (sysW w cs) = x := by
      unfold pg sysW
      rw [i1, e1]
    refine ⟨⟨g2, i2, ?_, by rw [ep]; exact e2⟩, ep, hc⟩
    have := congrArg List.length i1
    rw [List.length_map] at this
    simp only [List.length_cons] at e3
    omega
theorem rdDuel_inv {x : Str} {rs : List (List Q)} (hk : PyData.strOk x = true) (h : rdDuel x = some rs) : DuelOk rs ∧ pg (duelW rs) = x ∧ chkU rs = true := by
  unfold rdDuel at h
  obtain ⟨rows, h1, h⟩ := Option.bind_eq_some_iff.mp h
  obtain ⟨us, h2, h⟩ := Option.bind_eq_some_iff.mp h
  obtain ⟨e1, e2, e3, e4⟩ := rowsO_inv hk h1
  obtain ⟨rest, f1, f2⟩ := frontO_inv h2
  split at h
  case isTrue => cases h
  obtain ⟨ds, h4, h⟩ := Option.bind_eq_some_iff.mp h
  split at h
  case isFalse => cases h
  case isTrue hc =>
    cases h
    have hu : us = [] := List.length_eq_zero_iff.mp (by omega)
    subst hu
    subst f1
    have hr : ∀ ws ∈ rest, Row ws := fun ws m => e4 ws (List.mem_cons_of_mem _ m)
    obtain ⟨i1, i2⟩ := mapO_inv (t := fun row : List Q => row.map ratT) (P := fun row : List Q => row.length ≤ 60001 ∧ ∀ p ∈ row, SmQ p) (xs := rest) h4 fun ws m c hcc => ⟨(row_inv (hr ws m) hcc).1, (row_inv (hr ws m) hcc).2.2, (row_inv (hr ws m) hcc).2.1⟩
    have ep : pg (duelW rs) = x := by
      unfold pg duelW
      rw [i1, e1]
    refine ⟨⟨i2, ?_, by rw [ep]; exact e2⟩, ep, hc⟩
    have := congrArg List.length i1
    rw [List.length_map] at this
    simp only [List.length_cons] at e3
    omega
theorem rdCls_inv {x : Str} {m : Nat} {cs : List Claim} (hk : PyData.strOk x = true) (ht : Thin x) (h : rdCls x = some (m, cs)) : ClsOk m cs ∧ pg (clsW m cs) = x ∧ chkL m cs = true := by
  unfold rdCls at h
  obtain ⟨rows, h1, h⟩ := Option.bind_eq_some_iff.mp h
  obtain ⟨us, h2, h⟩ := Option.bind_eq_some_iff.mp h
  obtain ⟨n, h3, h⟩ := Option.bind_eq_some_iff.mp h
  obtain ⟨ds, h4, h⟩ := Option.bind_eq_some_iff.mp h
  obtain ⟨e1, e2, e3, e4⟩ := rowsO_inv hk h1
  obtain ⟨rest, f1, f2⟩ := frontO_inv h2
  have hthin := ht rows h1
  split at h
  case isFalse => cases h
  case isTrue hc =>
    cases h
    obtain ⟨g1, g2⟩ := two_rows (u := emS) f1 f2 h3
    subst g1
    have hr : ∀ ws ∈ rest, Row ws := fun ws mm => e4 ws (List.mem_cons_of_mem _ mm)
    have hr2 : ∀ ws ∈ rest, ∀ w ∈ ws, w.length ≤ 120 := fun ws mm => hthin ws (List.mem_cons_of_mem _ mm)
    obtain ⟨i1, i2⟩ := mapO_inv (t := claimW) (P := fun c : Claim => ClaimOk c ∧ ∀ n ∈ c.1, n < 1000) (xs := rest) h4 fun ws mm c hcc => ⟨(rdL_ok (hr ws mm) (hr2 ws mm) hcc).2.1, (rdL_ok (hr ws mm) (hr2 ws mm) hcc).1, (rdL_ok (hr ws mm) (hr2 ws mm) hcc).2.2.2⟩
    have ep : pg (clsW m cs) = x := by
      unfold pg clsW
      rw [i1, e1]
    refine ⟨⟨g2, i2, ?_, by rw [ep]; exact e2⟩, ep, hc⟩
    have := congrArg List.length i1
    rw [List.length_map] at this
    simp only [List.length_cons] at e3
    omega
/-- every text is refused, or read as what has just this text -/
def Sound (k : Int) (x : Str) : Prop := G__law_told [.int (k + 3), .str x] = .ok formD ∨ ∃ v, G__law_told [.int (k + 3), .str x] = .ok (toldD v) ∧ G__law_text [.int k, v] = .ok (.str x) ∧ G__law_told [.int k, v] = .ok (toldD (.str x)) ∧ Smk 10 v
theorem sound_sys {x : Str} (hk : PyData.strOk x = true) (hl : x.length ≤ 1000000) : Sound 0 x := by
  have e := told_sysR (oR_good (.inr rfl)) (sys_ok hk hl)
  cases h : rdSys x with
  | none => rw [h] at e; exact .inl e
  | some v =>
    rw [h] at e
    obtain ⟨h1, h2, h3⟩ := rdSys_inv (w := v.1) (cs := v.2) hk h
    refine .inr ⟨_, e, ?_, ?_, smk_sys (fun c m => (h1.hc c m).1.2.2.1) 5⟩
    · rw [← h2]; exact ltext_sys h1
    · rw [← h2]; exact told_sysT (ok_good _) (wtext_sys h1 h3)
theorem sound_duel {x : Str} (hk : PyData.strOk x = true) (hl : x.length ≤ 1000000) : Sound 1 x := by
  have e := told_duelR (oR_good (.inr rfl)) (duel_ok hk hl)
  cases h : rdDuel x with
  | none => rw [h] at e; exact .inl e
  | some v =>
    rw [h] at e
    obtain ⟨h1, h2, h3⟩ := rdDuel_inv hk h
    refine .inr ⟨_, e, ?_, ?_, smk_duel v 5⟩
    · rw [← h2]; exact ltext_duel h1
    · rw [← h2]; exact told_duelT (ok_good _) (wtext_duel h1 h3)
theorem sound_cls {x : Str} (hk : PyData.strOk x = true) (hl : x.length ≤ 1000000) (ht : Thin x) : Sound 2 x := by
  have e := told_clsR (oR_good (.inr rfl)) (cls_ok hk hl ht)
  cases h : rdCls x with
  | none => rw [h] at e; exact .inl e
  | some v =>
    rw [h] at e
    obtain ⟨h1, h2, h3⟩ := rdCls_inv (m := v.1) (cs := v.2) hk ht h
    refine .inr ⟨_, e, ?_, ?_, smk_cls (fun c m => (h1.hc c m).1.2.1) 5⟩
    · rw [← h2]; exact ltext_cls h1
    · rw [← h2]; exact told_clsT (wtext_cls h1 h3)
end K95


set_option Elab.async false
set_option linter.all false
set_option maxRecDepth 100000
set_option maxHeartbeats 4000000
/-! What repr shows. -/
namespace K95
open PySem PySem.Spec PyProof.Rows L2 Z
structure Shw (b : Nat) (d : D) : Prop where
  s : d.showable = true
  l : d.shown.length ≤ b
  k : PyData.strOk d.shown = true
theorem Shw.mono {a b : Nat} {d : D} (h : Shw a d) (hl : a ≤ b) : Shw b d := ⟨h.s, Nat.le_trans h.l hl, h.k⟩
theorem char_ok (c : Char) : c.toNat < 1114112 := by
  have := c.valid
  rcases this with h | h
  · exact Nat.lt_trans h (by decide)
  · exact h.2
theorem strOk_of (s : String) : PyData.strOk (Str.ofString s) = true := strOk_tl.mpr fun c m => by
  rw [TL.tl_ofString] at m
  obtain ⟨d, _, rfl⟩ := List.mem_map.mp m
  exact char_ok d
theorem strOk_app {x y : Str} (hx : PyData.strOk x = true) (hy : PyData.strOk y = true) : PyData.strOk (x ++ y) = true := strOk_tl.mpr fun c m => by
  rw [TL.tl_append] at m
  rcases List.mem_append.mp m with m | m
  · exact strOk_tl.mp hx c m
  · exact strOk_tl.mp hy c m
theorem shw_int {i : Int} (h : Sm i) : Shw 71 (.int i) := by
  refine ⟨?_, ?_, ?_⟩
  · simp only [PyData.showable, decide_eq_true_eq]
    exact log_sm h
  · simp only [PyData.shown]
    exact zS_len h
  · simp only [PyData.shown]
    exact strOk_of _
theorem reprChar_ok {q c : Nat} (hc : c < 1114112) : ∀ d ∈ PySem.Builtin.Str.reprChar q c, d < 1114112 := by
  intro d m
  have hx : ∀ w, d ∈ List.replicate (w - ((Nat.toDigits 16 c).map Char.toNat).length) 48 ++ (Nat.toDigits 16 c).map Char.toNat → d < 1114112 := fun w m => by
    rcases List.mem_append.mp m with m | m
    · rw [(List.mem_replicate.mp m).2]; decide
    · obtain ⟨e, _, rfl⟩ := List.mem_map.mp m
      exact char_ok e
  unfold PySem.Builtin.Str.reprChar at m
  dsimp only at m
  split at m
  · simp only [List.mem_cons, List.not_mem_nil, or_false] at m; rcases m with rfl | rfl; decide; exact hc
  split at m
  · simp only [List.mem_cons, List.not_mem_nil, or_false] at m; omega
  split at m
  · simp only [List.mem_cons, List.not_mem_nil, or_false] at m; omega
  split at m
  · simp only [List.mem_cons, List.not_mem_nil, or_false] at m; omega
  split at m
  · simp only [List.mem_cons, List.not_mem_nil, or_false] at m; omega
  split at m
  · rcases List.mem_append.mp m with m | m
    · simp only [List.mem_cons, List.not_mem_nil, or_false] at m; omega
    · exact hx 2 m
  split at m
  · rcases List.mem_append.mp m with m | m
    · simp only [List.mem_cons, List.not_mem_nil, or_false] at m; omega
    · exact hx 4 m
  · rcases List.mem_append.mp m with m | m
    · simp only [List.mem_cons, List.not_mem_nil, or_false] at m; omega
    · exact hx 8 m
theorem fold_ok (q : Nat) : ∀ (l : List Nat) (acc : Array Nat), (∀ c ∈ acc.toList, c < 1114112) → (∀ c ∈ l, c < 1114112) → ∀ c ∈ (l.foldl (fun out c => out ++ (PySem.Builtin.Str.reprChar q c).toArray) acc).toList, c < 1114112
  | [], acc, h, _ => h
  | d :: l, acc, h, hl => by
    refine fold_ok q l (acc ++ (PySem.Builtin.Str.reprChar q d).toArray) (fun c m => ?_) fun c m => hl c (List.mem_cons_of_mem _ m)
    rw [Array.toList_append] at m
    rcases List.mem_append.mp m with m | m
    · exact h c m
    · exact reprChar_ok (hl d List.mem_cons_self) c m
theorem repr_strOk {x : Str} (h : PyData.strOk x = true) : PyData.strOk (reprText x) = true := strOk_tl.mpr fun c m => by
  have hq : reprQuote x < 1114112 := by unfold reprQuote; split <;> decide
  have e : TL.tl (reprText x) = (x.cps.toList.foldl (fun out c => out ++ (PySem.Builtin.Str.reprChar (reprQuote x) c).toArray) #[reprQuote x]).toList ++ [reprQuote x] := by
    show (reprText x).cps.toList = _
    unfold reprText
    rw [Array.toList_push, ← Array.foldl_toList]
  rw [e] at m
  rcases List.mem_append.mp m with m | m
  · exact fold_ok _ _ _ (fun d md => by rw [List.mem_singleton.mp md]; exact hq) (fun d md => strOk_tl.mp h d md) c m
  · rw [List.mem_singleton.mp m]; exact hq
theorem shw_str {x : Str} {n : Nat} (h : PyData.strOk x = true) (hl : x.length ≤ n) (hn : n ≤ 100000) : Shw (10 * n + 2) (.str x) := by
  refine ⟨by simp [PyData.showable], ?_, ?_⟩
  · simp only [PyData.shown]
    have := StrLaws.reprText_len x fun c m => Nat.lt_trans (strOk_tl.mp h c m) (by decide)
    omega
  · simp only [PyData.shown]
    exact repr_strOk h
theorem shownAll_map : ∀ ds : List D, PyData.shownAll ds = ds.map PyData.shown
  | [] => by simp [PyData.shownAll]
  | d :: ds => by simp [PyData.shownAll, shownAll_map ds]
theorem showAll {b : Nat} : ∀ {ds : List D}, (∀ d ∈ ds, Shw b d) → PyData.showableAll ds = true
  | [], _ => by simp [PyData.showableAll]
  | d :: ds, h => by
    simp only [PyData.showableAll, Bool.and_eq_true]
    exact ⟨(h d List.mem_cons_self).s, showAll fun e m => h e (List.mem_cons_of_mem _ m)⟩
theorem piled_le {b n : Nat} : ∀ {ts : List Str}, (∀ t ∈ ts, t.length ≤ b) → piled ts ≤ ts.length * (b + 2)
  | [], _ => by simp [piled]
  | t :: ts, h => by
    rw [piled_cons]
    have a := h t List.mem_cons_self
    have c := piled_le (n := n) fun u m => h u (List.mem_cons_of_mem _ m)
    rw [List.length_cons, Nat.add_mul]
    omega
theorem join_strOk {y : Str} (hy : PyData.strOk y = true) : ∀ {ts : List Str}, (∀ t ∈ ts, PyData.strOk t = true) → PyData.strOk (Str.join y ts) = true
  | [], _ => by show PyData.strOk Str.empty = true; decide +kernel
  | [t], h => h t List.mem_cons_self
  | t :: u :: ts, h => strOk_app (strOk_app (h t List.mem_cons_self) hy) (join_strOk hy fun v m => h v (List.mem_cons_of_mem _ m))
theorem shw_tup {b n : Nat} {ds : List D} (h : ∀ d ∈ ds, Shw b d) (hn : ds.length ≤ n) : Shw (n * (b + 2) + 3) (.tuple ds) := by
  have hm : ∀ t ∈ ds.map PyData.shown, t.length ≤ b := fun t m => by
    obtain ⟨d, md, rfl⟩ := List.mem_map.mp m
    exact (h d md).l
  have hk : ∀ t ∈ ds.map PyData.shown, PyData.strOk t = true := fun t m => by
    obtain ⟨d, md, rfl⟩ := List.mem_map.mp m
    exact (h d md).k
  refine ⟨by simp only [PyData.showable]; exact showAll h, ?_, ?_⟩
  · simp only [PyData.shown]
    rw [shownAll_map]
    have hp := piled_le (n := 0) hm
    rw [List.length_map] at hp
    have hb : ds.length * (b + 2) ≤ n * (b + 2) := Nat.mul_le_mul_right _ hn
    unfold tupleText
    rw [Str.length_append, Str.length_append]
    have e1 : ((("(" : String) : Str)).length = 1 := rfl
    have e3 : (((if (ds.map PyData.shown).length == 1 then ",)" else ")" : String) : Str)).length ≤ 2 := by split <;> decide
    rw [e1]
    by_cases e : ds.map PyData.shown = []
    · rw [e] at e3 ⊢
      have : (Str.join ", " []).length = 0 := by decide +kernel
      omega
    · have := join_length_add _ e
      omega
  · simp only [PyData.shown]
    rw [shownAll_map]
    unfold tupleText
    exact strOk_app (strOk_app (strOk_of _) (join_strOk (strOk_of _) hk)) (strOk_of _)
theorem textFrom_ok : ∀ (ts : List Str) (k : Nat) (acc : Str), PyData.strOk acc = true → (∀ t ∈ ts, PyData.strOk t = true) → PyData.strOk (textFrom k acc ts) = true
  | [], _, acc, h, _ => h
  | t :: ts, k, acc, h, ht => textFrom_ok ts (k + 1) _ (strOk_app (strOk_app h (strOk_of _)) (ht t List.mem_cons_self)) fun u m => ht u (List.mem_cons_of_mem _ m)
theorem textFrom_le : ∀ (ts : List Str) (k : Nat) (acc : Str), (textFrom k acc ts).length ≤ acc.length + piled ts
  | [], _, acc => by show acc.length ≤ _; omega
  | t :: ts, k, acc => by
    have := textFrom_le ts (k + 1) (acc ++ (if k > 0 then ", " else "" : String) ++ t)
    rw [Str.length_append, Str.length_append] at this
    have e : ((((if k > 0 then ", " else "" : String)) : Str)).length ≤ 2 := by split <;> decide
    rw [piled_cons]
    show (textFrom (k + 1) (acc ++ (if k > 0 then ", " else "" : String) ++ t) ts).length ≤ _
    omega
theorem shw_list {b n : Nat} {ds : List D} (h : ∀ d ∈ ds, Shw b d) (hn : ds.length ≤ n) : Shw (n * (b + 2) + 3) (.list ds) := by
  have hm : ∀ t ∈ ds.map PyData.shown, t.length ≤ b := fun t m => by
    obtain ⟨d, md, rfl⟩ := List.mem_map.mp m
    exact (h d md).l
  have hk : ∀ t ∈ ds.map PyData.shown, PyData.strOk t = true := fun t m => by
    obtain ⟨d, md, rfl⟩ := List.mem_map.mp m
    exact (h d md).k
  refine ⟨by simp only [PyData.showable]; exact showAll h, ?_, ?_⟩
  · simp only [PyData.shown]
    rw [shownAll_map]
    have hp := piled_le (n := 0) hm
    rw [List.length_map] at hp
    have hb : ds.length * (b + 2) ≤ n * (b + 2) := Nat.mul_le_mul_right _ hn
    unfold listText
    rw [Str.length_append]
    have := textFrom_le (ds.map PyData.shown) 0 "["
    have e1 : ((("[" : String) : Str)).length = 1 := rfl
    have e3 : ((("]" : String) : Str)).length = 1 := rfl
    rw [e1] at this
    rw [e3]
    omega
  · simp only [PyData.shown]
    rw [shownAll_map]
    unfold listText
    exact strOk_app (textFrom_ok _ _ _ (strOk_of _) hk) (strOk_of _)
theorem repr_ok {b : Nat} {ds : List D} (h : Shw b (.list ds)) (hb : b ≤ 1000000) (hs : Smk 40 (.list ds)) : reprD (.list ds) = .ok (.str (PyData.list ds).shown) := by
  show (if SeqAt.shaped (.list ds) && (PyData.list ds).showable && decide ((PyData.list ds).depth ≤ 100) && decide ((PyData.list ds).shown.length ≤ sizeLine) then R.ok (PyData.str (PyData.list ds).shown) else .no) = _
  rw [shp hs, h.s, decide_eq_true (Nat.le_trans hs.2 (by decide)), decide_eq_true (small (Nat.le_trans h.l hb))]
  rfl
end K95


set_option Elab.async false
set_option linter.all false
set_option maxRecDepth 100000
set_option maxHeartbeats 4000000
/-! What is drawn: small values, their texts, read back. -/
namespace K95
open PySem PySem.Spec PyProof.Rows L2 Z
def red (n : Int) (d : Nat) : Q := (n / (Nat.gcd n.natAbs d : Nat), ((d / Nat.gcd n.natAbs d : Nat) : Int))
def DR : List Q := (List.range 14).flatMap fun i => (List.range 6).map fun j => red ((i : Nat) - 4) (j + 1)
def okR (p : Q) : Bool := (rdR (ratT p) == some p) && (isR p && (decide (p.1.natAbs ≤ 9) && (decide (p.2.natAbs ≤ 6) && decide ((ratT p).length ≤ 5))))
theorem DR_all : DR.all okR = true := by decide +kernel
theorem red_in {n : Int} {d : Nat} (h1 : -4 ≤ n) (h2 : n ≤ 9) (h3 : 1 ≤ d) (h4 : d ≤ 6) : red n d ∈ DR := by
  refine List.mem_flatMap.mpr ⟨(n + 4).toNat, List.mem_range.mpr (by omega), List.mem_map.mpr ⟨d - 1, List.mem_range.mpr (by omega), ?_⟩⟩
  have e1 : (((n + 4).toNat : Nat) : Int) - 4 = n := by omega
  have e2 : d - 1 + 1 = d := by omega
  rw [e1, e2]
structure RatOk (p : Q) : Prop where
  rd : rdR (ratT p) = some p
  r : isR p = true
  sm : SmQ p
  ln : (ratT p).length ≤ 5
theorem dr_ok {p : Q} (h : p ∈ DR) : RatOk p := by
  have := List.all_eq_true.mp DR_all p h
  unfold okR at this
  simp only [Bool.and_eq_true, decide_eq_true_eq] at this
  obtain ⟨h1, h2, h3, h4, h5⟩ := this
  refine ⟨eq_of_beq h1, h2, ⟨?_, ?_⟩, h5⟩
  · exact Nat.lt_of_le_of_lt h3 (by decide +kernel)
  · exact Nat.lt_of_le_of_lt h4 (by decide +kernel)
/-! plain words -/
def Free (w : Str) : Prop := ∀ c ∈ TL.tl w, 33 ≤ c ∧ c < 127
theorem free_rat (p : Q) : Free (ratT p) := fun c m => by have := ratT_tl p c m; omega
theorem free_num (n : Nat) : Free (numS n) := fun c m => by
  rw [TL.tl_num] at m
  have := TL.numL_digits n c m
  omega
theorem free_of {w : Str} (h : ((TL.tl w).all fun c => decide (33 ≤ c) && decide (c < 127)) = true) : Free w := fun c m => by
  have := List.all_eq_true.mp h c m
  simpa using this
theorem free_le : Free leS := free_of (by decide +kernel)
theorem free_eq : Free eqS := free_of (by decide +kernel)
theorem free_ge : Free geS := free_of (by decide +kernel)
theorem free_un : Free unS := free_of (by decide +kernel)
theorem free_ev : Free evS := free_of (by decide +kernel)
theorem free_du : Free duS := free_of (by decide +kernel)
theorem joinL_in {S : List Nat} {c : Nat} : ∀ {ps : List (List Nat)}, c ∈ TL.joinL S ps → c ∈ S ∨ ∃ p ∈ ps, c ∈ p
  | [p], h => .inr ⟨p, List.mem_cons_self, h⟩
  | p :: q :: r, h => by
    have h' : c ∈ p ++ (S ++ TL.joinL S (q :: r)) := h
    rcases List.mem_append.mp h' with h | h
    · exact .inr ⟨p, List.mem_cons_self, h⟩
    · rcases List.mem_append.mp h with h | h
      · exact .inl h
      · rcases joinL_in h with h | ⟨v, hv, h⟩
        · exact .inl h
        · exact .inr ⟨v, List.mem_cons_of_mem _ hv, h⟩
theorem free_places (ps : List Nat) : Free (placesT ps) := by
  unfold placesT
  split
  · exact free_of (by decide +kernel)
  · intro c m
    rw [TL.join_eq, TL.tl_join, tl_pl] at m
    rcases joinL_in m with m | ⟨p, mp, m⟩
    · have := List.mem_singleton.mp m; omega
    · obtain ⟨w, mw, rfl⟩ := List.mem_map.mp mp
      obtain ⟨n, _, rfl⟩ := List.mem_map.mp mw
      exact free_num n c m
theorem free_out {w : Str} (h : Free w) : 32 ∉ TL.tl w ∧ 10 ∉ TL.tl w := ⟨fun m => by have := h _ m; omega, fun m => by have := h _ m; omega⟩
theorem free_ok {w : Str} (h : Free w) : PyData.strOk w = true := strOk_tl.mpr fun c m => by have := h c m; omega
structure PgOk (x : Str) : Prop where
  ex : ∃ ls, x = pageT ls ∧ ls.length ≤ 5 ∧ 1 ≤ ls.length ∧ ∀ l ∈ ls, l.length ≤ 56 ∧ 10 ∉ TL.tl l ∧ PyData.strOk l = true
theorem line_out {ws : List Str} (h : ∀ w ∈ ws, Free w) : 10 ∉ TL.tl (line ws) ∧ PyData.strOk (line ws) = true := by
  have k : ∀ c ∈ TL.tl (line ws), c = 32 ∨ (33 ≤ c ∧ c < 127) := fun c m => by
    rcases mem_line m with e | ⟨w, mw, m⟩
    · exact .inl e
    · exact .inr (h w mw c m)
  exact ⟨fun m => by have := k _ m; omega, strOk_tl.mpr fun c m => by have := k c m; omega⟩
theorem page_fine {rows : List (List Str)} (h0 : 1 ≤ rows.length) (hn : rows.length ≤ 5) (h : ∀ ws ∈ rows, ws ≠ [] ∧ (∀ w ∈ ws, Free w) ∧ (line ws).length ≤ 56) : PgOk (pg rows) ∧ rowsO (pg rows) = some rows ∧ (pg rows).length ≤ 285 := by
  have hl : (pg rows).length ≤ 285 := by
    have := page_len (ls := rows.map line) (b := 56) fun l m => by
      obtain ⟨ws, mw, rfl⟩ := List.mem_map.mp m
      exact (h ws mw).2.2
    rw [List.length_map] at this
    unfold pg
    omega
  refine ⟨⟨rows.map line, rfl, by rw [List.length_map]; exact hn, by rw [List.length_map]; exact h0, fun l m => ?_⟩, ?_, hl⟩
  · obtain ⟨ws, mw, rfl⟩ := List.mem_map.mp m
    obtain ⟨_, h2, h3⟩ := h ws mw
    exact ⟨h3, line_out h2⟩
  · exact rowsO_page (Nat.le_trans hl (by decide)) fun ws m => ⟨(h ws m).1, fun w mw => free_out ((h ws m).2.1 w mw)⟩
theorem line_le_of {ws : List Str} {b : Nat} (h : ∀ w ∈ ws, w.length ≤ b) : (line ws).length ≤ ws.length * (b + 1) := by
  by_cases e : ws = []
  · subst e
    have : (line []).length = 0 := by decide +kernel
    rw [this]
    exact Nat.zero_le _
  have h1 := joinL_sum [32] (ws.map TL.tl) (by simpa using e)
  rw [← tl_line, ← TL.len_tl, List.map_map, List.length_map] at h1
  have h2 : ∀ us : List Str, (∀ w ∈ us, w.length ≤ b) → (us.map (List.length ∘ TL.tl)).sum ≤ b * us.length := by
    intro us
    induction us with
    | nil => intro _; simp
    | cons u us ih =>
      intro h
      have a := h u List.mem_cons_self
      have c := ih fun w m => h w (List.mem_cons_of_mem _ m)
      rw [TL.len_tl] at a
      simp only [List.map_cons, List.sum_cons, List.length_cons, Function.comp, Nat.mul_add] at c ⊢
      omega
  have h3 := h2 ws h
  have h4 : (line ws).length + 1 = (ws.map (List.length ∘ TL.tl)).sum + ws.length * 1 := h1
  rw [Nat.mul_add, Nat.mul_comm ws.length b]
  omega
theorem num_small : ∀ n, n < 16 → numO (numS n) = some n ∧ (numS n).length ≤ 2 := by decide +kernel
theorem shw_rat {p : Q} (h : SmQ p) : Shw 149 (ratD p) := shw_tup (b := 71) (n := 2) (List.forall_mem_cons.mpr ⟨shw_int h.1, List.forall_mem_cons.mpr ⟨shw_int h.2, by simp⟩⟩) (Nat.le_refl _)
theorem shw_row {row : List Q} (h : ∀ p ∈ row, SmQ p) (hn : row.length ≤ 5) : Shw 758 (rowD row) := shw_tup (b := 149) (n := 5) (fun d m => by
  obtain ⟨p, mp, rfl⟩ := List.mem_map.mp m
  exact shw_rat (h p mp)) (by rw [List.length_map]; exact hn)
theorem front_mk {w : Str} {us : List Str} {rest : List (List Str)} {many : Nat} (h : us.length + 1 = many) : frontO ((w :: us) :: rest) w many = some us := by
  show (if w = w ∧ us.length + 1 = many then some us else none) = _
  exact if_pos ⟨rfl, h⟩
theorem pg_strOk {x : Str} (h : PgOk x) : PyData.strOk x = true := by
  obtain ⟨ls, e, _, _, hl⟩ := h.ex
  rw [e]
  refine strOk_tl.mpr fun c m => ?_
  rw [tl_page] at m
  obtain ⟨q, mq, m⟩ := List.mem_flatten.mp m
  obtain ⟨l, ml, rfl⟩ := List.mem_map.mp mq
  rcases List.mem_append.mp m with m | m
  · exact strOk_tl.mp (hl l ml).2.2 c m
  · rw [List.mem_singleton.mp m]; decide
/-! systems -/
def DCond (w : Nat) (c : Cond) : Prop := c.1.length = w ∧ (∀ p ∈ c.1, p ∈ DR) ∧ (c.2.1 = leS ∨ c.2.1 = eqS) ∧ c.2.2 ∈ DR
structure DSys (w : Nat) (cs : List Cond) : Prop where
  w1 : 1 ≤ w
  w2 : w ≤ 4
  n : cs.length ≤ 4
  c : ∀ c ∈ cs, DCond w c
/-- all that the law asks of a value and its text -/
structure Fine (k : Int) (v : D) (x : Str) : Prop where
  lt : G__law_text [.int k, v] = .ok (.str x)
  wt : G__law_told [.int k, v] = .ok (toldD (.str x))
  rt : G__law_told [.int (k + 3), .str x] = .ok (toldD v)
  pg : PgOk x
  sm : Smk 10 v
  sh : Shw 30000 v
theorem rel_ok {c : Str} (h : c = leS ∨ c = eqS) : Free c ∧ c.length ≤ 2 := by
  rcases h with rfl | rfl
  · exact ⟨free_le, by decide +kernel⟩
  · exact ⟨free_eq, by decide +kernel⟩
theorem fine_sys {w : Nat} {cs : List Cond} (h : DSys w cs) : Fine 0 (sysD (w : Nat) cs) (pg (sysW w cs)) := by
  have hw1 := h.w1
  have hw2 := h.w2
  have hrows : ∀ ws ∈ sysW w cs, ws ≠ [] ∧ (∀ v ∈ ws, Free v) ∧ (line ws).length ≤ 56 := by
    refine List.forall_mem_cons.mpr ⟨⟨by simp, List.forall_mem_cons.mpr ⟨free_un, List.forall_mem_cons.mpr ⟨free_num w, by simp⟩⟩, ?_⟩, fun ws m => ?_⟩
    · have := line_le_of (ws := [unS, numS w]) (b := 8) (List.forall_mem_cons.mpr ⟨by decide +kernel, List.forall_mem_cons.mpr ⟨Nat.le_trans (num_small w (by omega)).2 (by decide), by simp⟩⟩)
      exact Nat.le_trans this (Nat.le_of_ble_eq_true rfl)
    · obtain ⟨c, mc, rfl⟩ := List.mem_map.mp m
      obtain ⟨h1, h2, h3, h4⟩ := h.c c mc
      have hb : ∀ v ∈ condW c, Free v ∧ v.length ≤ 5 := fun v mv => by
        rcases List.mem_append.mp mv with mv | mv
        · obtain ⟨p, mp, rfl⟩ := List.mem_map.mp mv
          exact ⟨free_rat p, (dr_ok (h2 p mp)).ln⟩
        · simp only [List.mem_cons, List.not_mem_nil, or_false] at mv
          rcases mv with rfl | rfl
          · exact ⟨(rel_ok h3).1, Nat.le_trans (rel_ok h3).2 (by decide)⟩
          · exact ⟨free_rat _, (dr_ok h4).ln⟩
      refine ⟨by unfold condW; simp, fun v mv => (hb v mv).1, ?_⟩
      have := line_le_of (b := 5) fun v mv => (hb v mv).2
      have e : (condW c).length = w + 2 := by unfold condW; rw [List.length_append, List.length_map, h1]; rfl
      rw [e] at this
      omega
  have hn : (sysW w cs).length ≤ 5 := by unfold sysW; rw [List.length_cons, List.length_map]; have := h.n; omega
  obtain ⟨p1, p2, p3⟩ := page_fine (by unfold sysW; rw [List.length_cons]; omega) hn hrows
  have hc : ∀ c ∈ cs, CondOk c ∧ c.1 ≠ [] := fun c mc => by
    obtain ⟨h1, h2, h3, h4⟩ := h.c c mc
    refine ⟨⟨by omega, fun p mp => (dr_ok (h2 p mp)).sm, free_ok (rel_ok h3).1, (dr_ok h4).sm⟩, fun e => ?_⟩
    rw [e] at h1
    simp at h1
    omega
  have ok : SysOk w cs := ⟨by omega, hc, by have := h.n; omega, by omega⟩
  have ck : chkS (w : Nat) cs = true := by
    unfold chkS
    rw [decide_eq_true (by have := h.n; omega), Bool.true_and, List.all_eq_true]
    intro c mc
    obtain ⟨h1, h2, h3, h4⟩ := h.c c mc
    unfold okC
    rw [decide_eq_true (by rw [h1]), (dr_ok h4).r, Bool.true_and, Bool.and_true]
    have a : c.1.all isR = true := List.all_eq_true.mpr fun p mp => (dr_ok (h2 p mp)).r
    have b : (c.2.1 == leS || c.2.1 == eqS) = true := by
      rcases h3 with e | e
      · rw [e, beq_self_eq_true, Bool.true_or]
      · rw [e, beq_self_eq_true, Bool.or_true]
    rw [a, b]
    rfl
  have rd : rdSys (pg (sysW w cs)) = some (w, cs) := by
    unfold rdSys
    have f : frontO (sysW w cs) (Str.ofString "unknowns") 2 = some [numS w] := front_mk rfl
    have m : mapO rdC (sysW w cs).tail = some cs := mapO_map (t := condW) fun c mc => by
      obtain ⟨h1, h2, h3, h4⟩ := h.c c mc
      have hne : c.1.map ratT ≠ [] := fun e => (hc c mc).2 (List.map_eq_nil_iff.mp e)
      unfold condW
      rw [rdC_app hne, mapO_map fun p mp => (dr_ok (h2 p mp)).rd, (dr_ok h4).rd]
      rfl
    have nn : numO ([numS w].headD emS) = some w := (num_small w (by omega)).1
    rw [p2, Option.bind_some, f, Option.bind_some, nn, Option.bind_some, m, Option.bind_some, ck]
    rfl
  have hk := pg_strOk p1
  refine ⟨ltext_sys ok, told_sysT (ok_good _) (wtext_sys ok ck), ?_, p1, smk_sys (fun c mc => (hc c mc).1.2.2.1) 5, ?_⟩
  · have e := told_sysR (oR_good (.inr rfl)) (sys_ok hk (by omega))
    rw [rd] at e
    exact e
  · refine (shw_tup (b := 9143) (n := 2) (List.forall_mem_cons.mpr ⟨(shw_int ?_).mono (by decide), List.forall_mem_cons.mpr ⟨(shw_tup (b := 2283) (n := 4) (fun d m => ?_) (by rw [List.length_map]; exact h.n)).mono (by decide), by simp⟩⟩) (Nat.le_refl _)).mono (by decide)
    · exact Nat.lt_of_le_of_lt (m := 4) (by omega) (by decide +kernel)
    · obtain ⟨c, mc, rfl⟩ := List.mem_map.mp m
      obtain ⟨h1, h2, h3, h4⟩ := h.c c mc
      exact (shw_tup (b := 758) (n := 3) (List.forall_mem_cons.mpr ⟨shw_row (fun p mp => (dr_ok (h2 p mp)).sm) (by omega), List.forall_mem_cons.mpr ⟨(shw_str (n := 2) (free_ok (rel_ok h3).1) (rel_ok h3).2 (by decide)).mono (by decide), List.forall_mem_cons.mpr ⟨(shw_rat (dr_ok h4).sm).mono (by decide), by simp⟩⟩⟩) (Nat.le_refl _)).mono (by decide)
/-! duels -/
structure DDuel (n : Nat) (rows : List (List Q)) : Prop where
  n1 : 1 ≤ n
  n2 : n ≤ 4
  r1 : 1 ≤ rows.length
  r2 : rows.length ≤ 4
  c : ∀ row ∈ rows, row.length = n ∧ ∀ p ∈ row, p ∈ DR
theorem fine_duel {n : Nat} {rows : List (List Q)} (h : DDuel n rows) : Fine 1 (duelD rows) (pg (duelW rows)) := by
  have hn1 := h.n1
  have hn2 := h.n2
  have hr1 := h.r1
  have hr2 := h.r2
  have hrows : ∀ ws ∈ duelW rows, ws ≠ [] ∧ (∀ v ∈ ws, Free v) ∧ (line ws).length ≤ 56 := by
    refine List.forall_mem_cons.mpr ⟨⟨by simp, List.forall_mem_cons.mpr ⟨free_du, by simp⟩, by decide +kernel⟩, fun ws m => ?_⟩
    obtain ⟨row, mc, rfl⟩ := List.mem_map.mp m
    obtain ⟨h1, h2⟩ := h.c row mc
    have hb : ∀ v ∈ row.map ratT, Free v ∧ v.length ≤ 5 := fun v mv => by
      obtain ⟨p, mp, rfl⟩ := List.mem_map.mp mv
      exact ⟨free_rat p, (dr_ok (h2 p mp)).ln⟩
    refine ⟨fun e => ?_, fun v mv => (hb v mv).1, ?_⟩
    · rw [List.map_eq_nil_iff.mp e] at h1
      simp at h1
      omega
    · have := line_le_of (b := 5) fun v mv => (hb v mv).2
      rw [List.length_map, h1] at this
      omega
  have hn : (duelW rows).length ≤ 5 := by unfold duelW; rw [List.length_cons, List.length_map]; omega
  obtain ⟨p1, p2, p3⟩ := page_fine (by unfold duelW; rw [List.length_cons]; omega) hn hrows
  have hc : ∀ row ∈ rows, row.length ≤ 60001 ∧ ∀ p ∈ row, SmQ p := fun row mc => ⟨by have := (h.c row mc).1; omega, fun p mp => (dr_ok ((h.c row mc).2 p mp)).sm⟩
  have ok : DuelOk rows := ⟨hc, by omega, by omega⟩
  have ck : chkU rows = true := by
    cases rows with
    | nil => simp at hr1
    | cons r0 rest =>
      have e0 := (h.c r0 List.mem_cons_self).1
      show (decide (rest.length + 1 ≤ 8 ∧ 1 ≤ r0.length ∧ r0.length ≤ 8) && (r0 :: rest).all fun row => decide (row.length = r0.length) && row.all isR) = true
      rw [decide_eq_true (by simp only [List.length_cons] at hr2; omega), Bool.true_and, List.all_eq_true]
      intro row mr
      obtain ⟨h1, h2⟩ := h.c row mr
      rw [decide_eq_true (by omega), Bool.true_and]
      exact List.all_eq_true.mpr fun p mp => (dr_ok (h2 p mp)).r
  have rd : rdDuel (pg (duelW rows)) = some rows := by
    unfold rdDuel
    have f : frontO (duelW rows) (Str.ofString "duel") 1 = some [] := front_mk rfl
    have m : mapO (mapO rdR) (duelW rows).tail = some rows := mapO_map (t := fun row : List Q => row.map ratT) fun row mc => mapO_map fun p mp => (dr_ok ((h.c row mc).2 p mp)).rd
    have l2 : ¬ (duelW rows).length < 2 := by unfold duelW; rw [List.length_cons, List.length_map]; omega
    rw [p2, Option.bind_some, f, Option.bind_some, if_neg l2, m, Option.bind_some, ck]
    rfl
  have hk := pg_strOk p1
  refine ⟨ltext_duel ok, told_duelT (ok_good _) (wtext_duel ok ck), ?_, p1, smk_duel rows 5, ?_⟩
  · have e := told_duelR (oR_good (.inr rfl)) (duel_ok hk (by omega))
    rw [rd] at e
    exact e
  · exact (shw_tup (b := 758) (n := 4) (fun d m => by
      obtain ⟨row, mc, rfl⟩ := List.mem_map.mp m
      exact shw_row (fun p mp => (dr_ok ((h.c row mc).2 p mp)).sm) (by have := (h.c row mc).1; omega)) (by rw [List.length_map]; exact hr2)).mono (by decide)
/-! claims -/
def DClaim (m : Nat) (c : Claim) : Prop := c.1.Pairwise (· < ·) ∧ (∀ n ∈ c.1, n < 2 ^ m) ∧ (c.2.1 = leS ∨ c.2.1 = eqS ∨ c.2.1 = geS) ∧ c.2.2 ∈ DR ∧ 0 ≤ c.2.2.1 ∧ c.2.2.1 ≤ c.2.2.2
structure DCls (m : Nat) (cs : List Claim) : Prop where
  m1 : 1 ≤ m
  m2 : m ≤ 4
  n : cs.length ≤ 4
  c : ∀ c ∈ cs, DClaim m c
theorem pair_len : ∀ {ps : List Nat} {a b : Nat}, ps.Pairwise (· < ·) → (∀ n ∈ ps, a ≤ n ∧ n < b) → a ≤ b → ps.length ≤ b - a
  | [], _, _, _, _, _ => Nat.zero_le _
  | p :: ps, a, b, h, hb, hab => by
    obtain ⟨h1, h2⟩ := List.pairwise_cons.mp h
    have hp := hb p List.mem_cons_self
    have := pair_len h2 (a := p + 1) (b := b) (fun n m => ⟨h1 n m, (hb n (List.mem_cons_of_mem _ m)).2⟩) (by omega)
    rw [List.length_cons]
    omega
theorem rel3_ok {c : Str} (h : c = leS ∨ c = eqS ∨ c = geS) : Free c ∧ c.length ≤ 2 := by
  rcases h with rfl | rfl | rfl
  · exact ⟨free_le, by decide +kernel⟩
  · exact ⟨free_eq, by decide +kernel⟩
  · exact ⟨free_ge, by decide +kernel⟩
theorem places_len {ps : List Nat} (hl : ps.length ≤ 16) (h : ∀ n ∈ ps, n < 16) : (placesT ps).length ≤ 47 := by
  unfold placesT
  split
  · decide +kernel
  · rename_i e
    have h1 := joinL_sum (TL.tl plS) ((ps.map numS).map TL.tl) (by simpa using e)
    rw [← TL.tl_join, ← TL.join_eq, ← TL.len_tl, List.map_map, List.map_map, List.length_map, List.length_map, tl_pl] at h1
    have h2 : ∀ qs : List Nat, (∀ n ∈ qs, n < 16) → (qs.map ((List.length ∘ TL.tl) ∘ numS)).sum ≤ 2 * qs.length := by
      intro qs
      induction qs with
      | nil => intro _; simp
      | cons q qs ih =>
        intro h
        have a := (num_small q (h q List.mem_cons_self)).2
        have b := ih fun n m => h n (List.mem_cons_of_mem _ m)
        rw [TL.len_tl] at a
        simp only [List.map_cons, List.sum_cons, List.length_cons, Function.comp] at b ⊢
        omega
    have h3 := h2 ps h
    have h4 : (Txt.join plS (ps.map numS)).length + 1 = (ps.map ((List.length ∘ TL.tl) ∘ numS)).sum + ps.length * 1 := h1
    omega
theorem places_back {ps : List Nat} (h : ∀ n ∈ ps, n < 16) : rdPl (placesT ps) = some ps := by
  unfold placesT
  by_cases e : ps = []
  · rw [if_pos e, e]
    exact if_pos rfl
  · rw [if_neg e]
    unfold rdPl
    have hs : Txt.split (Txt.join plS (ps.map numS)) plS = ps.map numS := TL.split_join tl_pl (by decide +kernel) (by simpa using e) fun w mw => by
      obtain ⟨n, _, rfl⟩ := List.mem_map.mp mw
      rw [TL.tl_num]
      exact TL.numL_free (.inl (by decide))
    have hne : Txt.join plS (ps.map numS) ≠ noneS := fun q => by
      have hc : 110 ∈ TL.tl (Txt.join plS (ps.map numS)) := by rw [q]; decide +kernel
      rw [TL.join_eq, TL.tl_join, tl_pl] at hc
      rcases joinL_in hc with m | ⟨p, mp, m⟩
      · cases List.mem_singleton.mp m
      · obtain ⟨w, mw, rfl⟩ := List.mem_map.mp mp
        obtain ⟨n, _, rfl⟩ := List.mem_map.mp mw
        rw [TL.tl_num] at m
        have := TL.numL_digits n _ m
        omega
    rw [if_neg hne, hs]
    exact mapO_map fun n m => (num_small n (h n m)).1
theorem fine_cls {m : Nat} {cs : List Claim} (h : DCls m cs) : Fine 2 (claimsD m cs) (pg (clsW m cs)) := by
  have hm1 := h.m1
  have hm2 := h.m2
  have hpow : 2 ^ m ≤ 16 := Nat.pow_le_pow_right (n := 2) (by decide) hm2
  have hpl : ∀ c ∈ cs, c.1.length ≤ 16 ∧ ∀ n ∈ c.1, n < 16 := fun c mc => by
    obtain ⟨h1, h2, _⟩ := h.c c mc
    have hb : ∀ n ∈ c.1, n < 16 := fun n mn => Nat.lt_of_lt_of_le (h2 n mn) hpow
    exact ⟨pair_len (a := 0) (b := 16) h1 (fun n mn => ⟨Nat.zero_le _, hb n mn⟩) (by decide), hb⟩
  have hrows : ∀ ws ∈ clsW m cs, ws ≠ [] ∧ (∀ v ∈ ws, Free v) ∧ (line ws).length ≤ 56 := by
    refine List.forall_mem_cons.mpr ⟨⟨by simp, List.forall_mem_cons.mpr ⟨free_ev, List.forall_mem_cons.mpr ⟨free_num m, by simp⟩⟩, ?_⟩, fun ws mw => ?_⟩
    · have := line_le_of (ws := [evS, numS m]) (b := 8) (List.forall_mem_cons.mpr ⟨by decide +kernel, List.forall_mem_cons.mpr ⟨Nat.le_trans (num_small m (by omega)).2 (by decide), by simp⟩⟩)
      exact Nat.le_trans this (Nat.le_of_ble_eq_true rfl)
    · obtain ⟨c, mc, rfl⟩ := List.mem_map.mp mw
      obtain ⟨h1, h2, h3, h4, h5⟩ := h.c c mc
      refine ⟨by unfold claimW; simp, List.forall_mem_cons.mpr ⟨free_places _, List.forall_mem_cons.mpr ⟨(rel3_ok h3).1, List.forall_mem_cons.mpr ⟨free_rat _, by simp⟩⟩⟩, ?_⟩
      have a := places_len (hpl c mc).1 (hpl c mc).2
      have b := (rel3_ok h3).2
      have d := (dr_ok h4).ln
      rw [← claim_line]
      simp only [Str.length_append, len_sp]
      omega
  have hn : (clsW m cs).length ≤ 5 := by unfold clsW; rw [List.length_cons, List.length_map]; have := h.n; omega
  obtain ⟨p1, p2, p3⟩ := page_fine (by unfold clsW; rw [List.length_cons]; omega) hn hrows
  have hc : ∀ c ∈ cs, ClaimOk c ∧ ∀ n ∈ c.1, n < 1000 := fun c mc => by
    obtain ⟨h1, h2, h3, h4, h5⟩ := h.c c mc
    exact ⟨⟨by have := (hpl c mc).1; omega, free_ok (rel3_ok h3).1, (dr_ok h4).sm⟩, fun n mn => by have := (hpl c mc).2 n mn; omega⟩
  have ok : ClsOk m cs := ⟨by omega, hc, by have := h.n; omega, by omega⟩
  have ck : chkL m cs = true := by
    unfold chkL
    rw [decide_eq_true ⟨hm1, hm2⟩, decide_eq_true (by have := h.n; omega), Bool.true_and, Bool.true_and, List.all_eq_true]
    intro c mc
    obtain ⟨h1, h2, h3, h4, h5, h6⟩ := h.c c mc
    unfold okL
    have a : rowsB m c.1 = true := by
      unfold rowsB
      have : setS (c.1.map Int.ofNat) = c.1.map Int.ofNat := setS_id (List.pairwise_map.mpr (h1.imp fun {a b} q => Int.ofNat_lt.mpr q))
      rw [decide_eq_true this, Bool.true_and]
      exact List.all_eq_true.mpr fun n mn => decide_eq_true (h2 n mn)
    have b : (c.2.1 == leS || (c.2.1 == eqS || c.2.1 == geS)) = true := by
      rcases h3 with e | e | e
      · rw [e, beq_self_eq_true, Bool.true_or]
      · rw [e, beq_self_eq_true, Bool.true_or, Bool.or_true]
      · rw [e, beq_self_eq_true, Bool.or_true, Bool.or_true]
    have s1 : 0 ≤ sgn c.2.2.1 := by unfold sgn; split <;> first | omega | (split <;> omega)
    have s2 : sgn (c.2.2.1 - c.2.2.2) ≤ 0 := by unfold sgn; split <;> first | omega | (split <;> omega)
    rw [a, b, (dr_ok h4).r, decide_eq_true s1, decide_eq_true s2]
    rfl
  have rd : rdCls (pg (clsW m cs)) = some (m, cs) := by
    unfold rdCls
    have f : frontO (clsW m cs) (Str.ofString "events") 2 = some [numS m] := front_mk rfl
    have mm : mapO rdL (clsW m cs).tail = some cs := mapO_map (t := claimW) fun c mc => by
      obtain ⟨h1, h2, h3, h4, h5⟩ := h.c c mc
      show (rdPl (placesT c.1)).bind (fun ps => (rdR (ratT c.2.2)).bind fun q => some (ps, c.2.1, q)) = _
      rw [places_back (hpl c mc).2, Option.bind_some, (dr_ok h4).rd]
      rfl
    have nn : numO ([numS m].headD emS) = some m := (num_small m (by omega)).1
    rw [p2, Option.bind_some, f, Option.bind_some, nn, Option.bind_some, mm, Option.bind_some, ck]
    rfl
  have hk := pg_strOk p1
  have ht : Thin (pg (clsW m cs)) := fun rows hr ws mws w mw => by
    rw [p2] at hr
    cases hr
    rcases List.mem_cons.mp mws with e | mws
    · subst e
      rcases List.mem_cons.mp mw with e | mw
      · subst e; decide +kernel
      · rcases List.mem_cons.mp mw with e | mw
        · subst e; have := (num_small m (by omega)).2; omega
        · cases mw
    · obtain ⟨c, mc, rfl⟩ := List.mem_map.mp mws
      obtain ⟨h1, h2, h3, h4, h5⟩ := h.c c mc
      have a := places_len (hpl c mc).1 (hpl c mc).2
      have b := (rel3_ok h3).2
      have d := (dr_ok h4).ln
      simp only [claimW, List.mem_cons, List.not_mem_nil, or_false] at mw
      rcases mw with rfl | rfl | rfl <;> omega
  refine ⟨ltext_cls ok, told_clsT (wtext_cls ok ck), ?_, p1, smk_cls (fun c mc => (hc c mc).1.2.1) 5, ?_⟩
  · have e := told_clsR (oR_good (.inr rfl)) (cls_ok hk (by omega) ht)
    rw [rd] at e
    exact e
  · have small_sm : ∀ n : Nat, n < 1000 → Sm (n : Int) := fun n hn => Nat.lt_of_le_of_lt (m := 1000) (by omega) (by decide +kernel)
    refine (shw_tup (b := 14099) (n := 2) (List.forall_mem_cons.mpr ⟨(shw_int (small_sm m (by omega))).mono (by decide), List.forall_mem_cons.mpr ⟨(shw_tup (b := 3522) (n := 4) (fun d md => ?_) (by rw [List.length_map]; exact h.n)).mono (by decide), by simp⟩⟩) (Nat.le_refl _)).mono (by decide)
    obtain ⟨c, mc, rfl⟩ := List.mem_map.mp md
    obtain ⟨h1, h2, h3, h4, h5⟩ := h.c c mc
    exact (shw_tup (b := 1171) (n := 3) (List.forall_mem_cons.mpr ⟨(shw_tup (b := 71) (n := 16) (fun d md => by
      obtain ⟨n, mn, rfl⟩ := List.mem_map.mp md
      exact shw_int (small_sm n ((hc c mc).2 n mn))) (by rw [List.length_map]; exact (hpl c mc).1)).mono (by decide), List.forall_mem_cons.mpr ⟨(shw_str (n := 2) (free_ok (rel3_ok h3).1) (rel3_ok h3).2 (by decide)).mono (by decide), List.forall_mem_cons.mpr ⟨(shw_rat (dr_ok h4).sm).mono (by decide), by simp⟩⟩⟩) (Nat.le_refl _)).mono (by decide)
end K95


set_option Elab.async false
set_option linter.all false
set_option maxRecDepth 100000
set_option maxHeartbeats 4000000
/-! The stream and what is drawn from it. -/
namespace K95
open PySem PySem.Spec PyProof.Rows L2 Z
/-! ### the stream -/
theorem for_b {A : D → Rho → Option Rho} {F : SF} {N : Nat} (I : Nat → Rho → Prop) : ∀ (ds : List D) (k : Nat) (r : Rho), I k r → k + ds.length ≤ N → (∀ (j : Nat) (d : D) (r : Rho), d ∈ ds → j < N → I j r → ∃ r1, A d r = some r1 ∧ ((∃ r2, F r1 = .nx r2 ∧ I (j + 1) r2) ∨ ∃ r2, F r1 = .bk r2 ∧ I (j + 1) r2)) →
    ∃ r', forL A F ds r = .nx r' ∧ ∃ j, k ≤ j ∧ j ≤ k + ds.length ∧ I j r' ∧ (ds ≠ [] → k < j)
  | [], k, r, h, _, _ => ⟨r, rfl, k, Nat.le_refl _, Nat.le_refl _, h, fun e => absurd rfl e⟩
  | d :: ds, k, r, h, hN, hd => by
    obtain ⟨r1, h1, h2⟩ := hd k d r List.mem_cons_self (by simp only [List.length_cons] at hN; omega) h
    unfold forL
    rw [h1]
    simp only []
    rcases h2 with ⟨r2, h2, h3⟩ | ⟨r2, h2, h3⟩
    · rw [h2]
      obtain ⟨r', h4, j, h5, h6, h7, _⟩ := for_b I ds (k + 1) r2 h3 (by simp only [List.length_cons] at hN; omega) fun j e r m => hd j e r (List.mem_cons_of_mem _ m)
      exact ⟨r', h4, j, by omega, by simp only [List.length_cons]; omega, h7, fun _ => by omega⟩
    · rw [h2]
      exact ⟨r2, rfl, k + 1, by omega, by simp only [List.length_cons]; omega, h3, fun _ => by omega⟩
theorem eqd_int (a b : Int) : eqD (.int a) (.int b) = .ok (a == b) := eq_int rfl
theorem mod_i (a : Int) {b : Int} (h : 0 < b) : modD (.int a) (.int b) = .ok (.int (a % b)) := by
  show (if 0 < b then R.ok (PyData.int (a % b)) else _) = _
  rw [if_pos h]
theorem emod_nat (a : Int) {b : Int} (h : 0 < b) : ∃ n : Nat, a % b = (n : Int) ∧ (n : Int) < b := by
  obtain ⟨n, hn⟩ := Int.eq_ofNat_of_zero_le (Int.emod_nonneg a (by omega : b ≠ 0))
  exact ⟨n, hn, by have := Int.emod_lt_of_pos a h; omega⟩
theorem mul_i {a b : Int} (h1 : a.natAbs < 2 ^ 64) (h2 : b.natAbs < 2 ^ 64) : mulD (.int a) (.int b) = .ok (.int (a * b)) := by
  have l1 := log2_small h1
  have l2 := log2_small h2
  show (if a.natAbs.log2 + b.natAbs.log2 < 1000000 then R.ok (PyData.int (a * b)) else .no) = _
  rw [if_pos (by omega)]
abbrev S6 (s : D) (ns : List Nat) (a b c d : Sl) : Rho := [.sh s, .ow (ns.map natD), a, b, c, d]
theorem app_nat {s : D} {ns : List Nat} {a b c d : Sl} {f : Rho → R D} {n : Nat} (h : f (S6 s ns a b c d) = .ok (natD n)) (hl : ns.length ≤ 100000) : sApp 1 f (S6 s ns a b c d) = .nx (S6 s (ns ++ [n]) a b c d) := by
  have := ev_app (r := S6 s ns a b c d) (i := 1) (ds := ns.map natD) (d := natD n) rfl h (by rw [List.length_map]; have : sizeLine = 16777216 := rfl; omega)
  rw [this]
  show Out.nx [.sh s, .ow (ns.map natD ++ [natD n]), a, b, c, d] = Out.nx [.sh s, .ow ((ns ++ [n]).map natD), a, b, c, d]
  rw [List.map_append]
  rfl
theorem stream_ok {zs : List Int} (hz : zs.length ≤ 63) : ∃ ns : List Nat, G__law_stream [.list (zs.map .int)] = .ok (.list (ns.map natD)) ∧ ns ≠ [] ∧ ns.length ≤ 3780 := by
  let s : D := .list (zs.map .int)
  have s0 : sOwn 1 (cLst cNil) (startR 6 [s]) = .nx (S6 s [] .un .un .un .un) := ev_own rfl (Nat.le_of_ble_eq_true rfl)
  have hit : cIt (cSl (cVarC 0) cO0 (cO (cK (.int 63)))) (S6 s [] .un .un .un .un) = .ok (zs.map .int) := by
    refine ev_it (x := s) (ev_sl (x := s) (lo := none) (hi := some 63) rfl rfl rfl ?_) rfl
    show R.ok (PyData.list (Z.cutD (zs.map .int) none (some 63))) = _
    unfold Z.cutD
    rw [HT.sIx_none, List.drop_zero, Nat.sub_zero]
    have : HT.sIx (zs.map PyData.int).length (zs.map PyData.int).length (some ((63 : Nat) : Int)) = min 63 (zs.map PyData.int).length := HT.sIx_nat _ _ _
    rw [show (63 : Int) = ((63 : Nat) : Int) from rfl, this, List.take_of_length_le (by rw [List.length_map]; omega)]
  have loop := for_b (A := gNm 2) (F := sSeq (sSet 3 (cB1 absD (cB1 intD (cVarC 2))))
    (sIf (cT2 geD (cVarC 3) (cB2 powD (cK (.int 10)) (cK (.int 18)))) (sFor (cR1 (cK (.int 60))) (gNm 4) (sSeq (sApp 1 (cB2 modD (cB1 intD (cVarC 3)) (cK (.int 1009))))
    (sSeq (sSet 3 (cB2 fdivD (cVarC 3) (cK (.int 1009))))
    (sIf (cT2 eqD (cVarC 3) (cK (.int 0))) sBrk sNil)))) (sSeq (sSet 5 (cB2 modD (cB1 intD (cVarC 3)) (cK (.int 2147483647))))
    (sFor (cR1 (cK (.int 10))) (gNm 4) (sSeq (sSet 5 (cB2 modD (cB1 intD (cB2 addD (cB2 addD (cB2 mulD (cVarC 5) (cK (.int 48271))) (cB2 mulD (cK (.int 7)) (cVarC 4))) (cK (.int 11)))) (cK (.int 2147483647))))
    (sApp 1 (cB2 modD (cB2 modD (cB1 intD (cB2 addD (cB2 mulD (cVarC 5) (cK (.int 69621))) (cVarC 4))) (cK (.int 2147483629))) (cK (.int 1009)))))))))
    (N := 63) (fun k r => ∃ ns a b c d, r = S6 s ns a b c d ∧ ns.length ≤ 60 * k) (zs.map .int) 0 (S6 s [] .un .un .un .un) ⟨[], _, _, _, _, rfl, Nat.zero_le _⟩ (by rw [List.length_map]; omega) fun j d r hd hj hI => by
      obtain ⟨z, _, rfl⟩ := List.mem_map.mp hd
      obtain ⟨ns, a, b, c, d, rfl, hn⟩ := hI
      refine ⟨S6 s ns (.sh (.int z)) b c d, rfl, .inl ?_⟩
      have st : sSet 3 (cB1 absD (cB1 intD (cVarC 2))) (S6 s ns (.sh (.int z)) b c d) = .nx (S6 s ns (.sh (.int z)) (.sh (natD z.natAbs)) c d) := ev_set (ev_b1 (ev_b1 (x := .int z) rfl rfl) (abs_nat z))
      have tt : cT2 geD (cVarC 3) (cB2 powD (cK (.int 10)) (cK (.int 18))) (S6 s ns (.sh (.int z)) (.sh (natD z.natAbs)) c d) = .ok (decide ((10 : Int) ^ 18 ≤ ((z.natAbs : Nat) : Int))) := by
        refine ev_t2 (x := natD z.natAbs) (y := .int ((10 : Int) ^ 18)) rfl (ev_b2 (x := .int 10) (y := .int 18) rfl rfl ?_) rfl
        show (if (0 : Int) ≤ 18 ∧ (18 : Int) ≤ 1000000 ∧ (10 : Int).natAbs < 2 ^ 64 then R.ok (PyData.int (10 ^ (18 : Int).toNat)) else .no) = _
        rw [if_pos ⟨by decide, by decide, by decide⟩]
        rfl
      by_cases cb : (10 : Int) ^ 18 ≤ ((z.natAbs : Nat) : Int)
      · rw [decide_eq_true cb] at tt
        obtain ⟨r', h1, m, _, h2, h3, _⟩ := for_b (A := gNm 4) (F := sSeq (sApp 1 (cB2 modD (cB1 intD (cVarC 3)) (cK (.int 1009))))
          (sSeq (sSet 3 (cB2 fdivD (cVarC 3) (cK (.int 1009))))
          (sIf (cT2 eqD (cVarC 3) (cK (.int 0))) sBrk sNil))) (N := 60) (fun k r => ∃ ms v c, r = S6 s ms (.sh (.int z)) (.sh (natD v)) c d ∧ ms.length = ns.length + k) (rngL 0 60) 0 (S6 s ns (.sh (.int z)) (.sh (natD z.natAbs)) c d) ⟨ns, _, _, rfl, rfl⟩ (by rw [rng_len]; omega) fun k e r he hk hI2 => by
            obtain ⟨ms, v, c, rfl, hm⟩ := hI2
            refine ⟨S6 s ms (.sh (.int z)) (.sh (natD v)) (.sh e) d, rfl, ?_⟩
            have a1 := app_nat (s := s) (ns := ms) (a := .sh (.int z)) (b := .sh (natD v)) (c := .sh e) (d := d) (f := cB2 modD (cB1 intD (cVarC 3)) (cK (.int 1009))) (n := v % 1009) (ev_b2 (x := natD v) (y := .int (1009 : Nat)) (ev_b1 (x := natD v) rfl rfl) rfl (mod_nat v 1009 (by decide))) (by omega)
            have a2 : sSet 3 (cB2 fdivD (cVarC 3) (cK (.int 1009))) (S6 s (ms ++ [v % 1009]) (.sh (.int z)) (.sh (natD v)) (.sh e) d) = .nx (S6 s (ms ++ [v % 1009]) (.sh (.int z)) (.sh (natD (v / 1009))) (.sh e) d) := ev_set (ev_b2 (x := natD v) (y := .int (1009 : Nat)) rfl rfl (div_nat v 1009 (by decide) (by decide)))
            have a3 : cT2 eqD (cVarC 3) (cK (.int 0)) (S6 s (ms ++ [v % 1009]) (.sh (.int z)) (.sh (natD (v / 1009))) (.sh e) d) = .ok (((v / 1009 : Nat) : Int) == 0) := ev_t2 (x := natD (v / 1009)) (y := .int 0) rfl rfl (eqd_int _ _)
            have hl : (ms ++ [v % 1009]).length = ns.length + (k + 1) := by rw [List.length_append, hm]; simp only [List.length_cons, List.length_nil]; omega
            cases c0 : ((v / 1009 : Nat) : Int) == 0 with
            | true => rw [c0] at a3; exact .inr ⟨_, ev_seq a1 (ev_seq a2 (ev_ift a3 rfl)), ⟨_, _, _, rfl, hl⟩⟩
            | false => rw [c0] at a3; exact .inl ⟨_, ev_seq a1 (ev_seq a2 (ev_iff a3 rfl)), ⟨_, _, _, rfl, hl⟩⟩
        rw [rng_len] at h2
        obtain ⟨ms, v, c, rfl, hm⟩ := h3
        refine ⟨_, ev_seq st (ev_ift tt (sfor_of (ev_r1 (n := 60) rfl (by decide)) h1)), ⟨ms, _, _, _, _, rfl, by omega⟩⟩
      · rw [decide_eq_false cb] at tt
        obtain ⟨x0, e0, l0⟩ := emod_nat ((z.natAbs : Nat) : Int) (b := 2147483647) (by decide)
        have s5 : sSet 5 (cB2 modD (cB1 intD (cVarC 3)) (cK (.int 2147483647))) (S6 s ns (.sh (.int z)) (.sh (natD z.natAbs)) c d) = .nx (S6 s ns (.sh (.int z)) (.sh (natD z.natAbs)) c (.sh (natD x0))) := by
          have := ev_set (i := 5) (ev_b2 (r := S6 s ns (.sh (.int z)) (.sh (natD z.natAbs)) c d) (f := cB1 intD (cVarC 3)) (g := cK (.int 2147483647)) (ev_b1 (x := natD z.natAbs) rfl rfl) rfl (mod_i _ (by decide)))
          rw [e0] at this
          exact this
        obtain ⟨r', h1, h3⟩ := for_inv (A := gNm 4) (F := sSeq (sSet 5 (cB2 modD (cB1 intD (cB2 addD (cB2 addD (cB2 mulD (cVarC 5) (cK (.int 48271))) (cB2 mulD (cK (.int 7)) (cVarC 4))) (cK (.int 11)))) (cK (.int 2147483647))))
          (sApp 1 (cB2 modD (cB2 modD (cB1 intD (cB2 addD (cB2 mulD (cVarC 5) (cK (.int 69621))) (cVarC 4))) (cK (.int 2147483629))) (cK (.int 1009))))) (fun k r => k ≤ 10 → ∃ ms x c, r = S6 s ms (.sh (.int z)) (.sh (natD z.natAbs)) c (.sh (natD x)) ∧ x < 2147483647 ∧ ms.length = ns.length + k) (rngL 0 10) 0 (S6 s ns (.sh (.int z)) (.sh (natD z.natAbs)) c (.sh (natD x0))) (fun _ => ⟨ns, _, _, rfl, by omega, rfl⟩) fun k e r he hI2 => by
            obtain ⟨hk, rfl⟩ := rng_get he
            obtain ⟨ms, x, c, rfl, hx, hm⟩ := hI2 (by omega)
            refine ⟨S6 s ms (.sh (.int z)) (.sh (natD z.natAbs)) (.sh (natD k)) (.sh (natD x)), ?_⟩
            obtain ⟨x1, e1, l1⟩ := emod_nat ((x : Int) * 48271 + 7 * (k : Int) + 11) (b := 2147483647) (by decide)
            have b1 : sSet 5 (cB2 modD (cB1 intD (cB2 addD (cB2 addD (cB2 mulD (cVarC 5) (cK (.int 48271))) (cB2 mulD (cK (.int 7)) (cVarC 4))) (cK (.int 11)))) (cK (.int 2147483647))) (S6 s ms (.sh (.int z)) (.sh (natD z.natAbs)) (.sh (natD k)) (.sh (natD x))) = .nx (S6 s ms (.sh (.int z)) (.sh (natD z.natAbs)) (.sh (natD k)) (.sh (natD x1))) := by
              have := ev_set (i := 5) (ev_b2 (r := S6 s ms (.sh (.int z)) (.sh (natD z.natAbs)) (.sh (natD k)) (.sh (natD x))) (f := cB1 intD (cB2 addD (cB2 addD (cB2 mulD (cVarC 5) (cK (.int 48271))) (cB2 mulD (cK (.int 7)) (cVarC 4))) (cK (.int 11)))) (g := cK (.int 2147483647)) (ev_b1 (ev_b2 (ev_b2 (ev_b2 (x := natD x) (y := .int 48271) rfl rfl (mul_i (by omega) (by decide))) (ev_b2 (x := .int 7) (y := natD k) rfl rfl (mul_i (by decide) (by omega))) rfl) rfl rfl) rfl) rfl (mod_i _ (by decide)))
              rw [e1] at this
              exact this
            obtain ⟨y1, e2, l2⟩ := emod_nat (((x1 : Int) * 69621 + (k : Int)) % 2147483629) (b := 1009) (by decide)
            have b2 := app_nat (s := s) (ns := ms) (a := .sh (.int z)) (b := .sh (natD z.natAbs)) (c := .sh (natD k)) (d := .sh (natD x1)) (f := cB2 modD (cB2 modD (cB1 intD (cB2 addD (cB2 mulD (cVarC 5) (cK (.int 69621))) (cVarC 4))) (cK (.int 2147483629))) (cK (.int 1009))) (n := y1) (by
              refine ev_b2 (ev_b2 (ev_b1 (ev_b2 (ev_b2 (x := natD x1) (y := .int 69621) rfl rfl (mul_i (by omega) (by decide))) (y := natD k) rfl rfl) rfl) rfl (mod_i _ (by decide))) rfl ?_
              rw [mod_i _ (by decide), e2]
              rfl) (by omega)
            refine ⟨_, rfl, ev_seq b1 b2, fun _ => ⟨_, _, _, rfl, by omega, ?_⟩⟩
            rw [List.length_append, hm]
            simp only [List.length_cons, List.length_nil]
            omega
        rw [rng_len] at h3
        obtain ⟨ms, x, c, rfl, _, hm⟩ := h3 (by omega)
        exact ⟨_, ev_seq st (ev_iff tt (ev_seq s5 (sfor_of (ev_r1 (n := 10) rfl (by decide)) h1))), ⟨ms, _, _, _, _, rfl, by omega⟩⟩
  obtain ⟨r', h1, j, _, h2, h3, _⟩ := loop
  rw [List.length_map] at h2
  obtain ⟨ns, a, b, c, d, rfl, hn⟩ := h3
  have tl : cT2 eqD (cB1 lenD (cVarC 1)) (cK (.int 0)) (S6 s ns a b c d) = .ok (((ns.length : Nat) : Int) == 0) := by
    refine ev_t2 (x := .int (ns.length : Nat)) (y := .int 0) (ev_b1 (x := .list (ns.map natD)) rfl ?_) rfl (eqd_int _ _)
    show R.ok (PyData.int ((ns.map natD).length : Nat)) = _
    rw [List.length_map]
  by_cases e : ns = []
  · subst e
    refine ⟨[0], ev_run rfl (ev_seq s0 (ev_seq (sfor_of hit h1) (ev_seq (ev_ift (tl.trans rfl) (app_nat (n := 0) rfl (by decide))) (ev_rel (ds := ([0] : List Nat).map natD) rfl (ev_ret rfl))))), by simp, by decide⟩
  · have c0 : (((ns.length : Nat) : Int) == 0) = false := by
      rw [beq_eq_false_iff_ne]
      have := List.length_pos_iff.mpr e
      omega
    rw [c0] at tl
    exact ⟨ns, ev_run rfl (ev_seq s0 (ev_seq (sfor_of hit h1) (ev_seq (ev_iff tl rfl) (ev_rel (ds := ns.map natD) rfl (ev_ret rfl))))), e, by omega⟩
end K95


set_option Elab.async false
set_option linter.all false
set_option maxRecDepth 100000
set_option maxHeartbeats 4000000
/-! What is drawn. -/
namespace K95
open PySem PySem.Spec PyProof.Rows L2 Z
abbrev R6' (s : List D) (w : D) (l a b : Sl) : Rho := [.ow s, .sh w, .sh (natD 4), l, a, b]
def Src (ns : List Nat) : Prop := ns ≠ [] ∧ ns.length < 2 ^ 40
theorem xnil {r : Rho} : xNil r = .ok [] r := rfl
theorem nxt {i m c : Nat} {ns : List Nat} {r : Rho} {f0 : Rho → R D} (hs : Src ns) (hm : 0 < m) (hc : c < 2 ^ 20) (h : r[i]? = some (.ow (stD ns c))) (hf : f0 r = .ok (natD m)) :
    ∃ n, n < m ∧ xCallS i G__law_next (xCons (xP f0) xNil) r = .ok (natD n) (r.set i (.ow (stD ns (c + 1)))) := by
  refine ⟨nextV ns c m, Nat.mod_lt _ hm, ?_⟩
  have h0 : isOw r i = true := by unfold isOw; rw [h]
  exact ev_xcallS h0 (ev_xcons (ev_xp hf) rfl) h (next_ok hs.1 hs.2 hm hc)
def lrB (n d : Int) (p : Q) : Bool := match G__law_ratio [.int n, .int d] with
  | .ok (.tuple [.int a, .int b]) => a == p.1 && b == p.2
  | _ => false
theorem lr_all : ((List.range 14).all fun i => (List.range 6).all fun j => lrB ((i : Nat) - 4) ((j + 1 : Nat) : Int) (red ((i : Nat) - 4) (j + 1))) = true := by decide +kernel
theorem lr_ok {n : Int} {d : Nat} (h1 : -4 ≤ n) (h2 : n ≤ 9) (h3 : 1 ≤ d) (h4 : d ≤ 6) : G__law_ratio [.int n, natD d] = .ok (ratD (red n d)) := by
  have a := List.all_eq_true.mp lr_all (n + 4).toNat (List.mem_range.mpr (by omega))
  have b := List.all_eq_true.mp a (d - 1) (List.mem_range.mpr (by omega))
  have e1 : (((n + 4).toNat : Nat) : Int) - 4 = n := by omega
  have e2 : d - 1 + 1 = d := by omega
  rw [e1, e2] at b
  unfold lrB at b
  split at b
  · rename_i x y e
    rw [Bool.and_eq_true, beq_iff_eq, beq_iff_eq] at b
    show G__law_ratio [.int n, .int (d : Nat)] = _
    rw [e, b.1, b.2]
    rfl
  · cases b
theorem drawn_ok {ns : List Nat} {c most : Nat} (hs : Src ns) (hc : c < 2 ^ 19) (hm : most ≤ 4) : ∃ p ∈ DR, G__law_drawn (stD ns c) [natD most] = .ok (ratD p) (stD ns (c + 2)) := by
  obtain ⟨n1, l1, e1⟩ := nxt (i := 0) (m := 2 * most + 1) (f0 := cB2 addD (cB2 mulD (cK (.int 2)) (cVarC 1)) (cK (.int 1))) (r := [.ow (stD ns c), .sh (natD most)]) hs (by omega) (by omega) rfl (ev_b2 (ev_b2 (x := .int (2 : Nat)) (y := natD most) rfl rfl (mul_nat 2 most (by decide) (by omega))) (y := .int (1 : Nat)) rfl (add_nat _ _))
  obtain ⟨n2, l2, e2⟩ := nxt (i := 0) (m := 3) (f0 := cK (.int 3)) (r := [.ow (stD ns (c + 1)), .sh (natD most)]) hs (by omega) (by omega) rfl rfl
  obtain ⟨d, hd1, hd2, hd3⟩ : ∃ d : Nat, 1 ≤ d ∧ d ≤ 6 ∧ ixD (.list [.int 1, .int 1, .int 2]) (natD n2) = .ok (natD d) := by
    match n2, l2 with
    | 0, _ => exact ⟨1, by decide, by decide, rfl⟩
    | 1, _ => exact ⟨1, by decide, by decide, rfl⟩
    | 2, _ => exact ⟨2, by decide, by decide, rfl⟩
  refine ⟨red ((n1 : Int) - most) d, red_in (by omega) (by omega) hd1 hd2, ?_⟩
  exact ev_runX rfl (ev_xret (ev_xcall (ev_xcons (ev_xb2 e1 (ev_xp (d := natD most) rfl) rfl) (ev_xcons (ev_xb2 (ev_xp (d := .list [.int 1, .int 1, .int 2]) rfl) e2 hd3) rfl)) (lr_ok (by omega) (by omega) hd1 hd2))) rfl
theorem drw {i c most : Nat} {ns : List Nat} {r : Rho} {f0 : Rho → R D} (hs : Src ns) (hc : c < 2 ^ 19) (hm : most ≤ 4) (h : r[i]? = some (.ow (stD ns c))) (hf : f0 r = .ok (natD most)) :
    ∃ p ∈ DR, xCallS i G__law_drawn (xCons (xP f0) xNil) r = .ok (ratD p) (r.set i (.ow (stD ns (c + 2)))) := by
  obtain ⟨p, hp, e⟩ := drawn_ok hs hc hm
  have h0 : isOw r i = true := by unfold isOw; rw [h]
  exact ⟨p, hp, ev_xcallS h0 (ev_xcons (ev_xp hf) rfl) h e⟩
theorem row_ok {ns : List Nat} {c w : Nat} (hs : Src ns) (hc : c < 2 ^ 18) (hw : w ≤ 4) : ∃ row : List Q, row.length = w ∧ (∀ p ∈ row, p ∈ DR) ∧ G__law_row (stD ns c) [natD w, natD 3] = .ok (rowD row) (stD ns (c + 2 * w)) := by
  obtain ⟨out, r', h1, h2⟩ := compX_inv (vs := [3]) (A := gNm 3) (T := xYes) (f := xCallS 0 G__law_drawn (xCons (xP (cVar 2)) xNil)) (fun j r out => ∃ (row : List Q) (s : Sl), row.length = j ∧ (∀ p ∈ row, p ∈ DR) ∧ r = [.ow (stD ns (c + 2 * j)), .sh (natD w), .sh (natD 3), s] ∧ noOw [s] [0] = true ∧ out = row.map ratD) (rngL 0 w) 0 [.ow (stD ns c), .sh (natD w), .sh (natD 3), .un] [] ⟨[], .un, rfl, (fun p m => nomatch m), rfl, rfl, rfl⟩ fun j d r acc hj hI => by
    obtain ⟨hk, rfl⟩ := rng_get hj
    obtain ⟨row, s, e1, e2, rfl, e4, rfl⟩ := hI
    refine ⟨[.ow (stD ns (c + 2 * (0 + j))), .sh (natD w), .sh (natD 3), .sh (.int (j : Nat))], rfl, .inl ?_⟩
    obtain ⟨p, hp, e⟩ := drw (i := 0) (most := 3) (f0 := cVar 2) (r := [.ow (stD ns (c + 2 * (0 + j))), .sh (natD w), .sh (natD 3), .sh (.int (j : Nat))]) hs (by omega) (by decide) rfl rfl
    refine ⟨_, _, _, rfl, e, by rw [List.length_map, e1]; have : sizeLine = 16777216 := rfl; omega, rfl, row ++ [p], .sh (.int (j : Nat)), by rw [List.length_append, e1]; rfl, ?_, rfl, rfl, by rw [List.map_append]; rfl⟩
    intro q mq
    rcases List.mem_append.mp mq with mq | mq
    · exact e2 q mq
    · rw [List.mem_singleton.mp mq]; exact hp
  rw [rng_len, Nat.zero_add] at h2
  obtain ⟨row, s, e1, e2, rfl, _, rfl⟩ := h2
  exact ⟨row, e1, e2, ev_runX rfl (ev_xret (ev_xb1 (ev_xlc (r := [.ow (stD ns c), .sh (natD w), .sh (natD 3), .un]) (vs := [3]) rfl (ev_r1 (n := w) rfl (by omega)) h1) rfl)) rfl⟩
theorem conds_ok {ns : List Nat} {c w : Nat} (hs : Src ns) (hc : c < 2 ^ 17) (hw : w ≤ 4) : ∃ (cs : List Cond) (c' : Nat), cs.length ≤ 4 ∧ (∀ d ∈ cs, DCond w d) ∧ c' ≤ c + 45 ∧ G__law_conditions (stD ns c) [natD w, natD 4] = .ok (.tuple (cs.map condD)) (stD ns c') := by
  obtain ⟨n0, l0, e0⟩ := nxt (i := 0) (m := 5) (f0 := cB2 addD (cVarC 2) (cK (.int 1))) (r := R6' (stD ns c) (natD w) (.ow []) .un .un) hs (by decide) (by omega) rfl rfl
  obtain ⟨r', h1, h2⟩ := for_inv (A := gNm 4) (F := sSeq (xSet 5 (xB2 ixD (xP (cL (cLst (cCons (cK (.str (Str.ofString "<="))) (cCons (cK (.str (Str.ofString "<="))) (cCons (cK (.str (Str.ofString "<="))) (cCons (cK (.str (Str.ofString "="))) cNil))))))) (xCallS 0 G__law_next (xCons (xP (cK (.int 4))) xNil))))
    (xApp 3 (xTup (xCons (xCallS 0 G__law_row (xCons (xP (cVar 1)) (xCons (xP (cK (.int 3))) xNil))) (xCons (xP (cVar 5)) (xCons (xCall G__law_ratio (xCons (xB2 subD (xCallS 0 G__law_next (xCons (xP (cK (.int 13))) xNil)) (xP (cK (.int 3)))) (xCons (xB2 addD (xP (cK (.int 1))) (xCallS 0 G__law_next (xCons (xP (cK (.int 2))) xNil))) xNil))) xNil))))))
    (fun k r => ∃ (cs : List Cond) (c' : Nat) (a b : Sl), cs.length = k ∧ (∀ d ∈ cs, DCond w d) ∧ c' ≤ c + 1 + 11 * k ∧ r = R6' (stD ns c') (natD w) (.ow (cs.map condD)) a b) (rngL 0 n0) 0 (R6' (stD ns (c + 1)) (natD w) (.ow []) .un .un) ⟨[], c + 1, .un, .un, rfl, (fun d m => nomatch m), Nat.le_refl _, rfl⟩ fun k e r he hI => by
      obtain ⟨hk, rfl⟩ := rng_get he
      obtain ⟨cs, c', a, b, e1, e2, e3, rfl⟩ := hI
      refine ⟨R6' (stD ns c') (natD w) (.ow (cs.map condD)) (.sh (.int (k : Nat))) b, ?_⟩
      obtain ⟨n1, l1, f1⟩ := nxt (i := 0) (m := 4) (f0 := cK (.int 4)) (r := R6' (stD ns c') (natD w) (.ow (cs.map condD)) (.sh (.int (k : Nat))) b) hs (by decide) (by omega) rfl rfl
      obtain ⟨rel, hr1, hr2⟩ : ∃ rel : Str, (rel = leS ∨ rel = eqS) ∧ ixD (.list [.str leS, .str leS, .str leS, .str eqS]) (natD n1) = .ok (.str rel) := by
        match n1, l1 with
        | 0, _ => exact ⟨leS, .inl rfl, rfl⟩
        | 1, _ => exact ⟨leS, .inl rfl, rfl⟩
        | 2, _ => exact ⟨leS, .inl rfl, rfl⟩
        | 3, _ => exact ⟨eqS, .inr rfl, rfl⟩
      have g1 := ev_xset (i := 5) (ev_xb2 (O := ixD) (ev_xp (f0 := cL (cLst (cCons (cK (.str (Str.ofString "<="))) (cCons (cK (.str (Str.ofString "<="))) (cCons (cK (.str (Str.ofString "<="))) (cCons (cK (.str (Str.ofString "="))) cNil)))))) (d := .list [.str leS, .str leS, .str leS, .str eqS]) rfl) f1 hr2)
      obtain ⟨row, r1, r2, r3⟩ := row_ok (c := c' + 1) (w := w) hs (by omega) hw
      have g2 : xCallS 0 G__law_row (xCons (xP (cVar 1)) (xCons (xP (cK (.int 3))) xNil)) (R6' (stD ns (c' + 1)) (natD w) (.ow (cs.map condD)) (.sh (.int (k : Nat))) (.sh (.str rel))) = .ok (rowD row) (R6' (stD ns (c' + 1 + 2 * w)) (natD w) (.ow (cs.map condD)) (.sh (.int (k : Nat))) (.sh (.str rel))) := ev_xcallS rfl (ev_xcons (ev_xp rfl) (ev_xcons (ev_xp rfl) rfl)) rfl r3
      obtain ⟨n2, l2, f2⟩ := nxt (i := 0) (m := 13) (f0 := cK (.int 13)) (r := R6' (stD ns (c' + 1 + 2 * w)) (natD w) (.ow (cs.map condD)) (.sh (.int (k : Nat))) (.sh (.str rel))) hs (by decide) (by omega) rfl rfl
      obtain ⟨n3, l3, f3⟩ := nxt (i := 0) (m := 2) (f0 := cK (.int 2)) (r := R6' (stD ns (c' + 1 + 2 * w + 1)) (natD w) (.ow (cs.map condD)) (.sh (.int (k : Nat))) (.sh (.str rel))) hs (by decide) (by omega) rfl rfl
      have g3 := ev_xapp (i := 3) (ds := cs.map condD) (r := R6' (stD ns (c' + 1)) (natD w) (.ow (cs.map condD)) (.sh (.int (k : Nat))) (.sh (.str rel))) rfl (ev_xtup (ev_xcons g2 (ev_xcons (ev_xp (f0 := cVar 5) (d := .str rel) rfl) (ev_xcons (ev_xcall (Gd := G__law_ratio) (ev_xcons (ev_xb2 (O := subD) f2 (ev_xp (f0 := cK (.int 3)) rfl) rfl) (ev_xcons (ev_xb2 (O := addD) (ev_xp (f0 := cK (.int 1)) (d := .int (1 : Nat)) rfl) f3 (add_nat 1 n3)) xnil)) (lr_ok (n := (n2 : Int) - 3) (d := 1 + n3) (by omega) (by omega) (by omega) (by omega))) xnil))) (by exact small (Nat.le_of_ble_eq_true rfl))) rfl (by rw [List.length_map, e1]; have : sizeLine = 16777216 := rfl; omega)
      refine ⟨_, rfl, ev_seq g1 g3, cs ++ [(row, rel, red ((n2 : Int) - 3) (1 + n3))], c' + 1 + 2 * w + 1 + 1, .sh (.int (k : Nat)), .sh (.str rel), by rw [List.length_append, e1]; simp, ?_, by omega, ?_⟩
      · intro q mq
        rcases List.mem_append.mp mq with mq | mq
        · exact e2 q mq
        · rw [List.mem_singleton.mp mq]
          exact ⟨r1, r2, hr1, red_in (by omega) (by omega) (by omega) (by omega)⟩
      · rw [List.map_append]
        rfl
  rw [rng_len, Nat.zero_add] at h2
  obtain ⟨cs, c', a, b, e1, e2, e3, rfl⟩ := h2
  exact ⟨cs, c', by omega, e2, by omega, ev_runX rfl (ev_seq (ev_own rfl (Nat.le_of_ble_eq_true rfl)) (ev_seq (ev_xfor (ev_xr1 e0 (rng1_nat (by omega))) h1) (ev_ret rfl))) rfl⟩
theorem duelD_ok {ns : List Nat} {c : Nat} (hs : Src ns) (hc : c < 2 ^ 17) : ∃ (n : Nat) (rows : List (List Q)) (c' : Nat), DDuel n rows ∧ c' ≤ c + 34 ∧ G__law_duel (stD ns c) [natD 4] = .ok (duelD rows) (stD ns c') := by
  obtain ⟨n0, l0, e0⟩ := nxt (i := 0) (m := 4) (f0 := cVar 1) (r := [.ow (stD ns c), .sh (natD 4), .un, .un, .un, .un]) hs (by decide) (by omega) rfl rfl
  have g0 := ev_xset (i := 2) (ev_xb2 (O := addD) (ev_xp (f0 := cK (.int 1)) (d := .int (1 : Nat)) rfl) e0 (add_nat 1 n0))
  obtain ⟨n1, l1, e1⟩ := nxt (i := 0) (m := 4) (f0 := cVar 1) (r := [.ow (stD ns (c + 1)), .sh (natD 4), .sh (natD (1 + n0)), .un, .un, .un]) hs (by decide) (by omega) rfl rfl
  have g1 := ev_xset (i := 3) (ev_xb2 (O := addD) (ev_xp (f0 := cK (.int 1)) (d := .int (1 : Nat)) rfl) e1 (add_nat 1 n1))
  obtain ⟨out, r', h1, h2⟩ := compX_inv (vs := [4]) (A := gNm 4) (T := xYes) (f := xB1 tupD (xLc [5] (cR1 (cVar 3)) (gNm 5) xYes (xCallS 0 G__law_drawn (xCons (xP (cK (.int 4))) xNil)))) (fun j r out => ∃ (rows : List (List Q)) (c' : Nat) (s : Sl), rows.length = j ∧ (∀ row ∈ rows, row.length = 1 + n1 ∧ ∀ p ∈ row, p ∈ DR) ∧ c' = c + 2 + 2 * (1 + n1) * j ∧ r = [.ow (stD ns c'), .sh (natD 4), .sh (natD (1 + n0)), .sh (natD (1 + n1)), s, .un] ∧ noOw [s] [0] = true ∧ out = rows.map rowD) (rngL 0 (1 + n0)) 0 [.ow (stD ns (c + 2)), .sh (natD 4), .sh (natD (1 + n0)), .sh (natD (1 + n1)), .un, .un] [] ⟨[], c + 2, .un, rfl, (fun p m => nomatch m), by omega, rfl, rfl, rfl⟩ fun j d r acc hj hI => by
    obtain ⟨hk, rfl⟩ := rng_get hj
    obtain ⟨rows, c', s, e1, e2, e3, rfl, e4, rfl⟩ := hI
    have hc' : c' < c + 60 := by
      have : 2 * (1 + n1) * (0 + j) ≤ 8 * 4 := Nat.mul_le_mul (by omega) (by omega)
      omega
    refine ⟨[.ow (stD ns c'), .sh (natD 4), .sh (natD (1 + n0)), .sh (natD (1 + n1)), .sh (.int (j : Nat)), .un], rfl, .inl ?_⟩
    obtain ⟨out2, r2, k1, k2⟩ := compX_inv (vs := [5]) (A := gNm 5) (T := xYes) (f := xCallS 0 G__law_drawn (xCons (xP (cK (.int 4))) xNil)) (fun i r out => ∃ (row : List Q) (s : Sl), row.length = i ∧ (∀ p ∈ row, p ∈ DR) ∧ r = [.ow (stD ns (c' + 2 * i)), .sh (natD 4), .sh (natD (1 + n0)), .sh (natD (1 + n1)), .sh (.int (j : Nat)), s] ∧ noOw [s] [0] = true ∧ out = row.map ratD) (rngL 0 (1 + n1)) 0 [.ow (stD ns c'), .sh (natD 4), .sh (natD (1 + n0)), .sh (natD (1 + n1)), .sh (.int (j : Nat)), .un] [] ⟨[], .un, rfl, (fun p m => nomatch m), rfl, rfl, rfl⟩ fun i d r acc hi hI => by
      obtain ⟨hk2, rfl⟩ := rng_get hi
      obtain ⟨row, s, f1, f2, rfl, f4, rfl⟩ := hI
      refine ⟨[.ow (stD ns (c' + 2 * (0 + i))), .sh (natD 4), .sh (natD (1 + n0)), .sh (natD (1 + n1)), .sh (.int (j : Nat)), .sh (.int (i : Nat))], rfl, .inl ?_⟩
      obtain ⟨p, hp, e⟩ := drw (i := 0) (most := 4) (f0 := cK (.int 4)) (r := [.ow (stD ns (c' + 2 * (0 + i))), .sh (natD 4), .sh (natD (1 + n0)), .sh (natD (1 + n1)), .sh (.int (j : Nat)), .sh (.int (i : Nat))]) hs (by omega) (by decide) rfl rfl
      refine ⟨_, _, _, rfl, e, by rw [List.length_map, f1]; have : sizeLine = 16777216 := rfl; omega, rfl, row ++ [p], .sh (.int (i : Nat)), by rw [List.length_append, f1]; rfl, ?_, rfl, rfl, by rw [List.map_append]; rfl⟩
      intro q mq
      rcases List.mem_append.mp mq with mq | mq
      · exact f2 q mq
      · rw [List.mem_singleton.mp mq]; exact hp
    rw [rng_len, Nat.zero_add] at k2
    obtain ⟨row, s2, f1, f2, rfl, _, rfl⟩ := k2
    have inner := ev_xb1 (O := tupD) (ev_xlc (r := [.ow (stD ns c'), .sh (natD 4), .sh (natD (1 + n0)), .sh (natD (1 + n1)), .sh (.int (j : Nat)), .un]) (vs := [5]) (fi := cR1 (cVar 3)) rfl (ev_r1 (n := 1 + n1) rfl (by omega)) k1) rfl
    refine ⟨_, _, _, rfl, inner, by rw [List.length_map, e1]; have : sizeLine = 16777216 := rfl; omega, rfl, rows ++ [row], c' + 2 * (1 + n1), .sh (.int (j : Nat)), by rw [List.length_append, e1]; rfl, ?_, ?_, rfl, rfl, by rw [List.map_append]; rfl⟩
    · intro q mq
      rcases List.mem_append.mp mq with mq | mq
      · exact e2 q mq
      · rw [List.mem_singleton.mp mq]; exact ⟨f1, f2⟩
    · have : 2 * (1 + n1) * (0 + j + 1) = 2 * (1 + n1) * (0 + j) + 2 * (1 + n1) := Nat.mul_succ _ _
      omega
  rw [rng_len, Nat.zero_add] at h2
  obtain ⟨rows, c', s, f1, f2, f3, rfl, _, rfl⟩ := h2
  refine ⟨1 + n1, rows, c', ⟨by omega, by omega, by omega, by omega, f2⟩, ?_, ev_runX rfl (ev_seq g0 (ev_seq g1 (ev_xret (ev_xb1 (ev_xlc (r := [.ow (stD ns (c + 2)), .sh (natD 4), .sh (natD (1 + n0)), .sh (natD (1 + n1)), .un, .un]) (vs := [4]) rfl (ev_r1 (n := 1 + n0) rfl (by omega)) h1) rfl)))) rfl⟩
  have : 2 * (1 + n1) * (1 + n0) ≤ 8 * 4 := Nat.mul_le_mul (by omega) (by omega)
  omega
theorem rows_drawn {ns : List Nat} {c m : Nat} (hs : Src ns) (hc : c < 2 ^ 18) (hm : m ≤ 4) : ∃ ps : List Nat, ps.Pairwise (· < ·) ∧ (∀ n ∈ ps, n < 2 ^ m) ∧ G__law_rows (stD ns c) [natD m] = .ok (plD ps) (stD ns (c + 2 ^ m)) := by
  have hpow : 2 ^ m ≤ 16 := Nat.pow_le_pow_right (n := 2) (by decide) hm
  obtain ⟨out, r', h1, h2⟩ := compX_inv (vs := [2]) (A := gNm 2) (T := xT2 eqD (xCallS 0 G__law_next (xCons (xP (cK (.int 2))) xNil)) (xP (cK (.int 0)))) (f := xP (cVar 2)) (fun j r out => ∃ (ps : List Nat) (s : Sl), ps.length ≤ j ∧ ps.Pairwise (· < ·) ∧ (∀ n ∈ ps, n < j) ∧ r = [.ow (stD ns (c + j)), .sh (natD m), s] ∧ noOw [s] [0] = true ∧ out = ps.map natD) (rngL 0 (2 ^ m)) 0 [.ow (stD ns c), .sh (natD m), .un] [] ⟨[], .un, Nat.le_refl _, .nil, (fun p m => nomatch m), rfl, rfl, rfl⟩ fun j d r acc hj hI => by
    obtain ⟨hk, rfl⟩ := rng_get hj
    obtain ⟨ps, s, e1, e2, e3, rfl, e4, rfl⟩ := hI
    refine ⟨[.ow (stD ns (c + (0 + j))), .sh (natD m), .sh (.int (j : Nat))], rfl, ?_⟩
    obtain ⟨n, ln, e⟩ := nxt (i := 0) (m := 2) (f0 := cK (.int 2)) (r := [.ow (stD ns (c + (0 + j))), .sh (natD m), .sh (.int (j : Nat))]) hs (by decide) (by omega) rfl rfl
    have t := ev_xt2 (O := eqD) e (ev_xp (f0 := cK (.int 0)) rfl) (eqd_int (n : Nat) 0)
    cases cb : ((n : Nat) : Int) == 0 with
    | true =>
      rw [cb] at t
      refine .inl ⟨_, _, _, t, ev_xp rfl, by rw [List.length_map]; have : sizeLine = 16777216 := rfl; omega, rfl, ps ++ [j], .sh (.int (j : Nat)), by rw [List.length_append]; simp only [List.length_cons, List.length_nil]; omega, ?_, ?_, rfl, rfl, by rw [List.map_append]; rfl⟩
      · rw [List.pairwise_append]
        refine ⟨e2, List.pairwise_singleton _ _, fun a ma b mb => ?_⟩
        rw [List.mem_singleton.mp mb]
        have := e3 a ma
        omega
      · intro q mq
        rcases List.mem_append.mp mq with mq | mq
        · have := e3 q mq; omega
        · rw [List.mem_singleton.mp mq]; omega
    | false =>
      rw [cb] at t
      exact .inr ⟨_, t, rfl, ps, .sh (.int (j : Nat)), by omega, e2, fun q mq => by have := e3 q mq; omega, rfl, rfl, rfl⟩
  rw [rng_len, Nat.zero_add] at h2
  obtain ⟨ps, s, e1, e2, e3, rfl, _, rfl⟩ := h2
  refine ⟨ps, e2, e3, ev_runX rfl (ev_xret (ev_xb1 (ev_xlc (r := [.ow (stD ns c), .sh (natD m), .un]) (vs := [2]) rfl (ev_r1 (n := 2 ^ m) (ev_b2 (x := .int 1) (y := natD m) rfl rfl ?_) (by omega)) h1) rfl)) rfl⟩
  show (if (0 : Int) ≤ ((m : Nat) : Int) ∧ ((m : Nat) : Int) ≤ 1000000 ∧ (1 : Int).natAbs < 2 ^ 64 then R.ok (PyData.int (1 * 2 ^ ((m : Nat) : Int).toNat)) else .no) = _
  rw [if_pos ⟨by omega, by omega, by decide⟩, Int.toNat_natCast, Int.one_mul]
  congr 2
theorem red_unit : ∀ b, b ≤ 6 → 1 ≤ b → ∀ n, n ≤ b → 0 ≤ (red (n : Nat) b).1 ∧ (red (n : Nat) b).1 ≤ (red (n : Nat) b).2 := by
  have h : ((List.range 7).all fun b => (List.range 7).all fun n => !(decide (1 ≤ b) && decide (n ≤ b)) || (decide (0 ≤ (red (n : Nat) b).1) && decide ((red (n : Nat) b).1 ≤ (red (n : Nat) b).2))) = true := by decide +kernel
  intro b hb h1 n hn
  have a := List.all_eq_true.mp (List.all_eq_true.mp h b (List.mem_range.mpr (by omega))) n (List.mem_range.mpr (by omega))
  rw [decide_eq_true h1, decide_eq_true hn] at a
  simpa using a
theorem clsD_ok {ns : List Nat} {c m : Nat} (hs : Src ns) (hc : c < 2 ^ 17) (hm1 : 1 ≤ m) (hm : m ≤ 4) : ∃ (cs : List Claim) (c' : Nat), DCls m cs ∧ c' ≤ c + 77 ∧ G__law_claims (stD ns c) [natD m, natD 4] = .ok (claimsT cs) (stD ns c') := by
  have hpow : 2 ^ m ≤ 16 := Nat.pow_le_pow_right (n := 2) (by decide) hm
  obtain ⟨n0, l0, e0⟩ := nxt (i := 0) (m := 5) (f0 := cB2 addD (cVarC 2) (cK (.int 1))) (r := R6' (stD ns c) (natD m) (.ow []) .un .un) hs (by decide) (by omega) rfl rfl
  obtain ⟨r', h1, h2⟩ := for_inv (A := gNm 4) (F := sSeq (xSet 5 (xB2 addD (xP (cK (.int 1))) (xCallS 0 G__law_next (xCons (xP (cK (.int 6))) xNil))))
    (xApp 3 (xTup (xCons (xCallS 0 G__law_rows (xCons (xP (cVar 1)) xNil)) (xCons (xB2 ixD (xP (cL (cLst (cCons (cK (.str (Str.ofString "<="))) (cCons (cK (.str (Str.ofString "="))) (cCons (cK (.str (Str.ofString ">="))) cNil)))))) (xCallS 0 G__law_next (xCons (xP (cK (.int 3))) xNil))) (xCons (xCall G__law_ratio (xCons (xCallS 0 G__law_next (xCons (xP (cB2 addD (cVarC 5) (cK (.int 1)))) xNil)) (xCons (xP (cVar 5)) xNil))) xNil))))))
    (fun k r => ∃ (cs : List Claim) (c' : Nat) (a b : Sl), cs.length = k ∧ (∀ d ∈ cs, DClaim m d) ∧ c' ≤ c + 1 + 19 * k ∧ r = R6' (stD ns c') (natD m) (.ow (cs.map claimD)) a b) (rngL 0 n0) 0 (R6' (stD ns (c + 1)) (natD m) (.ow []) .un .un) ⟨[], c + 1, .un, .un, rfl, (fun d m => nomatch m), Nat.le_refl _, rfl⟩ fun k e r he hI => by
      obtain ⟨hk, rfl⟩ := rng_get he
      obtain ⟨cs, c', a, b, e1, e2, e3, rfl⟩ := hI
      refine ⟨R6' (stD ns c') (natD m) (.ow (cs.map claimD)) (.sh (.int (k : Nat))) b, ?_⟩
      obtain ⟨n1, l1, f1⟩ := nxt (i := 0) (m := 6) (f0 := cK (.int 6)) (r := R6' (stD ns c') (natD m) (.ow (cs.map claimD)) (.sh (.int (k : Nat))) b) hs (by decide) (by omega) rfl rfl
      have g1 := ev_xset (i := 5) (ev_xb2 (O := addD) (ev_xp (f0 := cK (.int 1)) (d := .int (1 : Nat)) rfl) f1 (add_nat 1 n1))
      obtain ⟨ps, r1, r2, r3⟩ := rows_drawn (c := c' + 1) (m := m) hs (by omega) hm
      have g2 : xCallS 0 G__law_rows (xCons (xP (cVar 1)) xNil) (R6' (stD ns (c' + 1)) (natD m) (.ow (cs.map claimD)) (.sh (.int (k : Nat))) (.sh (natD (1 + n1)))) = .ok (plD ps) (R6' (stD ns (c' + 1 + 2 ^ m)) (natD m) (.ow (cs.map claimD)) (.sh (.int (k : Nat))) (.sh (natD (1 + n1)))) := ev_xcallS rfl (ev_xcons (ev_xp rfl) rfl) rfl r3
      obtain ⟨n2, l2, f2⟩ := nxt (i := 0) (m := 3) (f0 := cK (.int 3)) (r := R6' (stD ns (c' + 1 + 2 ^ m)) (natD m) (.ow (cs.map claimD)) (.sh (.int (k : Nat))) (.sh (natD (1 + n1)))) hs (by decide) (by omega) rfl rfl
      obtain ⟨rel, hr1, hr2⟩ : ∃ rel : Str, (rel = leS ∨ rel = eqS ∨ rel = geS) ∧ ixD (.list [.str leS, .str eqS, .str geS]) (natD n2) = .ok (.str rel) := by
        match n2, l2 with
        | 0, _ => exact ⟨leS, .inl rfl, rfl⟩
        | 1, _ => exact ⟨eqS, .inr (.inl rfl), rfl⟩
        | 2, _ => exact ⟨geS, .inr (.inr rfl), rfl⟩
      obtain ⟨n3, l3, f3⟩ := nxt (i := 0) (m := 1 + n1 + 1) (f0 := cB2 addD (cVarC 5) (cK (.int 1))) (r := R6' (stD ns (c' + 1 + 2 ^ m + 1)) (natD m) (.ow (cs.map claimD)) (.sh (.int (k : Nat))) (.sh (natD (1 + n1)))) hs (by omega) (by omega) rfl (ev_b2 (x := natD (1 + n1)) (y := .int (1 : Nat)) rfl rfl (add_nat _ _))
      have g3 := ev_xapp (i := 3) (ds := cs.map claimD) (r := R6' (stD ns (c' + 1)) (natD m) (.ow (cs.map claimD)) (.sh (.int (k : Nat))) (.sh (natD (1 + n1)))) rfl (ev_xtup (ev_xcons g2 (ev_xcons (ev_xb2 (O := ixD) (ev_xp (f0 := cL (cLst (cCons (cK (.str (Str.ofString "<="))) (cCons (cK (.str (Str.ofString "="))) (cCons (cK (.str (Str.ofString ">="))) cNil))))) (d := .list [.str leS, .str eqS, .str geS]) rfl) f2 hr2) (ev_xcons (ev_xcall (Gd := G__law_ratio) (ev_xcons f3 (ev_xcons (ev_xp (f0 := cVar 5) (d := natD (1 + n1)) rfl) xnil)) (lr_ok (n := (n3 : Nat)) (d := 1 + n1) (by omega) (by omega) (by omega) (by omega))) xnil))) (by exact small (Nat.le_of_ble_eq_true rfl))) rfl (by rw [List.length_map, e1]; have : sizeLine = 16777216 := rfl; omega)
      refine ⟨_, rfl, ev_seq g1 g3, cs ++ [(ps, rel, red (n3 : Nat) (1 + n1))], c' + 1 + 2 ^ m + 1 + 1, .sh (.int (k : Nat)), .sh (natD (1 + n1)), by rw [List.length_append, e1]; simp, ?_, by omega, ?_⟩
      · intro q mq
        rcases List.mem_append.mp mq with mq | mq
        · exact e2 q mq
        · rw [List.mem_singleton.mp mq]
          obtain ⟨u1, u2⟩ := red_unit (1 + n1) (by omega) (by omega) n3 (by omega)
          exact ⟨r1, r2, hr1, red_in (by omega) (by omega) (by omega) (by omega), u1, u2⟩
      · rw [List.map_append]
        rfl
  rw [rng_len, Nat.zero_add] at h2
  obtain ⟨cs, c', a, b, e1, e2, e3, rfl⟩ := h2
  exact ⟨cs, c', ⟨hm1, hm, by omega, e2⟩, by omega, ev_runX rfl (ev_seq (ev_own rfl (Nat.le_of_ble_eq_true rfl)) (ev_seq (ev_xfor (ev_xr1 e0 (rng1_nat (by omega))) h1) (ev_ret rfl))) rfl⟩
end K95


set_option Elab.async false
set_option linter.all false
set_option maxRecDepth 100000
set_option maxHeartbeats 4000000
/-! Spoilt texts: short lines. -/
namespace K95
open PySem PySem.Spec PyProof.Rows L2 Z
def run : List Nat → Nat
  | [] => 0
  | c :: r => if c = 10 then 0 else run r + 1
def NLs (b : Nat) : List Nat → Prop
  | [] => True
  | c :: r => run (c :: r) ≤ b ∧ NLs b r
theorem NLs.run_le {b : Nat} : ∀ {xs : List Nat}, NLs b xs → run xs ≤ b
  | [], _ => Nat.zero_le _
  | c :: r, h => h.1
theorem NLs.mono {a b : Nat} (hab : a ≤ b) : ∀ {xs : List Nat}, NLs a xs → NLs b xs
  | [], _ => trivial
  | c :: r, h => ⟨Nat.le_trans h.1 hab, NLs.mono hab h.2⟩
theorem run_app : ∀ xs ys : List Nat, run (xs ++ ys) ≤ run xs + run ys
  | [], ys => by simp [run]
  | c :: r, ys => by
    show (if c = 10 then 0 else run (r ++ ys) + 1) ≤ (if c = 10 then 0 else run r + 1) + run ys
    have := run_app r ys
    split <;> omega
theorem NLs.app {a b : Nat} : ∀ {xs ys : List Nat}, NLs a xs → NLs b ys → NLs (a + b) (xs ++ ys)
  | [], ys, _, h => h.mono (by omega)
  | c :: r, ys, h, hy => by
    refine ⟨?_, h.2.app hy⟩
    have := run_app (c :: r) ys
    have h1 := h.1
    have h2 := hy.run_le
    show run ((c :: r) ++ ys) ≤ _
    omega
theorem NLs.drop {b : Nat} : ∀ (n : Nat) {xs : List Nat}, NLs b xs → NLs b (xs.drop n)
  | 0, xs, h => by simpa using h
  | n + 1, [], _ => trivial
  | n + 1, c :: r, h => NLs.drop n h.2
theorem run_take : ∀ (n : Nat) (xs : List Nat), run (xs.take n) ≤ run xs
  | 0, xs => by simp [run]
  | n + 1, [] => Nat.le_refl _
  | n + 1, c :: r => by
    show (if c = 10 then 0 else run (r.take n) + 1) ≤ (if c = 10 then 0 else run r + 1)
    have := run_take n r
    split <;> omega
theorem NLs.take {b : Nat} : ∀ (n : Nat) {xs : List Nat}, NLs b xs → NLs b (xs.take n)
  | 0, xs, _ => by simp [NLs]
  | n + 1, [], _ => trivial
  | n + 1, c :: r, h => ⟨Nat.le_trans (run_take (n + 1) (c :: r)) h.1, NLs.take n h.2⟩
theorem run_free : ∀ {l ys : List Nat}, 10 ∉ l → run (l ++ 10 :: ys) = l.length
  | [], ys, _ => by simp [run]
  | c :: r, ys, h => by
    show (if c = 10 then 0 else run (r ++ 10 :: ys) + 1) = _
    rw [if_neg (fun e => h (by rw [e]; exact List.mem_cons_self)), run_free fun m => h (List.mem_cons_of_mem _ m)]
    rfl
theorem run_free0 : ∀ {l : List Nat}, 10 ∉ l → run l = l.length
  | [], _ => rfl
  | c :: r, h => by
    show (if c = 10 then 0 else run r + 1) = _
    rw [if_neg (fun e => h (by rw [e]; exact List.mem_cons_self)), run_free0 fun m => h (List.mem_cons_of_mem _ m)]
    rfl
theorem NLs.line {b : Nat} {ys : List Nat} (hy : NLs b ys) : ∀ {l : List Nat}, 10 ∉ l → l.length ≤ b → NLs b (l ++ 10 :: ys)
  | [], _, _ => ⟨by simp [run], hy⟩
  | c :: r, h, hl => by
    refine ⟨?_, NLs.line hy (fun m => h (List.mem_cons_of_mem _ m)) (by simp only [List.length_cons] at hl; omega)⟩
    show run ((c :: r) ++ 10 :: ys) ≤ b
    rw [run_free h]
    exact hl
theorem NLs.free {b : Nat} : ∀ {l : List Nat}, 10 ∉ l → l.length ≤ b → NLs b l
  | [], _, _ => trivial
  | c :: r, h, hl => by
    refine ⟨?_, NLs.free (fun m => h (List.mem_cons_of_mem _ m)) (by simp only [List.length_cons] at hl; omega)⟩
    rw [run_free0 h]
    exact hl
theorem NLs.join {b : Nat} : ∀ {ps : List (List Nat)}, (∀ p ∈ ps, 10 ∉ p ∧ p.length ≤ b) → NLs b (TL.joinL [10] ps)
  | [], _ => trivial
  | [p], h => NLs.free (h p List.mem_cons_self).1 (h p List.mem_cons_self).2
  | p :: q :: r, h => by
    show NLs b (p ++ ([10] ++ TL.joinL [10] (q :: r)))
    exact NLs.line (NLs.join fun u m => h u (List.mem_cons_of_mem _ m)) (h p List.mem_cons_self).1 (h p List.mem_cons_self).2
theorem NLs.parts {b : Nat} : ∀ {ps : List (List Nat)}, (∀ p ∈ ps, 10 ∉ p) → NLs b (TL.joinL [10] ps) → ∀ p ∈ ps, p.length ≤ b
  | [p], h, hn, q, m => by
    rw [List.mem_singleton.mp m]
    have := hn.run_le
    rw [show TL.joinL [10] [p] = p from rfl, run_free0 (h p List.mem_cons_self)] at this
    exact this
  | p :: u :: r, h, hn, q, m => by
    have hn' : NLs b (p ++ 10 :: TL.joinL [10] (u :: r)) := hn
    rcases List.mem_cons.mp m with e | m
    · subst e
      have := hn'.run_le
      rw [run_free (h q List.mem_cons_self)] at this
      exact this
    · have hd := hn'.drop (p.length + 1)
      have e : (p ++ 10 :: TL.joinL [10] (u :: r)).drop (p.length + 1) = TL.joinL [10] (u :: r) := by
        rw [List.drop_append]
        simp
      rw [e] at hd
      exact NLs.parts (fun v mv => h v (List.mem_cons_of_mem _ mv)) hd q m
theorem run_len : ∀ xs : List Nat, run xs ≤ xs.length
  | [] => Nat.le_refl _
  | c :: r => by
    show (if c = 10 then 0 else run r + 1) ≤ r.length + 1
    have := run_len r
    split <;> omega
theorem NLs.of_len {b : Nat} : ∀ {xs : List Nat}, xs.length ≤ b → NLs b xs
  | [], _ => trivial
  | c :: r, h => ⟨Nat.le_trans (run_len _) h, NLs.of_len (by simp only [List.length_cons] at h; omega)⟩
/-- short lines, lawful signs -/
structure Ok1 (x : Str) : Prop where
  k : PyData.strOk x = true
  l : x.length ≤ 60000
  n : NLs 120 (TL.tl x)
theorem Ok1.thin {x : Str} (h : Ok1 x) : Thin x := fun rows hr ws mws w mw => by
  unfold rowsO at hr
  rw [if_neg (by have := h.l; omega)] at hr
  split at hr
  case isFalse => cases hr
  cases hr
  obtain ⟨l, ml, rfl⟩ := List.mem_map.mp mws
  have gx : Good x := ⟨h.k, h.l⟩
  have ml' := List.dropLast_subset _ ml
  have gl := (good_part tl_nl gx).1 l ml'
  have e : TL.tl x = TL.joinL [10] ((Txt.split x nlS).map TL.tl) := by
    have := congrArg TL.tl (split_back x nlS)
    rw [TL.join_eq, TL.tl_join, tl_nl] at this
    exact this.symm
  have hl : l.length ≤ 120 := by
    have hn := h.n
    rw [e] at hn
    have := NLs.parts (fun p mp => by
      obtain ⟨q, mq, rfl⟩ := List.mem_map.mp mp
      exact nl_free x q mq) hn (TL.tl l) (List.mem_map_of_mem ml')
    rw [TL.len_tl]
    exact this
  have e2 : TL.tl l = TL.joinL [32] ((Txt.split l sepS).map TL.tl) := by
    have := congrArg TL.tl (split_back l sepS)
    rw [TL.join_eq, TL.tl_join, tl_sp] at this
    exact this.symm
  have := (joinL_mem (s := 32) (List.mem_map_of_mem (f := TL.tl) mw)).1
  rw [← e2, ← TL.len_tl, ← TL.len_tl] at this
  omega
theorem sound_all {k : Nat} {x : Str} (hk : k < 3) (h : Ok1 x) : Sound (k : Nat) x := by
  have hl : x.length ≤ 1000000 := Nat.le_trans h.l (by decide)
  match k, hk with
  | 0, _ => exact sound_sys h.k hl
  | 1, _ => exact sound_duel h.k hl
  | 2, _ => exact sound_cls h.k hl h.thin
/-- half a text -/
structure Ok0 (b n : Nat) (x : Str) : Prop where
  k : PyData.strOk x = true
  l : x.length ≤ n
  n : NLs b (TL.tl x)
theorem Ok0.app {a b m n : Nat} {x y : Str} (hx : Ok0 a m x) (hy : Ok0 b n y) : Ok0 (a + b) (m + n) (x ++ y) :=
  ⟨strOk_app hx.k hy.k, by rw [Str.length_append]; have := hx.l; have := hy.l; omega, by rw [TL.tl_append]; exact hx.n.app hy.n⟩
theorem Ok0.cut {b n : Nat} {x : Str} {lo hi : Option Int} (h : Ok0 b n x) : Ok0 b n (cutS x lo hi) :=
  ⟨strOk_cut h.k, Nat.le_trans len_cut h.l, by rw [tl_cut]; exact (h.n.drop _).take _⟩
theorem Ok0.ok1 {b n : Nat} {x : Str} (h : Ok0 b n x) (hb : b ≤ 120) (hn : n ≤ 60000) : Ok1 x := ⟨h.k, Nat.le_trans h.l hn, h.n.mono hb⟩
theorem pg_ok0 {x : Str} (h : PgOk x) : Ok0 56 285 x := by
  refine ⟨pg_strOk h, ?_, ?_⟩
  · obtain ⟨ls, e, h1, _, h2⟩ := h.ex
    rw [e]
    have := page_len (ls := ls) (b := 56) fun l m => (h2 l m).1
    omega
  · obtain ⟨ls, e, h1, _, h2⟩ := h.ex
    rw [e, page_join, TL.join_eq, TL.tl_join, tl_nl]
    refine NLs.join fun p mp => ?_
    obtain ⟨l, ml, rfl⟩ := List.mem_map.mp mp
    rcases List.mem_append.mp ml with ml | ml
    · exact ⟨(h2 l ml).2.1, by rw [← TL.len_tl]; exact (h2 l ml).1⟩
    · rw [List.mem_singleton.mp ml, tl_em]
      exact ⟨nofun, Nat.zero_le _⟩
/-- lines, joined -/
theorem join_ok0 {ls : List Str} (h : ∀ l ∈ ls, l.length ≤ 56 ∧ 10 ∉ TL.tl l ∧ PyData.strOk l = true) (hn : ls.length ≤ 20) : Ok0 56 1140 (Txt.join nlS ls) := by
  refine ⟨?_, ?_, ?_⟩
  · rw [TL.join_eq]
    exact join_strOk (by decide +kernel) fun l m => (h l m).2.2
  · by_cases e : ls = []
    · subst e; decide +kernel
    have h1 := joinL_sum (TL.tl nlS) (ls.map TL.tl) (by simpa using e)
    rw [← TL.tl_join, ← TL.join_eq, ← TL.len_tl, List.map_map, List.length_map, tl_nl] at h1
    have h2 : ∀ us : List Str, (∀ w ∈ us, w.length ≤ 56) → (us.map (List.length ∘ TL.tl)).sum ≤ 56 * us.length := by
      intro us
      induction us with
      | nil => intro _; simp
      | cons u us ih =>
        intro h
        have a := h u List.mem_cons_self
        have c := ih fun w m => h w (List.mem_cons_of_mem _ m)
        rw [TL.len_tl] at a
        simp only [List.map_cons, List.sum_cons, List.length_cons, Function.comp, Nat.mul_add] at c ⊢
        omega
    have h3 := h2 ls fun l m => (h l m).1
    have h4 : (Txt.join nlS ls).length + 1 = (ls.map (List.length ∘ TL.tl)).sum + ls.length * 1 := h1
    omega
  · rw [TL.join_eq, TL.tl_join, tl_nl]
    refine NLs.join fun p mp => ?_
    obtain ⟨l, ml, rfl⟩ := List.mem_map.mp mp
    exact ⟨(h l ml).2.1, by rw [← TL.len_tl]; exact (h l ml).1⟩
theorem cut_str (ls : List Str) (lo hi : Option Int) : ∃ us : List Str, Z.cutD (ls.map .str) lo hi = us.map .str ∧ (∀ u ∈ us, u ∈ ls) ∧ us.length ≤ ls.length := by
  unfold Z.cutD
  refine ⟨(ls.drop (HT.sIx (ls.map PyData.str).length 0 lo)).take (HT.sIx (ls.map PyData.str).length (ls.map PyData.str).length hi - HT.sIx (ls.map PyData.str).length 0 lo), ?_, fun u m => List.mem_of_mem_drop (List.mem_of_mem_take m), ?_⟩
  · rw [List.map_take, List.map_drop]
  · rw [List.length_take, List.length_drop]; omega
def signS : Str := Str.ofString " -/019<=+x\n"
theorem sign_ok : ∀ n, n < 11 → ∃ s : Str, ixD (.str signS) (natD n) = .ok (.str s) ∧ Ok0 1 1 s := by
  intro n hn
  have e : signS.cps.toList = [32, 45, 47, 48, 49, 57, 60, 61, 43, 120, 10] := by decide +kernel
  have key : ∀ c, c ∈ signS.cps.toList → Ok0 1 1 (⟨#[c]⟩ : Str) := fun c m => by
    rw [e] at m
    refine ⟨strOk_tl.mpr fun d md => ?_, by show 1 ≤ 1; decide, ?_⟩
    · rw [List.mem_singleton.mp md]
      simp at m
      omega
    · show NLs 1 [c]
      refine ⟨?_, trivial⟩
      show (if c = 10 then 0 else run [] + 1) ≤ 1
      split
      · decide
      · exact Nat.le_refl 1
  have hl : n < signS.cps.toList.length := by rw [e]; exact hn
  refine ⟨⟨#[signS.cps.toList[n]]⟩, ?_, key _ (List.getElem_mem hl)⟩
  show (if signS.length ≤ sizeLine then (match atI signS.cps.toList ((n : Nat) : Int) with
    | some c => R.ok (PyData.str ⟨#[c]⟩)
    | none => .no) else .no) = _
  rw [if_pos (by decide +kernel), atI_nat (List.getElem?_eq_getElem hl)]
abbrev R7' (s : List D) (a b c d e f : Sl) : Rho := [.ow s, a, b, c, d, e, f]
theorem spoilt_ok {ns : List Nat} {c : Nat} {x : Str} (hs : Src ns) (hc : c < 2 ^ 18) (hx : PgOk x) : ∃ y, Ok1 y ∧ G__law_spoilt (stD ns c) [.str x] = .ok (.str y) (stD ns (c + 4)) := by
  have o0 := pg_ok0 hx
  obtain ⟨ls, ex, hl1, hl2, hl3⟩ := hx.ex
  have xl : x.length ≤ 285 := o0.l
  obtain ⟨n1, b1, f1⟩ := nxt (i := 0) (m := x.length + 1) (f0 := cB2 addD (cB1 lenD (cVarC 1)) (cK (.int 1))) (r := R7' (stD ns c) (.sh (.str x)) .un .un .un .un .un) hs (by omega) (by omega) rfl (ev_b2 (y := .int (1 : Nat)) (ev_b1 (x := .str x) rfl (lenD_str (small (by omega)))) rfl (add_nat _ _))
  have g1 := ev_xset (i := 2) f1
  obtain ⟨n2, b2, f2⟩ := nxt (i := 0) (m := 11) (f0 := cK (.int 11)) (r := R7' (stD ns (c + 1)) (.sh (.str x)) (.sh (natD n1)) .un .un .un .un) hs (by decide) (by omega) rfl rfl
  obtain ⟨sg, es, os⟩ := sign_ok n2 b2
  have g2 := ev_xset (i := 3) (ev_xb2 (O := ixD) (ev_xp (f0 := cK (.str (Str.ofString " -/019<=+x\n"))) (d := .str signS) rfl) f2 es)
  have gx : Good x := ⟨o0.k, by omega⟩
  have es2 : Txt.split x nlS = ls ++ [emS] := by rw [ex]; exact split_page fun l m => (hl3 l m).2.1
  have g3 : sSet 4 (cL (cM1F splitD (cVarC 1) (cK (.str (Str.ofString "\n"))))) (R7' (stD ns (c + 2)) (.sh (.str x)) (.sh (natD n1)) (.sh (.str sg)) .un .un .un) = .nx (R7' (stD ns (c + 2)) (.sh (.str x)) (.sh (natD n1)) (.sh (.str sg)) (.sh (.list ((ls ++ [emS]).map .str))) .un .un) := by
    rw [← es2]
    exact ev_set (ev_l (ev_m1F (a := x) rfl rfl (splitD_good len_nl gx)))
  obtain ⟨n3, b3, f3⟩ := nxt (i := 0) (m := (ls ++ [emS]).length) (f0 := cB1 lenD (cVarC 4)) (r := R7' (stD ns (c + 2)) (.sh (.str x)) (.sh (natD n1)) (.sh (.str sg)) (.sh (.list ((ls ++ [emS]).map .str))) .un .un) hs (by simp) (by omega) rfl (by
    refine ev_b1 (x := .list ((ls ++ [emS]).map .str)) rfl ?_
    show R.ok (PyData.int (((ls ++ [emS]).map PyData.str).length : Nat)) = _
    rw [List.length_map]
    rfl)
  have g4 := ev_xset (i := 5) f3
  let r5 : Rho := R7' (stD ns (c + 3)) (.sh (.str x)) (.sh (natD n1)) (.sh (.str sg)) (.sh (.list ((ls ++ [emS]).map .str))) (.sh (natD n3)) .un
  have cutx : ∀ (lo hi : Option Int) (r : Rho) (l h : OF), cVarC 1 r = .ok (.str x) → l r = .ok lo → h r = .ok hi → cSl (cVarC 1) l h r = .ok (.str (cutS x lo hi)) := fun lo hi r l h h1 h2 h3 => ev_sl h1 h2 h3 (slD_str (small (by omega)))
  have ad : cB2 addD (cVar 2) (cK (.int 1)) r5 = .ok (natD (n1 + 1)) := ev_b2 (x := natD n1) (y := .int (1 : Nat)) rfl rfl (add_nat _ _)
  have c1 := cutx none (some (n1 : Nat)) r5 cO0 (cO (cVar 2)) rfl rfl rfl
  have c2 := cutx (some ((n1 + 1 : Nat) : Int)) none r5 (cO (cB2 addD (cVar 2) (cK (.int 1)))) cO0 rfl (ev_o ad) rfl
  have c3 := cutx (some (n1 : Nat)) none r5 (cO (cVar 2)) cO0 rfl rfl rfl
  have c4 := cutx none (some (-1)) r5 cO0 (cO (cB1 negD (cK (.int 1)))) rfl rfl rfl
  have oc : ∀ lo hi, Ok0 56 285 (cutS x lo hi) := fun lo hi => o0.cut
  have osp : Ok0 1 1 sepS := by
    refine ⟨by decide +kernel, by decide +kernel, ?_⟩
    rw [tl_sp]
    exact ⟨by decide, trivial⟩
  have v1 := (oc none (some (n1 : Nat))).app (oc (some ((n1 + 1 : Nat) : Int)) none)
  have v2a := (oc none (some (n1 : Nat))).app os
  have v2 := v2a.app (oc (some (n1 : Nat)) none)
  have v3 := v2a.app (oc (some ((n1 + 1 : Nat) : Int)) none)
  have v5 := osp.app o0
  have ap : ∀ {a b : Str} {m n : Nat}, a.length ≤ m → b.length ≤ n → m + n ≤ 1000000 → addD (.str a) (.str b) = .ok (.str (a ++ b)) := fun h1 h2 h3 => addD_str (small (by omega))
  let five : List Str := [cutS x none (some (n1 : Nat)) ++ cutS x (some ((n1 + 1 : Nat) : Int)) none, cutS x none (some (n1 : Nat)) ++ sg ++ cutS x (some (n1 : Nat)) none, cutS x none (some (n1 : Nat)) ++ sg ++ cutS x (some ((n1 + 1 : Nat) : Int)) none, cutS x none (some (-1)), sepS ++ x]
  have g5 : sSet 6 (cL (cLst (cCons (cB2 addD (cSl (cVarC 1) cO0 (cO (cVar 2))) (cSl (cVarC 1) (cO (cB2 addD (cVar 2) (cK (.int 1)))) cO0)) (cCons (cB2 addD (cB2 addD (cSl (cVarC 1) cO0 (cO (cVar 2))) (cVarC 3)) (cSl (cVarC 1) (cO (cVar 2)) cO0)) (cCons (cB2 addD (cB2 addD (cSl (cVarC 1) cO0 (cO (cVar 2))) (cVarC 3)) (cSl (cVarC 1) (cO (cB2 addD (cVar 2) (cK (.int 1)))) cO0)) (cCons (cSl (cVarC 1) cO0 (cO (cB1 negD (cK (.int 1))))) (cCons (cB2 addD (cK (.str (Str.ofString " "))) (cVarC 1)) cNil))))))) r5 = .nx (r5.set 6 (.sh (.list (five.map .str)))) := by
    refine ev_set (ev_l (ev_lst (ds := five.map .str) (ev_cons (ev_b2 c1 c2 (ap (oc _ _).l (oc _ _).l (by decide))) (ev_cons (ev_b2 (ev_b2 c1 (y := .str sg) rfl (ap (oc _ _).l os.l (by decide))) c3 (ap v2a.l (oc _ _).l (by decide))) (ev_cons (ev_b2 (ev_b2 c1 (y := .str sg) rfl (ap (oc _ _).l os.l (by decide))) c2 (ap v2a.l (oc _ _).l (by decide))) (ev_cons c4 (ev_cons (ev_b2 (x := .str sepS) (y := .str x) rfl rfl (ap osp.l o0.l (by decide))) rfl))))) (small (Nat.le_of_ble_eq_true rfl))))
  let r6 : Rho := R7' (stD ns (c + 3)) (.sh (.str x)) (.sh (natD n1)) (.sh (.str sg)) (.sh (.list ((ls ++ [emS]).map .str))) (.sh (natD n3)) (.sh (.list (five.map .str)))
  obtain ⟨ua, ea, ma, la⟩ := cut_str (ls ++ [emS]) none (some (n3 : Nat))
  obtain ⟨ub, eb, mb, lb⟩ := cut_str (ls ++ [emS]) (some ((n3 + 1 : Nat) : Int)) none
  obtain ⟨uc, ec, mc, lc⟩ := cut_str (ls ++ [emS]) (some (n3 : Nat)) (some ((n3 + 1 : Nat) : Int))
  obtain ⟨ud, ed, md, ld⟩ := cut_str (ls ++ [emS]) (some (n3 : Nat)) none
  have hlen : (ls ++ [emS]).length ≤ 6 := by rw [List.length_append]; simp only [List.length_cons, List.length_nil]; omega
  have hline : ∀ l ∈ ls ++ [emS], l.length ≤ 56 ∧ 10 ∉ TL.tl l ∧ PyData.strOk l = true := fun l m => by
    rcases List.mem_append.mp m with m | m
    · exact hl3 l m
    · rw [List.mem_singleton.mp m, tl_em]
      exact ⟨by decide +kernel, nofun, by decide +kernel⟩
  have ad3 : cB2 addD (cVar 5) (cK (.int 1)) r6 = .ok (natD (n3 + 1)) := ev_b2 (x := natD n3) (y := .int (1 : Nat)) rfl rfl (add_nat _ _)
  have cutl : ∀ (lo hi : Option Int) (l h : OF) (us : List Str), Z.cutD ((ls ++ [emS]).map .str) lo hi = us.map .str → l r6 = .ok lo → h r6 = .ok hi → cSl (cVarC 4) l h r6 = .ok (.list (us.map .str)) := fun lo hi l h us e h2 h3 => ev_sl (x := .list ((ls ++ [emS]).map .str)) rfl h2 h3 (by show R.ok (PyData.list (Z.cutD _ lo hi)) = _; rw [e])
  have k1 := cutl _ _ cO0 (cO (cVar 5)) ua ea rfl rfl
  have k2 := cutl _ _ (cO (cB2 addD (cVar 5) (cK (.int 1)))) cO0 ub eb (ev_o ad3) rfl
  have k3 := cutl _ _ (cO (cVar 5)) (cO (cB2 addD (cVar 5) (cK (.int 1)))) uc ec rfl (ev_o ad3)
  have k4 := cutl _ _ (cO (cVar 5)) cO0 ud ed rfl rfl
  have lapp : ∀ (us vs : List Str), us.length + vs.length ≤ 1000 → addD (.list (us.map .str)) (.list (vs.map .str)) = .ok (.list ((us ++ vs).map .str)) := fun us vs h => by
    rw [List.map_append]
    exact addD_list (small (by rw [List.length_map, List.length_map]; omega))
  have j1 : ∀ l ∈ ua ++ ub, l.length ≤ 56 ∧ 10 ∉ TL.tl l ∧ PyData.strOk l = true := fun l m => by
    rcases List.mem_append.mp m with m | m
    · exact hline l (ma l m)
    · exact hline l (mb l m)
  have j2 : ∀ l ∈ ua ++ uc ++ ud, l.length ≤ 56 ∧ 10 ∉ TL.tl l ∧ PyData.strOk l = true := fun l m => by
    rcases List.mem_append.mp m with m | m
    · rcases List.mem_append.mp m with m | m
      · exact hline l (ma l m)
      · exact hline l (mc l m)
    · exact hline l (md l m)
  have o6 := join_ok0 j1 (by rw [List.length_append]; omega)
  have o7 := join_ok0 j2 (by rw [List.length_append, List.length_append]; omega)
  obtain ⟨n4, b4, f4⟩ := nxt (i := 0) (m := 7) (f0 := cK (.int 7)) (r := r6) hs (by decide) (by omega) rfl rfl
  let seven : List Str := five ++ [Txt.join nlS (ua ++ ub), Txt.join nlS (ua ++ uc ++ ud)]
  have e7 : cB2 addD (cVarC 6) (cL (cLst (cCons (cM1 joinD (cK (.str (Str.ofString "\n"))) (cB2 addD (cSl (cVarC 4) cO0 (cO (cVar 5))) (cSl (cVarC 4) (cO (cB2 addD (cVar 5) (cK (.int 1)))) cO0))) (cCons (cM1 joinD (cK (.str (Str.ofString "\n"))) (cB2 addD (cB2 addD (cSl (cVarC 4) cO0 (cO (cVar 5))) (cSl (cVarC 4) (cO (cVar 5)) (cO (cB2 addD (cVar 5) (cK (.int 1)))))) (cSl (cVarC 4) (cO (cVar 5)) cO0))) cNil)))) r6 = .ok (.list (seven.map .str)) := by
    refine ev_b2 (x := .list (five.map .str)) (y := .list ([Txt.join nlS (ua ++ ub), Txt.join nlS (ua ++ uc ++ ud)].map .str)) rfl (ev_l (ev_lst (ev_cons (ev_m1 (a := nlS) rfl (ev_b2 k1 k2 (lapp _ _ (by omega))) (joinD_ok (by rw [len_nl]; omega) (Nat.le_trans o6.l (by decide)))) (ev_cons (ev_m1 (a := nlS) rfl (ev_b2 (ev_b2 k1 k3 (lapp _ _ (by omega))) k4 (lapp _ _ (by rw [List.length_append]; omega))) (joinD_ok (by rw [len_nl]; omega) (Nat.le_trans o7.l (by decide)))) rfl)) (small (Nat.le_of_ble_eq_true rfl)))) (lapp _ _ (Nat.le_of_ble_eq_true rfl))
  have h7 : ∀ v ∈ seven, Ok1 v := by
    show ∀ v ∈ [_, _, _, _, _, _, _], Ok1 v
    refine List.forall_mem_cons.mpr ⟨v1.ok1 (by decide) (by decide), List.forall_mem_cons.mpr ⟨v2.ok1 (by decide) (by decide), List.forall_mem_cons.mpr ⟨v3.ok1 (by decide) (by decide), List.forall_mem_cons.mpr ⟨(oc _ _).ok1 (by decide) (by decide), List.forall_mem_cons.mpr ⟨v5.ok1 (by decide) (by decide), List.forall_mem_cons.mpr ⟨o6.ok1 (by decide) (by decide), List.forall_mem_cons.mpr ⟨o7.ok1 (by decide) (by decide), by simp⟩⟩⟩⟩⟩⟩⟩
  have hn4 : n4 < seven.length := b4
  refine ⟨seven[n4], h7 _ (List.getElem_mem hn4), ?_⟩
  exact ev_runX rfl (ev_seq g1 (ev_seq g2 (ev_seq g3 (ev_seq g4 (ev_seq g5 (ev_xret (ev_xb2 (O := ixD) (ev_xp (r := r6) e7) f4 (ix_l n4 rfl (by rw [List.getElem?_map, List.getElem?_eq_getElem hn4]; rfl)))))))) ) rfl
end K95


set_option Elab.async false
set_option linter.all false
set_option maxRecDepth 100000
set_option maxHeartbeats 4000000
/-! Values that are refused; texts that are no form. -/
namespace K95
open PySem PySem.Spec PyProof.Rows L2 Z
theorem ex_good : (R.ex 1 : R D) ≠ .no ∧ ∀ j, (R.ex 1 : R D) = .ex j → j = 1 ∨ j = 2 := ⟨fun e => (nomatch e), fun j e => by cases e; exact .inl rfl⟩
theorem wsys_x {w : Int} {cs : List Cond} (hc : ∀ c ∈ cs, CondOk c) (hn : cs.length ≤ 60001) (hk : chkS w cs = false) : G__law_told [.int 0, sysD w cs] = .ok refD := by
  have e : G_system_text [sysD w cs] = .ex 1 := ex_run rfl (ex_seq (ex_ex (callO rfl (by rw [chkS_ok hc hn, hk]; rfl))))
  exact told_sysT ex_good e
theorem wduel_x {rows : List (List Q)} (hc : ∀ row ∈ rows, row.length ≤ 60001 ∧ ∀ p ∈ row, SmQ p) (hn : rows.length ≤ 60001) (hk : chkU rows = false) : G__law_told [.int 1, duelD rows] = .ok refD := by
  have e : G_duel_text [duelD rows] = .ex 1 := ex_run rfl (ex_seq (ex_ex (callO rfl (by rw [chkU_ok hn hc, hk]; rfl))))
  exact told_duelT ex_good e
theorem wcls_x {m : Nat} {cs : List Claim} (hc : ∀ c ∈ cs, ClaimOk c) (hn : cs.length ≤ 60001) (hk : chkL m cs = false) : G__law_told [.int 2, .tuple [natD m, claimsT cs]] = .ok refD := by
  refine told_clsX (ex_run rfl (ex_seq (ex_ex (i := 1) ?_)))
  show (cCons (cVar 0) (cCons (cVar 1) cNil) (startR 9 [natD m, claimsT cs])).bind G_check_claims = _
  show G_check_claims [natD m, claimsT cs] = _
  rw [chkL_ok hc hn, hk]
  rfl
theorem sm1 : SmQ (1, 1) := ⟨by unfold Sm; decide +kernel, by unfold Sm; decide +kernel⟩
theorem sm0 : SmQ (0, 1) := ⟨by unfold Sm; decide +kernel, by unfold Sm; decide +kernel⟩
def badC (w : Nat) : Cond := (List.replicate (w + 1) (1, 1), leS, (0, 1))
theorem bad_sys {w : Nat} {cs : List Cond} (h : DSys w cs) : G__law_bad [sysD (w : Nat) cs] = .ok (sysD (w : Nat) (cs ++ [badC w])) ∧ G__law_told [.int 0, sysD (w : Nat) (cs ++ [badC w])] = .ok refD := by
  have hw := h.w2
  have hw1 := h.w1
  have hn := h.n
  constructor
  · have a0 : sAsg (gTp (gsCons (gNm 1) (gsCons (gNm 2) gsNil))) (cVar 0) (startR 3 [sysD (w : Nat) cs]) = .nx [.sh (sysD (w : Nat) cs), .sh (.int (w : Nat)), .sh (.tuple (cs.map condD))] := ev_asg (d := sysD (w : Nat) cs) rfl rfl
    have rp : cB2 repD (cTup (cCons (cTup (cCons (cK (.int 1)) (cCons (cK (.int 1)) cNil))) cNil)) (cB2 addD (cVarC 1) (cK (.int 1))) [.sh (sysD (w : Nat) cs), .sh (.int (w : Nat)), .sh (.tuple (cs.map condD))] = .ok (rowD (List.replicate (w + 1) (1, 1))) := by
      refine ev_b2 (x := .tuple [.tuple [.int 1, .int 1]]) (y := .int ((w + 1 : Nat) : Int)) rfl (ev_b2 (x := .int (w : Nat)) (y := .int (1 : Nat)) rfl rfl (add_nat _ _)) ?_
      show (if [PyData.tuple [.int 1, .int 1]] ≠ [] ∧ (2 : Int) ≤ ((w + 1 : Nat) : Int) ∧ ((w + 1 : Nat) : Int) ≤ 1000 ∧ [PyData.tuple [.int 1, .int 1]].length ≤ 1000 then R.ok (PyData.tuple (List.replicate ((w + 1 : Nat) : Int).toNat [PyData.tuple [.int 1, .int 1]]).flatten) else .no) = _
      rw [if_pos ⟨by simp, by omega, by omega, Nat.le_of_ble_eq_true rfl⟩, Int.toNat_natCast]
      unfold rowD
      rw [List.map_replicate]
      congr 2
      generalize w + 1 = n
      induction n with
      | zero => rfl
      | succ n ih => rw [List.replicate_succ, List.flatten_cons, ih]; rfl
    refine ev_run rfl (ev_seq a0 (ev_ret (ev_tup (ds := [.int (w : Nat), .tuple ((cs ++ [badC w]).map condD)]) (ev_cons (x := .int (w : Nat)) rfl (ev_cons (ev_b2 (x := .tuple (cs.map condD)) (y := .tuple [condD (badC w)]) rfl (ev_tup (ev_cons (ev_tup (ev_cons rp (ev_cons (x := .str leS) rfl (ev_cons (x := .tuple [.int 0, .int 1]) rfl rfl))) (small (Nat.le_of_ble_eq_true rfl))) rfl) (small (Nat.le_of_ble_eq_true rfl))) ?_) rfl)) (small (Nat.le_of_ble_eq_true rfl)))))
    rw [List.map_append]
    show (if (cs.map condD).length + [condD (badC w)].length ≤ sizeLine then R.ok (PyData.tuple (cs.map condD ++ [condD (badC w)])) else .no) = _
    rw [if_pos (small (by rw [List.length_map]; simp only [List.length_cons, List.length_nil]; omega))]
    rfl
  · refine wsys_x (fun c mc => ?_) (by rw [List.length_append]; simp only [List.length_cons, List.length_nil]; omega) ?_
    · rcases List.mem_append.mp mc with mc | mc
      · obtain ⟨h1, h2, h3, h4⟩ := h.c c mc
        exact ⟨by omega, fun p mp => (dr_ok (h2 p mp)).sm, free_ok (rel_ok h3).1, (dr_ok h4).sm⟩
      · rw [List.mem_singleton.mp mc]
        exact ⟨by unfold badC; rw [List.length_replicate]; omega, fun p mp => by rw [(List.mem_replicate.mp mp).2]; exact sm1, (by show PyData.strOk leS = true; decide +kernel), sm0⟩
    · unfold chkS
      have : okC (w : Nat) (badC w) = false := by
        unfold okC badC
        rw [decide_eq_false (by rw [List.length_replicate]; omega)]
        rfl
      rw [List.all_append]
      simp [this]
theorem bad_duel {n : Nat} {rows : List (List Q)} (h : DDuel n rows) : ∃ r0 rest, rows = r0 :: rest ∧ G__law_told [.int 1, duelD (rows ++ [r0 ++ [(1, 1)]])] = .ok refD := by
  have hr1 := h.r1
  have hr2 := h.r2
  have hn2 := h.n2
  cases rows with
  | nil => simp at hr1
  | cons r0 rest =>
    refine ⟨r0, rest, rfl, wduel_x (fun row mr => ?_) (by rw [List.length_append]; simp only [List.length_cons, List.length_nil] at hr2 ⊢; omega) ?_⟩
    · rcases List.mem_append.mp mr with mr | mr
      · obtain ⟨h1, h2⟩ := h.c row mr
        exact ⟨by omega, fun p mp => (dr_ok (h2 p mp)).sm⟩
      · rw [List.mem_singleton.mp mr]
        obtain ⟨h1, h2⟩ := h.c r0 List.mem_cons_self
        refine ⟨by rw [List.length_append]; simp only [List.length_cons, List.length_nil]; omega, fun p mp => ?_⟩
        rcases List.mem_append.mp mp with mp | mp
        · exact (dr_ok (h2 p mp)).sm
        · rw [List.mem_singleton.mp mp]; exact sm1
    · show (decide ((rest ++ [r0 ++ [(1, 1)]]).length + 1 ≤ 8 ∧ 1 ≤ r0.length ∧ r0.length ≤ 8) && (r0 :: (rest ++ [r0 ++ [(1, 1)]])).all fun row => decide (row.length = r0.length) && row.all isR) = false
      have : (r0 :: (rest ++ [r0 ++ [((1 : Int), (1 : Int))]])).all (fun row => decide (row.length = r0.length) && row.all isR) = false := by
        rw [List.all_cons, List.all_append]
        have e : decide ((r0 ++ [((1 : Int), (1 : Int))]).length = r0.length) = false := decide_eq_false (by rw [List.length_append]; simp)
        have e2 : [r0 ++ [((1 : Int), (1 : Int))]].all (fun row => decide (row.length = r0.length) && row.all isR) = false := by
          rw [List.all_cons, e]
          rfl
        rw [e2, Bool.and_false, Bool.and_false]
      rw [this, Bool.and_false]
theorem bad_cls5 : G__law_told [.int 2, .tuple [.int 5, .tuple []]] = .ok refD := wcls_x (m := 5) (cs := []) (fun c m => nomatch m) (Nat.zero_le _) (by decide +kernel)
abbrev isS : Str := Str.ofString "is"
theorem bad_clsI {m : Nat} : G__law_told [.int 2, .tuple [natD m, claimsT [([], isS, (0, 1))]]] = .ok refD := by
  refine wcls_x (fun c mc => ?_) (by decide) ?_
  · rw [List.mem_singleton.mp mc]
    exact ⟨by decide, by decide +kernel, sm0⟩
  · unfold chkL
    have : okL m ([], isS, (0, 1)) = false := by
      unfold okL
      have e : ((isS == leS) || ((isS == eqS) || (isS == geS))) = false := by decide +kernel
      show (rowsB m [] && (((isS == leS) || ((isS == eqS) || (isS == geS))) && _)) = false
      rw [e, Bool.false_and, Bool.and_false]
    simp [this]
/-! ### texts that are no form -/
theorem fold_tl : ∀ (l : List (Array Nat)) (acc : Array Nat), (l.foldl (· ++ ·) acc).toList = acc.toList ++ (l.map Array.toList).flatten
  | [], acc => by simp
  | a :: l, acc => by
    rw [List.foldl_cons, fold_tl l (acc ++ a), Array.toList_append, List.map_cons, List.flatten_cons, List.append_assoc]
def repS (n : Nat) : Str := ⟨(List.replicate n (Str.ofString "x").cps).foldl (· ++ ·) #[]⟩
theorem rep_tl (n : Nat) : TL.tl (repS n) = List.replicate n 120 := by
  show (List.foldl (· ++ ·) #[] (List.replicate n (Str.ofString "x").cps)).toList = _
  rw [fold_tl]
  have e : (Str.ofString "x").cps.toList = [120] := by decide +kernel
  rw [List.map_replicate, e]
  induction n with
  | zero => rfl
  | succ n ih =>
    rw [List.replicate_succ, List.flatten_cons, List.replicate_succ]
    simpa using ih
theorem rep_len (n : Nat) : (repS n).length = n := by rw [TL.len_tl, rep_tl, List.length_replicate]
theorem rep_ok (n : Nat) : PyData.strOk (repS n) = true := strOk_tl.mpr fun c m => by
  rw [rep_tl] at m
  rw [(List.mem_replicate.mp m).2]
  decide
def bigN : Nat := 60001
theorem bigN_eq : bigN = 60001 := rfl
def bigS : Str := repS bigN
theorem big_len : bigS.length = bigN := rep_len bigN
theorem big_ok : PyData.strOk bigS = true := rep_ok bigN
theorem big_no : rowsO bigS = none := by
  unfold rowsO
  rw [if_pos (by rw [big_len, bigN_eq]; omega)]
def nineS : List Str := [Str.ofString "", Str.ofString "\n", Str.ofString "duel\n", Str.ofString "unknowns 0\n", Str.ofString "events 5\n", Str.ofString "unknowns 1\n1 < 2\n", Str.ofString "duel\n1/0\n", Str.ofString "events 1\n+ = 1\n", Str.ofString "events 1\n1+0 = 1\n"]
def tenS : List Str := nineS.take 6 ++ bigS :: nineS.drop 6
def noneB (x : Str) : Bool := PyData.strOk x && (decide (x.length ≤ 100) && ((rdSys x).isNone && ((rdDuel x).isNone && (rdCls x).isNone)))
theorem nine_no : nineS.all noneB = true := by decide +kernel
theorem ten_mem {x : Str} (h : x ∈ tenS) : x = bigS ∨ x ∈ nineS := by
  rcases List.mem_append.mp (show x ∈ nineS.take 6 ++ bigS :: nineS.drop 6 from h) with h | h
  · exact .inr (List.mem_of_mem_take h)
  · rcases List.mem_cons.mp h with h | h
    · exact .inl h
    · exact .inr (List.mem_of_mem_drop h)
theorem ten_form {x : Str} (h : x ∈ tenS) {k : Nat} (hk : k < 3) : G__law_told [.int ((k : Nat) + 3), .str x] = .ok formD := by
  obtain ⟨h1, h2, h3, h4, h5, h6⟩ : PyData.strOk x = true ∧ x.length ≤ 1000000 ∧ Thin x ∧ rdSys x = none ∧ rdDuel x = none ∧ rdCls x = none := by
    rcases ten_mem h with rfl | h
    · refine ⟨big_ok, by rw [big_len, bigN_eq]; omega, (fun rows hr => by rw [big_no] at hr; cases hr), ?_, ?_, ?_⟩
      · unfold rdSys; rw [big_no]; rfl
      · unfold rdDuel; rw [big_no]; rfl
      · unfold rdCls; rw [big_no]; rfl
    · have := List.all_eq_true.mp nine_no x h
      unfold noneB at this
      simp only [Bool.and_eq_true, decide_eq_true_eq, Option.isNone_iff_eq_none] at this
      obtain ⟨a, b, c, d, e⟩ := this
      refine ⟨a, by omega, ?_, c, d, e⟩
      refine Ok1.thin ⟨a, by omega, NLs.of_len ?_⟩
      rw [← TL.len_tl]
      omega
  match k, hk with
  | 0, _ =>
    have e := told_sysR (oR_good (.inr rfl)) (sys_ok h1 h2)
    rw [h4] at e
    exact e
  | 1, _ =>
    have e := told_duelR (oR_good (.inr rfl)) (duel_ok h1 h2)
    rw [h5] at e
    exact e
  | 2, _ =>
    have e := told_clsR (oR_good (.inr rfl)) (cls_ok h1 h2 h3)
    rw [h6] at e
    exact e
end K95


set_option Elab.async false
set_option linter.all false
set_option maxRecDepth 100000
set_option maxHeartbeats 4000000
/-! The law. -/
namespace K95
open PySem PySem.Spec PyProof.Rows L2 Z
abbrev RL (s : D) (st : List D) (a2 a3 a4 a5 a6 a7 a8 a9 a10 a11 a12 : Sl) : Rho := [.sh s, .ow st, a2, a3, a4, a5, a6, a7, a8, a9, a10, a11, a12]
theorem same_ok {A : D} {b : Nat} (h1 : Smk 30 A) (h2 : Shw b A) (hb : b ≤ 900000) : G__law_same [A, A] = .ok (.bool true) := by
  have hs : Shw (1 * (b + 2) + 3) (.list [A]) := shw_list (n := 1) (List.forall_mem_cons.mpr ⟨h2, by simp⟩) (Nat.le_refl _)
  have hm : Smk 40 (.list [A]) := smk_list (k := 39) (List.forall_mem_cons.mpr ⟨⟨h1.1, Nat.le_trans h1.2 (by decide)⟩, by simp⟩)
  have r0 : ∀ i, cVar i (startR 2 [A, A]) = .ok A → cB1 reprD (cL (cLst (cCons (cVar i) cNil))) (startR 2 [A, A]) = .ok (.str (PyData.list [A]).shown) := fun i h => ev_b1 (x := .list [A]) (ev_l (ev_lst (ev_cons h rfl) (small (Nat.le_of_ble_eq_true rfl)))) (repr_ok hs (by omega) hm)
  exact ev_run rfl (ev_ret (ev_bl (ev_t2 (r0 0 rfl) (r0 1 rfl) (eqD_self (shp (smk_str hs.k))))))
theorem smk_told {k : Nat} {v : D} (h : Smk k v) : Smk (k + 1) (toldD v) := smk_tup (List.forall_mem_cons.mpr ⟨smk_str (by decide +kernel), List.forall_mem_cons.mpr ⟨h, by simp⟩⟩)
theorem smk_up {a b : Nat} {d : D} (h : Smk a d) (hab : a ≤ b) : Smk b d := ⟨h.1, Nat.le_trans h.2 hab⟩
theorem shw_told {b : Nat} {v : D} (h : Shw b v) (hb : 62 ≤ b) : Shw (2 * (b + 2) + 3) (toldD v) := shw_tup (n := 2) (List.forall_mem_cons.mpr ⟨(shw_str (n := 6) (by decide +kernel) (by decide +kernel) (by decide)).mono hb, List.forall_mem_cons.mpr ⟨h, by simp⟩⟩) (Nat.le_refl _)
theorem smk_form : Smk 20 formD := smk_str (by decide +kernel)
theorem smk_ref : Smk 20 refD := smk_str (by decide +kernel)
abbrev SP : SF := sSeq (xSet 12 (xCallS 1 G__law_spoilt (xCons (xP (cVar 10)) xNil)))
    (sSeq (sSet 3 (cCall G__law_told (cCons (cB2 addD (cVarC 4) (cK (.int 3))) (cCons (cVar 12) cNil))))
    (sIf (cAnd (cT2 neD (cVarC 3) (cK (.str (Str.ofString "form")))) (cOr (cT2 neD (cB2 ixD (cVarC 3) (cK (.int 0))) (cK (.str (Str.ofString "told")))) (cOr (cT2 neD (cCall G__law_text (cCons (cVar 4) (cCons (cB2 ixD (cVarC 3) (cK (.int 1))) cNil))) (cVarC 12)) (cT2 neD (cCall G__law_told (cCons (cVar 4) (cCons (cB2 ixD (cVarC 3) (cK (.int 1))) cNil))) (cTup (cCons (cK (.str (Str.ofString "told"))) (cCons (cVar 12) cNil))))))) (sRet (cK (.bool false))) sNil))
/-- one spoilt text -/
theorem spoil_step {ns : List Nat} {c k : Nat} {s : D} {x : Str} {a2 a3 a5 a6 a7 a8 a9 a11 a12 : Sl} (hs : Src ns) (hc : c < 2 ^ 18) (hk : k < 3) (hx : PgOk x) :
    ∃ a3' a12', SP (RL s (stD ns c) a2 a3 (.sh (natD k)) a5 a6 a7 a8 a9 (.sh (.str x)) a11 a12) = .nx (RL s (stD ns (c + 4)) a2 a3' (.sh (natD k)) a5 a6 a7 a8 a9 (.sh (.str x)) a11 a12') := by
  obtain ⟨y, oy, e⟩ := spoilt_ok hs hc hx
  have g1 : xSet 12 (xCallS 1 G__law_spoilt (xCons (xP (cVar 10)) xNil)) (RL s (stD ns c) a2 a3 (.sh (natD k)) a5 a6 a7 a8 a9 (.sh (.str x)) a11 a12) = .nx (RL s (stD ns (c + 4)) a2 a3 (.sh (natD k)) a5 a6 a7 a8 a9 (.sh (.str x)) a11 (.sh (.str y))) := ev_xset (i := 12) (ev_xcallS (i := 1) (ds := [.str x]) rfl (ev_xcons (ev_xp rfl) rfl) rfl e)
  have t : ∀ d, G__law_told [.int ((k : Nat) + 3), .str y] = .ok d → sSet 3 (cCall G__law_told (cCons (cB2 addD (cVarC 4) (cK (.int 3))) (cCons (cVar 12) cNil))) (RL s (stD ns (c + 4)) a2 a3 (.sh (natD k)) a5 a6 a7 a8 a9 (.sh (.str x)) a11 (.sh (.str y))) = .nx (RL s (stD ns (c + 4)) a2 (.sh d) (.sh (natD k)) a5 a6 a7 a8 a9 (.sh (.str x)) a11 (.sh (.str y))) := fun d h => ev_set (ev_call (ds := [.int ((k : Nat) + 3), .str y]) (ev_cons (ev_b2 (x := natD k) (y := .int 3) rfl rfl rfl) (ev_cons (x := .str y) rfl rfl)) h)
  rcases sound_all hk oy with h | ⟨v, h1, h2, h3, h4⟩
  · refine ⟨_, _, ev_seq g1 (ev_seq (t _ h) (ev_iff (ev_andf (ev_t2 (x := formD) (y := formD) rfl rfl (neD_self (shp (smk_up smk_form (by decide)))))) rfl))⟩
  · have sm : Smk 40 (toldD v) := smk_up (smk_told h4) (by decide)
    have n1 : ∃ b, cT2 neD (cVarC 3) (cK (.str (Str.ofString "form"))) (RL s (stD ns (c + 4)) a2 (.sh (toldD v)) (.sh (natD k)) a5 a6 a7 a8 a9 (.sh (.str x)) a11 (.sh (.str y))) = .ok b := by
      refine ⟨!PyData.eqv (toldD v) formD, ev_t2 (x := toldD v) (y := formD) rfl rfl ?_⟩
      unfold neD
      rw [shp sm, shp (smk_up smk_form (by decide))]
      rfl
    have i1 : cB2 ixD (cVarC 3) (cK (.int 1)) (RL s (stD ns (c + 4)) a2 (.sh (toldD v)) (.sh (natD k)) a5 a6 a7 a8 a9 (.sh (.str x)) a11 (.sh (.str y))) = .ok v := ev_b2 (x := toldD v) (y := .int 1) rfl rfl (ix_t 1 rfl rfl)
    have n2 : cT2 neD (cB2 ixD (cVarC 3) (cK (.int 0))) (cK (.str (Str.ofString "told"))) (RL s (stD ns (c + 4)) a2 (.sh (toldD v)) (.sh (natD k)) a5 a6 a7 a8 a9 (.sh (.str x)) a11 (.sh (.str y))) = .ok false := ev_t2 (ev_b2 (x := toldD v) (y := .int 0) rfl rfl (ix_t 0 rfl rfl)) rfl (neD_self (shp (smk_str (by decide +kernel))))
    have n3 : cT2 neD (cCall G__law_text (cCons (cVar 4) (cCons (cB2 ixD (cVarC 3) (cK (.int 1))) cNil))) (cVarC 12) (RL s (stD ns (c + 4)) a2 (.sh (toldD v)) (.sh (natD k)) a5 a6 a7 a8 a9 (.sh (.str x)) a11 (.sh (.str y))) = .ok false := ev_t2 (ev_call (ev_cons (x := natD k) rfl (ev_cons i1 rfl)) h2) (y := .str y) rfl (neD_self (shp (smk_str oy.k)))
    have n4 : cT2 neD (cCall G__law_told (cCons (cVar 4) (cCons (cB2 ixD (cVarC 3) (cK (.int 1))) cNil))) (cTup (cCons (cK (.str (Str.ofString "told"))) (cCons (cVar 12) cNil))) (RL s (stD ns (c + 4)) a2 (.sh (toldD v)) (.sh (natD k)) a5 a6 a7 a8 a9 (.sh (.str x)) a11 (.sh (.str y))) = .ok false := ev_t2 (ev_call (ev_cons (x := natD k) rfl (ev_cons i1 rfl)) h3) (y := toldD (.str y)) (ev_tup rfl (small (Nat.le_of_ble_eq_true rfl))) (neD_self (shp (smk_told (k := 39) (smk_str oy.k))))
    obtain ⟨b, n1⟩ := n1
    cases b with
    | false => exact ⟨_, _, ev_seq g1 (ev_seq (t _ h1) (ev_iff (ev_andf n1) rfl))⟩
    | true => exact ⟨_, _, ev_seq g1 (ev_seq (t _ h1) (ev_iff (ev_andt n1 (ev_orf n2 (ev_orf n3 n4))) rfl))⟩
abbrev KD : SF := sSeq (sSet 10 (cCall G__law_text (cCons (cVar 4) (cCons (cB2 ixD (cVarC 7) (cVarC 4)) cNil))))
    (sSeq (sIf (cNot (cT1 truD (cCall G__law_same (cCons (cL (cLst (cCons (cCall G__law_told (cCons (cVar 4) (cCons (cB2 ixD (cVarC 7) (cVarC 4)) cNil))) (cCons (cCall G__law_told (cCons (cB2 addD (cVarC 4) (cK (.int 3))) (cCons (cVar 10) cNil))) cNil)))) (cCons (cL (cLst (cCons (cTup (cCons (cK (.str (Str.ofString "told"))) (cCons (cVar 10) cNil))) (cCons (cTup (cCons (cK (.str (Str.ofString "told"))) (cCons (cB2 ixD (cVarC 7) (cVarC 4)) cNil))) cNil)))) cNil))))) (sRet (cK (.bool false))) sNil)
    (sFor (cR1 (cK (.int 6))) (gNm 11) SP))
theorem kind_step {ns : List Nat} {c k : Nat} {s : D} {vals : List D} {v : D} {x : Str} {a2 a3 a5 a6 a8 a9 a10 a11 a12 : Sl} (hs : Src ns) (hc : c < 2 ^ 17) (hk : k < 3) (hv : vals[k]? = some v) (hf : Fine (k : Nat) v x) :
    ∃ a3' a10' a11' a12', noOw [a10'] [0] = true ∧ KD (RL s (stD ns c) a2 a3 (.sh (natD k)) a5 a6 (.sh (.list vals)) a8 a9 a10 a11 a12) = .nx (RL s (stD ns (c + 24)) a2 a3' (.sh (natD k)) a5 a6 (.sh (.list vals)) a8 a9 a10' a11' a12') := by
  have ix : ∀ {r : Rho}, cVarC 7 r = .ok (.list vals) → cVarC 4 r = .ok (natD k) → cB2 ixD (cVarC 7) (cVarC 4) r = .ok v := fun h1 h2 => ev_b2 h1 h2 (ix_l k rfl hv)
  have xk := pg_strOk hf.pg
  have xl := (pg_ok0 hf.pg).l
  have g1 : sSet 10 (cCall G__law_text (cCons (cVar 4) (cCons (cB2 ixD (cVarC 7) (cVarC 4)) cNil))) (RL s (stD ns c) a2 a3 (.sh (natD k)) a5 a6 (.sh (.list vals)) a8 a9 a10 a11 a12) = .nx (RL s (stD ns c) a2 a3 (.sh (natD k)) a5 a6 (.sh (.list vals)) a8 a9 (.sh (.str x)) a11 a12) := ev_set (ev_call (ev_cons (x := natD k) rfl (ev_cons (ix rfl rfl) rfl)) hf.lt)
  have sm1 : Smk 30 (.list [toldD (.str x), toldD v]) := smk_list (k := 29) (List.forall_mem_cons.mpr ⟨smk_told (k := 28) (smk_str xk), List.forall_mem_cons.mpr ⟨smk_up (smk_told hf.sm) (by decide), by simp⟩⟩)
  have sh1 : Shw (2 * (60007 + 2) + 3) (.list [toldD (.str x), toldD v]) := shw_list (b := 60007) (n := 2) (List.forall_mem_cons.mpr ⟨(shw_told (b := 30000) ((shw_str (n := 285) xk xl (by decide)).mono (by decide)) (by decide)).mono (by decide), List.forall_mem_cons.mpr ⟨(shw_told hf.sh (by decide)).mono (by decide), by simp⟩⟩) (Nat.le_refl _)
  have g2 : cNot (cT1 truD (cCall G__law_same (cCons (cL (cLst (cCons (cCall G__law_told (cCons (cVar 4) (cCons (cB2 ixD (cVarC 7) (cVarC 4)) cNil))) (cCons (cCall G__law_told (cCons (cB2 addD (cVarC 4) (cK (.int 3))) (cCons (cVar 10) cNil))) cNil)))) (cCons (cL (cLst (cCons (cTup (cCons (cK (.str (Str.ofString "told"))) (cCons (cVar 10) cNil))) (cCons (cTup (cCons (cK (.str (Str.ofString "told"))) (cCons (cB2 ixD (cVarC 7) (cVarC 4)) cNil))) cNil)))) cNil)))) (RL s (stD ns c) a2 a3 (.sh (natD k)) a5 a6 (.sh (.list vals)) a8 a9 (.sh (.str x)) a11 a12) = .ok false := by
    refine ev_not (b := true) (ev_t1 (x := .bool true) (ev_call (ds := [.list [toldD (.str x), toldD v], .list [toldD (.str x), toldD v]]) (ev_cons (ev_l (ev_lst (ev_cons (ev_call (ev_cons (x := natD k) rfl (ev_cons (ix rfl rfl) rfl)) hf.wt) (ev_cons (ev_call (ds := [.int ((k : Nat) + 3), .str x]) (ev_cons (ev_b2 (x := natD k) (y := .int 3) rfl rfl rfl) (ev_cons (x := .str x) rfl rfl)) hf.rt) rfl)) (small (Nat.le_of_ble_eq_true rfl)))) (ev_cons (ev_l (ev_lst (ev_cons (ev_tup (ds := [.str (Str.ofString "told"), .str x]) rfl (small (Nat.le_of_ble_eq_true rfl))) (ev_cons (ev_tup (ev_cons (x := .str (Str.ofString "told")) rfl (ev_cons (ix rfl rfl) rfl)) (small (Nat.le_of_ble_eq_true rfl))) rfl)) (small (Nat.le_of_ble_eq_true rfl)))) rfl)) (same_ok sm1 sh1 (by decide))) rfl)
  obtain ⟨r', h1, h2⟩ := for_inv (A := gNm 11) (F := SP) (fun i r => ∃ a3' a11' a12', r = RL s (stD ns (c + 4 * i)) a2 a3' (.sh (natD k)) a5 a6 (.sh (.list vals)) a8 a9 (.sh (.str x)) a11' a12') (rngL 0 6) 0 (RL s (stD ns c) a2 a3 (.sh (natD k)) a5 a6 (.sh (.list vals)) a8 a9 (.sh (.str x)) a11 a12) ⟨_, _, _, rfl⟩ fun i d r hi hI => by
    obtain ⟨hi6, rfl⟩ := rng_get hi
    obtain ⟨a3', a11', a12', rfl⟩ := hI
    obtain ⟨b3, b12, e⟩ := spoil_step (ns := ns) (c := c + 4 * (0 + i)) (k := k) (s := s) (x := x) (a2 := a2) (a3 := a3') (a5 := a5) (a6 := a6) (a7 := .sh (.list vals)) (a8 := a8) (a9 := a9) (a11 := .sh (.int (i : Nat))) (a12 := a12') hs (by omega) hk hf.pg
    exact ⟨RL s (stD ns (c + 4 * (0 + i))) a2 a3' (.sh (natD k)) a5 a6 (.sh (.list vals)) a8 a9 (.sh (.str x)) (.sh (.int (i : Nat))) a12', _, rfl, e, b3, _, b12, rfl⟩
  rw [rng_len, Nat.zero_add] at h2
  obtain ⟨a3', a11', a12', rfl⟩ := h2
  exact ⟨a3', _, a11', a12', rfl, ev_seq g1 (ev_seq (ev_iff g2 rfl) (sfor_of (ev_r1 (n := 6) rfl (by decide)) h1))⟩
end K95


set_option Elab.async false
set_option linter.all false
set_option maxRecDepth 100000
set_option maxHeartbeats 4000000
namespace K95
open PySem PySem.Spec PyProof.Rows L2 Z
abbrev TN : SF := sSeq (xSet 5 (xB2 addD (xP (cK (.int 1))) (xCallS 1 G__law_next (xCons (xP (cK (.int 4))) xNil))))
    (sSeq (xSet 6 (xB2 addD (xP (cK (.int 1))) (xCallS 1 G__law_next (xCons (xP (cK (.int 4))) xNil))))
    (sSeq (xSet 7 (xLst (xCons (xTup (xCons (xP (cVar 5)) (xCons (xCallS 1 G__law_conditions (xCons (xP (cVar 5)) (xCons (xP (cK (.int 4))) xNil))) xNil))) (xCons (xCallS 1 G__law_duel (xCons (xP (cK (.int 4))) xNil)) (xCons (xTup (xCons (xP (cVar 6)) (xCons (xCallS 1 G__law_claims (xCons (xP (cVar 6)) (xCons (xP (cK (.int 4))) xNil))) xNil))) xNil)))))
    (sSeq (sSet 8 (cB1 reprD (cVarC 7)))
    (sSeq (sFor (cR1 (cK (.int 3))) (gNm 4) KD)
    (sSeq (sIf (cT2 neD (cB1 reprD (cVarC 7)) (cVarC 8)) (sRet (cK (.bool false))) sNil)
    (sSeq (sSet 9 (cL (cLst (cCons (cCall G__law_told (cCons (cK (.int 0)) (cCons (cCall G__law_bad (cCons (cB2 ixD (cVarC 7) (cK (.int 0))) cNil)) cNil))) (cCons (cCall G__law_told (cCons (cK (.int 1)) (cCons (cB2 addD (cB2 ixD (cVarC 7) (cK (.int 1))) (cTup (cCons (cB2 addD (cB2 ixD (cB2 ixD (cVarC 7) (cK (.int 1))) (cK (.int 0))) (cTup (cCons (cTup (cCons (cK (.int 1)) (cCons (cK (.int 1)) cNil))) cNil))) cNil))) cNil))) (cCons (cCall G__law_told (cCons (cK (.int 2)) (cCons (cTup (cCons (cK (.int 5)) (cCons (cTup cNil) cNil))) cNil))) (cCons (cCall G__law_told (cCons (cK (.int 2)) (cCons (cTup (cCons (cVar 6) (cCons (cTup (cCons (cTup (cCons (cTup cNil) (cCons (cK (.str (Str.ofString "is"))) (cCons (cTup (cCons (cK (.int 0)) (cCons (cK (.int 1)) cNil))) cNil)))) cNil)) cNil))) cNil))) cNil)))))))
    (sIf (cT2 neD (cVarC 9) (cL (cRepF (cLst (cCons (cK (.str (Str.ofString "refused"))) cNil)) 4))) (sRet (cK (.bool false))) sNil)))))))
theorem turn_step {ns : List Nat} {c : Nat} {s : D} {a2 a3 a4 a5 a6 a7 a8 a9 a10 a11 a12 : Sl} (hs : Src ns) (hc : c < 2 ^ 16) (hno : noOw [a10] [0] = true) :
    ∃ c' b3 b4 b5 b6 b7 b8 b9 b10 b11 b12, c' ≤ c + 400 ∧ noOw [b10] [0] = true ∧ TN (RL s (stD ns c) a2 a3 a4 a5 a6 a7 a8 a9 a10 a11 a12) = .nx (RL s (stD ns c') a2 b3 b4 b5 b6 b7 b8 b9 b10 b11 b12) := by
  obtain ⟨n1, l1, e1⟩ := nxt (i := 1) (m := 4) (f0 := cK (.int 4)) (r := RL s (stD ns c) a2 a3 a4 a5 a6 a7 a8 a9 a10 a11 a12) hs (by decide) (by omega) rfl rfl
  have g1 := ev_xset (i := 5) (ev_xb2 (O := addD) (ev_xp (f0 := cK (.int 1)) (d := .int (1 : Nat)) rfl) e1 (add_nat 1 n1))
  obtain ⟨n2, l2, e2⟩ := nxt (i := 1) (m := 4) (f0 := cK (.int 4)) (r := RL s (stD ns (c + 1)) a2 a3 a4 (.sh (natD (1 + n1))) a6 a7 a8 a9 a10 a11 a12) hs (by decide) (by omega) rfl rfl
  have g2 := ev_xset (i := 6) (ev_xb2 (O := addD) (ev_xp (f0 := cK (.int 1)) (d := .int (1 : Nat)) rfl) e2 (add_nat 1 n2))
  obtain ⟨cs, c1, q1, q2, q3, q4⟩ := conds_ok (c := c + 2) (w := 1 + n1) hs (by omega) (by omega)
  obtain ⟨n, rows, c2, q5, q6, q7⟩ := duelD_ok (c := c1) hs (by omega)
  obtain ⟨cl, c3, q8, q9, q10⟩ := clsD_ok (c := c2) (m := 1 + n2) hs (by omega) (by omega) (by omega)
  have ds : DSys (1 + n1) cs := ⟨by omega, by omega, q1, q2⟩
  have f0 := fine_sys ds
  have f1 := fine_duel q5
  have f2 := fine_cls q8
  let v0 := sysD ((1 + n1 : Nat) : Int) cs
  let v1 := duelD rows
  let v2 := claimsD (1 + n2) cl
  let vals : List D := [v0, v1, v2]
  have g3 : xSet 7 (xLst (xCons (xTup (xCons (xP (cVar 5)) (xCons (xCallS 1 G__law_conditions (xCons (xP (cVar 5)) (xCons (xP (cK (.int 4))) xNil))) xNil))) (xCons (xCallS 1 G__law_duel (xCons (xP (cK (.int 4))) xNil)) (xCons (xTup (xCons (xP (cVar 6)) (xCons (xCallS 1 G__law_claims (xCons (xP (cVar 6)) (xCons (xP (cK (.int 4))) xNil))) xNil))) xNil)))) (RL s (stD ns (c + 2)) a2 a3 a4 (.sh (natD (1 + n1))) (.sh (natD (1 + n2))) a7 a8 a9 a10 a11 a12) = .nx (RL s (stD ns c3) a2 a3 a4 (.sh (natD (1 + n1))) (.sh (natD (1 + n2))) (.sh (.list vals)) a8 a9 a10 a11 a12) := by
    refine ev_xset (i := 7) (ev_xlst (ds := vals) (ev_xcons (ev_xtup (ds := [natD (1 + n1), .tuple (cs.map condD)]) (ev_xcons (ev_xp rfl) (ev_xcons (ev_xcallS (i := 1) (ds := [natD (1 + n1), natD 4]) rfl (ev_xcons (ev_xp rfl) (ev_xcons (ev_xp rfl) xnil)) rfl q4) xnil)) (small (Nat.le_of_ble_eq_true rfl))) (ev_xcons (ev_xcallS (i := 1) (ds := [natD 4]) rfl (ev_xcons (ev_xp rfl) xnil) rfl q7) (ev_xcons (ev_xtup (ds := [natD (1 + n2), claimsT cl]) (ev_xcons (ev_xp rfl) (ev_xcons (ev_xcallS (i := 1) (ds := [natD (1 + n2), natD 4]) rfl (ev_xcons (ev_xp rfl) (ev_xcons (ev_xp rfl) xnil)) rfl q10) xnil)) (small (Nat.le_of_ble_eq_true rfl))) xnil))) (small (Nat.le_of_ble_eq_true rfl)))
  have sh : Shw (3 * (30000 + 2) + 3) (.list vals) := shw_list (n := 3) (List.forall_mem_cons.mpr ⟨f0.sh, List.forall_mem_cons.mpr ⟨f1.sh, List.forall_mem_cons.mpr ⟨f2.sh, by simp⟩⟩⟩) (Nat.le_refl _)
  have sm : Smk 40 (.list vals) := smk_list (k := 39) (List.forall_mem_cons.mpr ⟨smk_up f0.sm (by decide), List.forall_mem_cons.mpr ⟨smk_up f1.sm (by decide), List.forall_mem_cons.mpr ⟨smk_up f2.sm (by decide), by simp⟩⟩⟩)
  have rp := repr_ok sh (by decide) sm
  have g4 : sSet 8 (cB1 reprD (cVarC 7)) (RL s (stD ns c3) a2 a3 a4 (.sh (natD (1 + n1))) (.sh (natD (1 + n2))) (.sh (.list vals)) a8 a9 a10 a11 a12) = .nx (RL s (stD ns c3) a2 a3 a4 (.sh (natD (1 + n1))) (.sh (natD (1 + n2))) (.sh (.list vals)) (.sh (.str (PyData.list vals).shown)) a9 a10 a11 a12) := ev_set (ev_b1 (x := .list vals) rfl rp)
  have hf : ∀ k, k < 3 → ∃ v x, vals[k]? = some v ∧ Fine (k : Nat) v x := fun k hk => by
    match k, hk with
    | 0, _ => exact ⟨v0, _, rfl, f0⟩
    | 1, _ => exact ⟨v1, _, rfl, f1⟩
    | 2, _ => exact ⟨v2, _, rfl, f2⟩
  obtain ⟨r', h1, h2⟩ := for_inv (A := gNm 4) (F := KD) (fun k r => ∃ b3 b4 b10 b11 b12, noOw [b10] [0] = true ∧ r = RL s (stD ns (c3 + 24 * k)) a2 b3 b4 (.sh (natD (1 + n1))) (.sh (natD (1 + n2))) (.sh (.list vals)) (.sh (.str (PyData.list vals).shown)) a9 b10 b11 b12) (rngL 0 3) 0 (RL s (stD ns c3) a2 a3 a4 (.sh (natD (1 + n1))) (.sh (natD (1 + n2))) (.sh (.list vals)) (.sh (.str (PyData.list vals).shown)) a9 a10 a11 a12) ⟨_, _, _, _, _, hno, rfl⟩ fun k d r hk hI => by
    obtain ⟨hk3, rfl⟩ := rng_get hk
    obtain ⟨b3, b4, b10, b11, b12, hb, rfl⟩ := hI
    obtain ⟨v, x, hv, hfx⟩ := hf k hk3
    obtain ⟨d3, d10, d11, d12, hd, e⟩ := kind_step (ns := ns) (c := c3 + 24 * (0 + k)) (s := s) (a2 := a2) (a3 := b3) (a5 := .sh (natD (1 + n1))) (a6 := .sh (natD (1 + n2))) (a8 := .sh (.str (PyData.list vals).shown)) (a9 := a9) (a10 := b10) (a11 := b11) (a12 := b12) hs (by omega) hk3 hv hfx
    exact ⟨RL s (stD ns (c3 + 24 * (0 + k))) a2 b3 (.sh (.int (k : Nat))) (.sh (natD (1 + n1))) (.sh (natD (1 + n2))) (.sh (.list vals)) (.sh (.str (PyData.list vals).shown)) a9 b10 b11 b12, _, rfl, e, d3, _, d10, d11, d12, hd, rfl⟩
  rw [rng_len, Nat.zero_add] at h2
  obtain ⟨b3, b4, b10, b11, b12, hb, rfl⟩ := h2
  have g6 : cT2 neD (cB1 reprD (cVarC 7)) (cVarC 8) (RL s (stD ns (c3 + 24 * 3)) a2 b3 b4 (.sh (natD (1 + n1))) (.sh (natD (1 + n2))) (.sh (.list vals)) (.sh (.str (PyData.list vals).shown)) a9 b10 b11 b12) = .ok false := ev_t2 (ev_b1 (x := .list vals) rfl rp) (y := .str (PyData.list vals).shown) rfl (neD_self (shp (smk_str sh.k)))
  obtain ⟨x1, x2⟩ := bad_sys ds
  obtain ⟨r0, rest, er, x3⟩ := bad_duel q5
  let r9 : Rho := RL s (stD ns (c3 + 24 * 3)) a2 b3 b4 (.sh (natD (1 + n1))) (.sh (natD (1 + n2))) (.sh (.list vals)) (.sh (.str (PyData.list vals).shown)) a9 b10 b11 b12
  have i0 : cB2 ixD (cVarC 7) (cK (.int 0)) r9 = .ok v0 := ev_b2 (x := .list vals) (y := .int 0) rfl rfl (ix_l 0 rfl rfl)
  have i1 : cB2 ixD (cVarC 7) (cK (.int 1)) r9 = .ok v1 := ev_b2 (x := .list vals) (y := .int 1) rfl rfl (ix_l 1 rfl rfl)
  have w1 : cCall G__law_told (cCons (cK (.int 0)) (cCons (cCall G__law_bad (cCons (cB2 ixD (cVarC 7) (cK (.int 0))) cNil)) cNil)) r9 = .ok refD := ev_call (ev_cons (x := .int 0) rfl (ev_cons (callO i0 x1) rfl)) x2
  have rl := q5.r2
  have w2 : cCall G__law_told (cCons (cK (.int 1)) (cCons (cB2 addD (cB2 ixD (cVarC 7) (cK (.int 1))) (cTup (cCons (cB2 addD (cB2 ixD (cB2 ixD (cVarC 7) (cK (.int 1))) (cK (.int 0))) (cTup (cCons (cTup (cCons (cK (.int 1)) (cCons (cK (.int 1)) cNil))) cNil))) cNil))) cNil)) r9 = .ok refD := by
    refine ev_call (ds := [.int 1, duelD (rows ++ [r0 ++ [(1, 1)]])]) (ev_cons (x := .int 1) rfl (ev_cons (ev_b2 i1 (y := .tuple [rowD (r0 ++ [(1, 1)])]) (ev_tup (ev_cons (ev_b2 (x := rowD r0) (y := .tuple [ratD (1, 1)]) (ev_b2 i1 rfl ?_) (ev_tup (ev_cons (ev_tup rfl (small (Nat.le_of_ble_eq_true rfl))) rfl) (small (Nat.le_of_ble_eq_true rfl))) ?_) rfl) (small (Nat.le_of_ble_eq_true rfl))) ?_) rfl)) x3
    · show ixD (.tuple (rows.map rowD)) (.int 0) = _
      rw [er]
      exact ix_t 0 rfl rfl
    · have hr := (q5.c r0 (by rw [er]; exact List.mem_cons_self)).1
      have hn := q5.n2
      show (if (r0.map ratD).length + [ratD (1, 1)].length ≤ sizeLine then R.ok (PyData.tuple (r0.map ratD ++ [ratD (1, 1)])) else .no) = _
      rw [if_pos (small (by rw [List.length_map]; simp only [List.length_cons, List.length_nil]; omega))]
      unfold rowD
      rw [List.map_append]
      rfl
    · show (if (rows.map rowD).length + [rowD (r0 ++ [(1, 1)])].length ≤ sizeLine then R.ok (PyData.tuple (rows.map rowD ++ [rowD (r0 ++ [(1, 1)])])) else .no) = _
      rw [if_pos (small (by rw [List.length_map]; simp only [List.length_cons, List.length_nil]; omega))]
      unfold duelD
      rw [List.map_append]
      rfl
  have w3 : cCall G__law_told (cCons (cK (.int 2)) (cCons (cTup (cCons (cK (.int 5)) (cCons (cTup cNil) cNil))) cNil)) r9 = .ok refD := ev_call (ev_cons (x := .int 2) rfl (ev_cons (ev_tup (ds := [.int 5, .tuple []]) (ev_cons rfl (ev_cons (ev_tup rfl (small (Nat.le_of_ble_eq_true rfl))) rfl)) (small (Nat.le_of_ble_eq_true rfl))) rfl)) bad_cls5
  have w4 : cCall G__law_told (cCons (cK (.int 2)) (cCons (cTup (cCons (cVar 6) (cCons (cTup (cCons (cTup (cCons (cTup cNil) (cCons (cK (.str (Str.ofString "is"))) (cCons (cTup (cCons (cK (.int 0)) (cCons (cK (.int 1)) cNil))) cNil)))) cNil)) cNil))) cNil)) r9 = .ok refD := ev_call (ev_cons (x := .int 2) rfl (ev_cons (ev_tup (ds := [natD (1 + n2), claimsT [([], isS, (0, 1))]]) (ev_cons (x := natD (1 + n2)) rfl (ev_cons (ev_tup (ev_cons (ev_tup (ds := [plD [], .str isS, ratD (0, 1)]) (ev_cons (ev_tup rfl (small (Nat.le_of_ble_eq_true rfl))) (ev_cons rfl (ev_cons (ev_tup rfl (small (Nat.le_of_ble_eq_true rfl))) rfl))) (small (Nat.le_of_ble_eq_true rfl))) rfl) (small (Nat.le_of_ble_eq_true rfl))) rfl)) (small (Nat.le_of_ble_eq_true rfl))) rfl)) bad_clsI
  have g7 := ev_set (i := 9) (r := r9) (ev_l (ev_lst (ev_cons w1 (ev_cons w2 (ev_cons w3 (ev_cons w4 (rfl : cNil r9 = .ok []))))) (small (Nat.le_of_ble_eq_true rfl))))
  have g8 : cT2 neD (cVarC 9) (cL (cRepF (cLst (cCons (cK (.str (Str.ofString "refused"))) cNil)) 4)) (r9.set 9 (.sh (.list [refD, refD, refD, refD]))) = .ok false := by
    have : Smk 40 (.list [refD, refD, refD, refD]) := smk_list (k := 39) fun d m => by
      have : d = refD := by simpa using m
      rw [this]
      exact smk_up smk_ref (by decide)
    refine ev_t2 (x := .list [refD, refD, refD, refD]) (y := .list [refD, refD, refD, refD]) rfl (ev_l ?_) (neD_self (shp this))
    show ((cLst (cCons (cK (.str (Str.ofString "refused"))) cNil) _).bind _) = _
    rw [ev_lst (r := r9.set 9 (.sh (.list [refD, refD, refD, refD]))) (fa := cCons (cK (.str (Str.ofString "refused"))) cNil) (ds := [refD]) rfl (small (Nat.le_of_ble_eq_true rfl))]
    show (if (0 : Int) ≤ 4 ∧ (4 : Int) ≤ 1000000 ∧ [refD].length * (4 : Int).toNat ≤ sizeLine then R.ok (List.replicate (4 : Int).toNat [refD]).flatten else .no) = _
    rw [if_pos ⟨by decide, by decide, small (Nat.le_of_ble_eq_true rfl)⟩]
    rfl
  exact ⟨c3 + 24 * 3, b3, b4, _, _, _, _, _, b10, b11, b12, by omega, hb, ev_seq g1 (ev_seq g2 (ev_seq g3 (ev_seq g4 (ev_seq (sfor_of (ev_r1 (n := 3) rfl (by decide)) h1) (ev_seq (ev_iff g6 rfl) (ev_seq g7 (ev_iff g8 rfl)))))))⟩
abbrev TE : Rho → R (List D) := cLc [10] (cIt (cL (cLst (cCons (cK (.str (Str.ofString ""))) (cCons (cK (.str (Str.ofString "\n"))) (cCons (cK (.str (Str.ofString "duel\n"))) (cCons (cK (.str (Str.ofString "unknowns 0\n"))) (cCons (cK (.str (Str.ofString "events 5\n"))) (cCons (cK (.str (Str.ofString "unknowns 1\n1 < 2\n"))) (cCons (cB2 repD (cK (.str (Str.ofString "x"))) (cK (.int 60001))) (cCons (cK (.str (Str.ofString "duel\n1/0\n"))) (cCons (cK (.str (Str.ofString "events 1\n+ = 1\n"))) (cCons (cK (.str (Str.ofString "events 1\n1+0 = 1\n"))) cNil))))))))))))) (gNm 10) cYes (cCall G__law_told (cCons (cB2 addD (cVarC 4) (cK (.int 3))) (cCons (cVar 10) cNil)))
theorem rep_big : repD (.str (Str.ofString "x")) (.int 60001) = .ok (.str bigS) := by
  have e : (Str.ofString "x").length = 1 := by decide +kernel
  have h : ∀ n : Nat, 1 < n → n ≤ 1000000 → repD (.str (Str.ofString "x")) (.int (n : Nat)) = .ok (.str (repS n)) := fun n h1 h2 => by
    show (if (1 : Int) < ((n : Nat) : Int) ∧ ((n : Nat) : Int) ≤ 1000000 ∧ 0 < (Str.ofString "x").length ∧ (Str.ofString "x").length * ((n : Nat) : Int).toNat ≤ 1000000 then R.ok (PyData.str ⟨(List.replicate ((n : Nat) : Int).toNat (Str.ofString "x").cps).foldl (· ++ ·) #[]⟩) else .no) = _
    rw [Int.toNat_natCast, e, if_pos ⟨by omega, by omega, by decide, by omega⟩]
    rfl
  exact h bigN (by rw [bigN_eq]; omega) (by rw [bigN_eq]; omega)
theorem ten_ok {k : Nat} {s : D} {st : List D} {a2 a3 a5 a6 a7 a8 a9 a10 a11 a12 : Sl} (hk : k < 3) (hno : noOw [a10] [0] = true) : TE (RL s st a2 a3 (.sh (natD k)) a5 a6 a7 a8 a9 a10 a11 a12) = .ok (List.replicate 10 formD) := by
  have h : TE (RL s st a2 a3 (.sh (natD k)) a5 a6 a7 a8 a9 a10 a11 a12) = .ok (tenS.map fun _ => formD) := by
    refine ev_lcm (xs := tenS) (e := .str) (gg := fun _ => formD) (by cases a10 <;> first | rfl | exact hno) (ev_it (x := .list (tenS.map .str)) (ev_l (ev_lst (ds := tenS.map .str) (ev_cons rfl (ev_cons rfl (ev_cons rfl (ev_cons rfl (ev_cons rfl (ev_cons rfl (ev_cons (ev_b2 (x := .str (Str.ofString "x")) (y := .int 60001) rfl rfl rep_big) (ev_cons rfl (ev_cons rfl (ev_cons rfl rfl)))))))))) (small (Nat.le_of_ble_eq_true rfl)))) rfl) (small (Nat.le_of_ble_eq_true rfl)) fun x mx => ⟨RL s st a2 a3 (.sh (natD k)) a5 a6 a7 a8 a9 (.sh (.str x)) a11 a12, rfl, rfl, ?_⟩
    exact ev_call (ds := [.int ((k : Nat) + 3), .str x]) (ev_cons (ev_b2 (x := natD k) (y := .int 3) rfl rfl rfl) (ev_cons (x := .str x) rfl rfl)) (ten_form mx hk)
  rw [h]
  rfl
theorem plain_law : ∀ ns : List Int, ns.length ≤ 63 → (∀ z ∈ ns, Builtin.Int.intBits z ≤ 1048576) → G_law [.list (ns.map PyData.int)] = .ok (.bool true) := by
  intro zs hz _
  obtain ⟨ns, e1, e2, e3⟩ := stream_ok hz
  have hs : Src ns := ⟨e2, by omega⟩
  let s : D := .list (zs.map PyData.int)
  have s1 : sOwn 1 (cLst (cCons (cCall G__law_stream (cCons (cVar 0) cNil)) (cCons (cK (.int 0)) cNil))) (startR 13 [s]) = .nx (RL s (stD ns 0) .un .un .un .un .un .un .un .un .un .un .un) := ev_own (ev_lst (ds := stD ns 0) (ev_cons (callO (x := s) rfl e1) rfl) (small (Nat.le_of_ble_eq_true rfl))) (Nat.le_of_ble_eq_true rfl)
  obtain ⟨r', h1, h2⟩ := for_inv (A := gNm 2) (F := TN) (fun k r => ∃ c a2 a3 a4 a5 a6 a7 a8 a9 a10 a11 a12, c ≤ 400 * k ∧ noOw [a10] [0] = true ∧ r = RL s (stD ns c) a2 a3 a4 a5 a6 a7 a8 a9 a10 a11 a12) (rngL 0 4) 0 (RL s (stD ns 0) .un .un .un .un .un .un .un .un .un .un .un) ⟨0, _, _, _, _, _, _, _, _, _, _, _, Nat.le_refl _, rfl, rfl⟩ fun k d r hk hI => by
    obtain ⟨hk4, rfl⟩ := rng_get hk
    obtain ⟨c, a2, a3, a4, a5, a6, a7, a8, a9, a10, a11, a12, hc, hno, rfl⟩ := hI
    obtain ⟨c', b3, b4, b5, b6, b7, b8, b9, b10, b11, b12, hc', hb, e⟩ := turn_step (ns := ns) (c := c) (s := s) (a2 := .sh (.int (k : Nat))) (a3 := a3) (a4 := a4) (a5 := a5) (a6 := a6) (a7 := a7) (a8 := a8) (a9 := a9) (a10 := a10) (a11 := a11) (a12 := a12) hs (by omega) hno
    exact ⟨RL s (stD ns c) (.sh (.int (k : Nat))) a3 a4 a5 a6 a7 a8 a9 a10 a11 a12, _, rfl, e, c', _, b3, b4, b5, b6, b7, b8, b9, b10, b11, b12, by omega, hb, rfl⟩
  rw [rng_len, Nat.zero_add] at h2
  obtain ⟨c, a2, a3, a4, a5, a6, a7, a8, a9, a10, a11, a12, hc, hno, rfl⟩ := h2
  have s3 : sOwn 3 (cLst cNil) (RL s (stD ns c) a2 a3 a4 a5 a6 a7 a8 a9 a10 a11 a12) = .nx (RL s (stD ns c) a2 (.ow []) a4 a5 a6 a7 a8 a9 a10 a11 a12) := ev_own rfl (Nat.le_of_ble_eq_true rfl)
  obtain ⟨r', h3, h4⟩ := for_inv (A := gNm 4) (F := xsExt 3 TE) (fun k r => ∃ a4, r = RL s (stD ns c) a2 (.ow (List.replicate (10 * k) formD)) a4 a5 a6 a7 a8 a9 a10 a11 a12) (rngL 0 3) 0 (RL s (stD ns c) a2 (.ow []) a4 a5 a6 a7 a8 a9 a10 a11 a12) ⟨_, rfl⟩ fun k d r hk hI => by
    obtain ⟨hk3, rfl⟩ := rng_get hk
    obtain ⟨b4, rfl⟩ := hI
    refine ⟨RL s (stD ns c) a2 (.ow (List.replicate (10 * (0 + k)) formD)) (.sh (natD k)) a5 a6 a7 a8 a9 a10 a11 a12, _, rfl, ev_ext (ds := List.replicate (10 * (0 + k)) formD) rfl (ten_ok hk3 hno) (small (by rw [List.length_replicate, List.length_replicate]; omega)), .sh (natD k), ?_⟩
    have e : List.replicate (10 * (0 + k)) formD ++ List.replicate 10 formD = List.replicate (10 * (0 + k + 1)) formD := by
      rw [List.replicate_append_replicate]
      congr 1
    rw [e]
    rfl
  rw [rng_len, Nat.zero_add] at h4
  obtain ⟨b4, rfl⟩ := h4
  have fin : cT2 eqD (cVarC 3) (cL (cRepF (cLst (cCons (cK (.str (Str.ofString "form"))) cNil)) 30)) (RL s (stD ns c) a2 (.ow (List.replicate (10 * 3) formD)) b4 a5 a6 a7 a8 a9 a10 a11 a12) = .ok true := by
    have sm : Smk 40 (.list (List.replicate (10 * 3) formD)) := smk_list (k := 39) fun d m => by
      rw [(List.mem_replicate.mp m).2]
      exact smk_up smk_form (by decide)
    refine ev_t2 (x := .list (List.replicate (10 * 3) formD)) (y := .list (List.replicate (10 * 3) formD)) rfl (ev_l ?_) (eqD_self (shp sm))
    show ((cLst (cCons (cK (.str (Str.ofString "form"))) cNil) _).bind _) = _
    rw [ev_lst (r := RL s (stD ns c) a2 (.ow (List.replicate (10 * 3) formD)) b4 a5 a6 a7 a8 a9 a10 a11 a12) (fa := cCons (cK (.str (Str.ofString "form"))) cNil) (ds := [formD]) rfl (small (Nat.le_of_ble_eq_true rfl))]
    show (if (0 : Int) ≤ 30 ∧ (30 : Int) ≤ 1000000 ∧ [formD].length * (30 : Int).toNat ≤ sizeLine then R.ok (List.replicate (30 : Int).toNat [formD]).flatten else .no) = _
    rw [if_pos ⟨by decide, by decide, small (Nat.le_of_ble_eq_true rfl)⟩]
    rfl
  exact ev_run rfl (ev_seq s1 (ev_seq (sfor_of (ev_r1 (n := 4) rfl (by decide)) h1) (ev_seq s3 (ev_seq (sfor_of (ev_r1 (n := 3) rfl (by decide)) h3) (ev_ret (ev_andV (ev_bl fin) (ev_bl (ev_t2 (x := .int 60000) (y := .int 60000) rfl rfl (eqd_int 60000 60000)))))))))
end K95


set_option Elab.async false
set_option linter.all false
set_option maxRecDepth 100000
set_option maxHeartbeats 8000000
namespace K95
open PySem PySem.Spec PyProof.Rows L2 Z
theorem exm_pair {K : PySem.W.Frag} {c S : Addr} {b : Bool} (h1 : PySem.W.subIn K (.ref S) (.type "BaseException") = some true) (h2 : PySem.W.isClsIn K S = true) (h3 : PySem.W.typeIn K (.ref S) = some (.type "type")) (h4 : PySem.W.subIn K (.ref c) (.ref S) = some b) : PySem.W.exmOne K (.ref c) (.ref S) = some b := by
  have e1 : (PySem.W.subIn K (.ref S) (.type "BaseException") == some true) = true := by rw [h1] <;> rfl
  have e2 : ((PySem.W.clsIn K S).isSome && PySem.W.typeIn K (.ref S) == some (.type "type")) = true := by
    have h2' : (PySem.W.clsIn K S).isSome = true := h2
    rw [h2', h3] <;> rfl
  show (if (PySem.W.subIn K (.ref S) (.type "BaseException") == some true) = true then (if ((PySem.W.clsIn K S).isSome && PySem.W.typeIn K (.ref S) == some (.type "type")) = true then PySem.W.subIn K (.ref c) (.ref S) else none) else none) = some b
  rw [if_pos e1, if_pos e2]
  exact h4
theorem all_mk {l : PySem.W.OpenLaw} {w : World} {K : PySem.W.Frag} {h : Heap} {mg : Str → Option Value} {fa : Addr} (X : K.In h) (G : h.Ns mainGlobals mg) (hfa : mg (Str.ofString "law") = some (.ref fa))
    {t_DIGITS : Tok}
    {t_MAX_CHOICES : Tok}
    {t_MAX_CLAIMS : Tok}
    {t_MAX_CONDITIONS : Tok}
    {t_MAX_EVENTS : Tok}
    {t_MAX_ROWS_TEXT : Tok}
    {t_MAX_TEXT : Tok}
    {t_MAX_WIDTH : Tok}
    {a_ONE : Addr} {dd_ONE : Option Addr} {its_ONE : Array Value} {n_ONE : Nat} {sl_ONE : Array (Option Value)}
    {a_RELATIONS : Addr} {dd_RELATIONS : Option Addr} {its_RELATIONS : Array Value} {n_RELATIONS : Nat} {sl_RELATIONS : Array (Option Value)}
    {C0 : Addr}
    {C1 : Addr}
    {C2 : Addr}
    {C3 : Addr}
    {C4 : Addr}
    {C5 : Addr}
    {C6 : Addr}
    {C7 : Addr}
    {f0 : Addr} {oc0 : Value} {od0 an0 : Option Addr} {sl0 : Array (Option Value)} {kV0 dc0 pm0 cd0 ct0 : Value}
    {f1 : Addr} {oc1 : Value} {od1 an1 : Option Addr} {sl1 : Array (Option Value)} {kV1 dc1 pm1 cd1 ct1 : Value}
    {f2 : Addr} {oc2 : Value} {od2 an2 : Option Addr} {sl2 : Array (Option Value)} {kV2 dc2 pm2 cd2 ct2 : Value}
    {f3 : Addr} {oc3 : Value} {od3 an3 : Option Addr} {sl3 : Array (Option Value)} {kV3 dc3 pm3 cd3 ct3 : Value}
    {f4 : Addr} {oc4 : Value} {od4 an4 : Option Addr} {sl4 : Array (Option Value)} {kV4 dc4 pm4 cd4 ct4 : Value}
    {f5 : Addr} {oc5 : Value} {od5 an5 : Option Addr} {sl5 : Array (Option Value)} {kV5 dc5 pm5 cd5 ct5 : Value}
    {f6 : Addr} {oc6 : Value} {od6 an6 : Option Addr} {sl6 : Array (Option Value)} {kV6 dc6 pm6 cd6 ct6 : Value}
    {f7 : Addr} {oc7 : Value} {od7 an7 : Option Addr} {sl7 : Array (Option Value)} {kV7 dc7 pm7 cd7 ct7 : Value}
    {f8 : Addr} {oc8 : Value} {od8 an8 : Option Addr} {sl8 : Array (Option Value)} {kV8 dc8 pm8 cd8 ct8 : Value}
    {f9 : Addr} {oc9 : Value} {od9 an9 : Option Addr} {sl9 : Array (Option Value)} {kV9 dc9 pm9 cd9 ct9 : Value}
    {f10 : Addr} {oc10 : Value} {od10 an10 : Option Addr} {sl10 : Array (Option Value)} {kV10 dc10 pm10 cd10 ct10 : Value}
    {f11 : Addr} {oc11 : Value} {od11 an11 : Option Addr} {sl11 : Array (Option Value)} {kV11 dc11 pm11 cd11 ct11 : Value}
    {f12 : Addr} {oc12 : Value} {od12 an12 : Option Addr} {sl12 : Array (Option Value)} {kV12 dc12 pm12 cd12 ct12 : Value}
    {f13 : Addr} {oc13 : Value} {od13 an13 : Option Addr} {sl13 : Array (Option Value)} {kV13 dc13 pm13 cd13 ct13 : Value}
    {f14 : Addr} {oc14 : Value} {od14 an14 : Option Addr} {sl14 : Array (Option Value)} {kV14 dc14 pm14 cd14 ct14 : Value}
    {f15 : Addr} {oc15 : Value} {od15 an15 : Option Addr} {sl15 : Array (Option Value)} {kV15 dc15 pm15 cd15 ct15 : Value}
    {f16 : Addr} {oc16 : Value} {od16 an16 : Option Addr} {sl16 : Array (Option Value)} {kV16 dc16 pm16 cd16 ct16 : Value}
    {f17 : Addr} {oc17 : Value} {od17 an17 : Option Addr} {sl17 : Array (Option Value)} {kV17 dc17 pm17 cd17 ct17 : Value}
    {f18 : Addr} {oc18 : Value} {od18 an18 : Option Addr} {sl18 : Array (Option Value)} {kV18 dc18 pm18 cd18 ct18 : Value}
    {f19 : Addr} {oc19 : Value} {od19 an19 : Option Addr} {sl19 : Array (Option Value)} {kV19 dc19 pm19 cd19 ct19 : Value}
    {f20 : Addr} {oc20 : Value} {od20 an20 : Option Addr} {sl20 : Array (Option Value)} {kV20 dc20 pm20 cd20 ct20 : Value}
    {f21 : Addr} {oc21 : Value} {od21 an21 : Option Addr} {sl21 : Array (Option Value)} {kV21 dc21 pm21 cd21 ct21 : Value}
    {f22 : Addr} {oc22 : Value} {od22 an22 : Option Addr} {sl22 : Array (Option Value)} {kV22 dc22 pm22 cd22 ct22 : Value}
    {f23 : Addr} {oc23 : Value} {od23 an23 : Option Addr} {sl23 : Array (Option Value)} {kV23 dc23 pm23 cd23 ct23 : Value}
    {f24 : Addr} {oc24 : Value} {od24 an24 : Option Addr} {sl24 : Array (Option Value)} {kV24 dc24 pm24 cd24 ct24 : Value}
    {f25 : Addr} {oc25 : Value} {od25 an25 : Option Addr} {sl25 : Array (Option Value)} {kV25 dc25 pm25 cd25 ct25 : Value}
    {f26 : Addr} {oc26 : Value} {od26 an26 : Option Addr} {sl26 : Array (Option Value)} {kV26 dc26 pm26 cd26 ct26 : Value}
    {f27 : Addr} {oc27 : Value} {od27 an27 : Option Addr} {sl27 : Array (Option Value)} {kV27 dc27 pm27 cd27 ct27 : Value}
    {f28 : Addr} {oc28 : Value} {od28 an28 : Option Addr} {sl28 : Array (Option Value)} {kV28 dc28 pm28 cd28 ct28 : Value}
    {f29 : Addr} {oc29 : Value} {od29 an29 : Option Addr} {sl29 : Array (Option Value)} {kV29 dc29 pm29 cd29 ct29 : Value}
    {f30 : Addr} {oc30 : Value} {od30 an30 : Option Addr} {sl30 : Array (Option Value)} {kV30 dc30 pm30 cd30 ct30 : Value}
    {f31 : Addr} {oc31 : Value} {od31 an31 : Option Addr} {sl31 : Array (Option Value)} {kV31 dc31 pm31 cd31 ct31 : Value}
    {f32 : Addr} {oc32 : Value} {od32 an32 : Option Addr} {sl32 : Array (Option Value)} {kV32 dc32 pm32 cd32 ct32 : Value}
    {f33 : Addr} {oc33 : Value} {od33 an33 : Option Addr} {sl33 : Array (Option Value)} {kV33 dc33 pm33 cd33 ct33 : Value}
    {f34 : Addr} {oc34 : Value} {od34 an34 : Option Addr} {sl34 : Array (Option Value)} {kV34 dc34 pm34 cd34 ct34 : Value}
    {f35 : Addr} {oc35 : Value} {od35 an35 : Option Addr} {sl35 : Array (Option Value)} {kV35 dc35 pm35 cd35 ct35 : Value}
    {f36 : Addr} {oc36 : Value} {od36 an36 : Option Addr} {sl36 : Array (Option Value)} {kV36 dc36 pm36 cd36 ct36 : Value}
    {f37 : Addr} {oc37 : Value} {od37 an37 : Option Addr} {sl37 : Array (Option Value)} {kV37 dc37 pm37 cd37 ct37 : Value}
    {f38 : Addr} {oc38 : Value} {od38 an38 : Option Addr} {sl38 : Array (Option Value)} {kV38 dc38 pm38 cd38 ct38 : Value}
    {f39 : Addr} {oc39 : Value} {od39 an39 : Option Addr} {sl39 : Array (Option Value)} {kV39 dc39 pm39 cd39 ct39 : Value}
    {f40 : Addr} {oc40 : Value} {od40 an40 : Option Addr} {sl40 : Array (Option Value)} {kV40 dc40 pm40 cd40 ct40 : Value}
    (b_abs : PySem.W.nsIn K mainGlobals (Str.ofString "abs") = some none)
    (b_all : PySem.W.nsIn K mainGlobals (Str.ofString "all") = some none)
    (b_int : PySem.W.nsIn K mainGlobals (Str.ofString "int") = some none)
    (b_isinstance : PySem.W.nsIn K mainGlobals (Str.ofString "isinstance") = some none)
    (b_len : PySem.W.nsIn K mainGlobals (Str.ofString "len") = some none)
    (b_list : PySem.W.nsIn K mainGlobals (Str.ofString "list") = some none)
    (b_range : PySem.W.nsIn K mainGlobals (Str.ofString "range") = some none)
    (b_repr : PySem.W.nsIn K mainGlobals (Str.ofString "repr") = some none)
    (b_set : PySem.W.nsIn K mainGlobals (Str.ofString "set") = some none)
    (b_sorted : PySem.W.nsIn K mainGlobals (Str.ofString "sorted") = some none)
    (b_str : PySem.W.nsIn K mainGlobals (Str.ofString "str") = some none)
    (b_sum : PySem.W.nsIn K mainGlobals (Str.ofString "sum") = some none)
    (b_tuple : PySem.W.nsIn K mainGlobals (Str.ofString "tuple") = some none)
    (c_DIGITS : PySem.W.nsIn K mainGlobals (Str.ofString "DIGITS") = some (some (.str (Str.ofString "0123456789") t_DIGITS)))
    (c_MAX_CHOICES : PySem.W.nsIn K mainGlobals (Str.ofString "MAX_CHOICES") = some (some (.int 8 t_MAX_CHOICES)))
    (c_MAX_CLAIMS : PySem.W.nsIn K mainGlobals (Str.ofString "MAX_CLAIMS") = some (some (.int 12 t_MAX_CLAIMS)))
    (c_MAX_CONDITIONS : PySem.W.nsIn K mainGlobals (Str.ofString "MAX_CONDITIONS") = some (some (.int 40 t_MAX_CONDITIONS)))
    (c_MAX_EVENTS : PySem.W.nsIn K mainGlobals (Str.ofString "MAX_EVENTS") = some (some (.int 4 t_MAX_EVENTS)))
    (c_MAX_ROWS_TEXT : PySem.W.nsIn K mainGlobals (Str.ofString "MAX_ROWS_TEXT") = some (some (.int 60000 t_MAX_ROWS_TEXT)))
    (c_MAX_TEXT : PySem.W.nsIn K mainGlobals (Str.ofString "MAX_TEXT") = some (some (.int 60 t_MAX_TEXT)))
    (c_MAX_WIDTH : PySem.W.nsIn K mainGlobals (Str.ofString "MAX_WIDTH") = some (some (.int 24 t_MAX_WIDTH)))
    (c_ONE : PySem.W.nsIn K mainGlobals (Str.ofString "ONE") = some (some (.ref a_ONE)))
    (cl_ONE : K.lookup a_ONE = some ⟨.type "tuple", dd_ONE, .seq its_ONE n_ONE, sl_ONE⟩)
    (cv_ONE : intVals its_ONE.toList = some [1, 1])
    (c_RELATIONS : PySem.W.nsIn K mainGlobals (Str.ofString "RELATIONS") = some (some (.ref a_RELATIONS)))
    (cl_RELATIONS : K.lookup a_RELATIONS = some ⟨.type "tuple", dd_RELATIONS, .seq its_RELATIONS n_RELATIONS, sl_RELATIONS⟩)
    (cv_RELATIONS : strVals its_RELATIONS.toList = some [(Str.ofString "<="), (Str.ofString "=")])
    (eA_0 : PySem.W.nsIn K mainGlobals (Str.ofString "KerbError") = some (some (.ref C0)))
    (eX_0 : PySem.W.excIn K C0 veChain "ValueError.__new__" = true)
    (eK_0 : PySem.W.keepIn K (.ref C0) = true)
    (eB_0 : PySem.W.subIn K (.ref C0) (.type "BaseException") = some true)
    (eT_0 : PySem.W.typeIn K (.ref C0) = some (.type "type"))
    (eI_0 : PySem.W.isClsIn K C0 = true)
    (eA_1 : PySem.W.nsIn K mainGlobals (Str.ofString "NotAllowed") = some (some (.ref C1)))
    (eX_1 : PySem.W.excIn K C1 veChain "ValueError.__new__" = true)
    (eK_1 : PySem.W.keepIn K (.ref C1) = true)
    (eB_1 : PySem.W.subIn K (.ref C1) (.type "BaseException") = some true)
    (eT_1 : PySem.W.typeIn K (.ref C1) = some (.type "type"))
    (eI_1 : PySem.W.isClsIn K C1 = true)
    (eA_2 : PySem.W.nsIn K mainGlobals (Str.ofString "BadForm") = some (some (.ref C2)))
    (eX_2 : PySem.W.excIn K C2 veChain "ValueError.__new__" = true)
    (eK_2 : PySem.W.keepIn K (.ref C2) = true)
    (eB_2 : PySem.W.subIn K (.ref C2) (.type "BaseException") = some true)
    (eT_2 : PySem.W.typeIn K (.ref C2) = some (.type "type"))
    (eI_2 : PySem.W.isClsIn K C2 = true)
    (eA_3 : PySem.W.nsIn K mainGlobals (Str.ofString "BadPaper") = some (some (.ref C3)))
    (eX_3 : PySem.W.excIn K C3 veChain "ValueError.__new__" = true)
    (eK_3 : PySem.W.keepIn K (.ref C3) = true)
    (eB_3 : PySem.W.subIn K (.ref C3) (.type "BaseException") = some true)
    (eT_3 : PySem.W.typeIn K (.ref C3) = some (.type "type"))
    (eI_3 : PySem.W.isClsIn K C3 = true)
    (eA_4 : PySem.W.nsIn K mainGlobals (Str.ofString "Missing") = some (some (.ref C4)))
    (eX_4 : PySem.W.excIn K C4 veChain "ValueError.__new__" = true)
    (eK_4 : PySem.W.keepIn K (.ref C4) = true)
    (eB_4 : PySem.W.subIn K (.ref C4) (.type "BaseException") = some true)
    (eT_4 : PySem.W.typeIn K (.ref C4) = some (.type "type"))
    (eI_4 : PySem.W.isClsIn K C4 = true)
    (eA_5 : PySem.W.nsIn K mainGlobals (Str.ofString "Never") = some (some (.ref C5)))
    (eX_5 : PySem.W.excIn K C5 veChain "ValueError.__new__" = true)
    (eK_5 : PySem.W.keepIn K (.ref C5) = true)
    (eB_5 : PySem.W.subIn K (.ref C5) (.type "BaseException") = some true)
    (eT_5 : PySem.W.typeIn K (.ref C5) = some (.type "type"))
    (eI_5 : PySem.W.isClsIn K C5 = true)
    (eA_6 : PySem.W.nsIn K mainGlobals (Str.ofString "Endless") = some (some (.ref C6)))
    (eX_6 : PySem.W.excIn K C6 veChain "ValueError.__new__" = true)
    (eK_6 : PySem.W.keepIn K (.ref C6) = true)
    (eB_6 : PySem.W.subIn K (.ref C6) (.type "BaseException") = some true)
    (eT_6 : PySem.W.typeIn K (.ref C6) = some (.type "type"))
    (eI_6 : PySem.W.isClsIn K C6 = true)
    (eA_7 : PySem.W.nsIn K mainGlobals (Str.ofString "Full") = some (some (.ref C7)))
    (eX_7 : PySem.W.excIn K C7 veChain "ValueError.__new__" = true)
    (eK_7 : PySem.W.keepIn K (.ref C7) = true)
    (eB_7 : PySem.W.subIn K (.ref C7) (.type "BaseException") = some true)
    (eT_7 : PySem.W.typeIn K (.ref C7) = some (.type "type"))
    (eI_7 : PySem.W.isClsIn K C7 = true)
    (eS_0_0 : PySem.W.subIn K (.ref C0) (.ref C0) = some true)
    (eS_1_0 : PySem.W.subIn K (.ref C1) (.ref C0) = some true)
    (eS_2_0 : PySem.W.subIn K (.ref C2) (.ref C0) = some true)
    (eS_3_0 : PySem.W.subIn K (.ref C3) (.ref C0) = some true)
    (eS_4_0 : PySem.W.subIn K (.ref C4) (.ref C0) = some true)
    (eS_5_0 : PySem.W.subIn K (.ref C5) (.ref C0) = some true)
    (eS_6_0 : PySem.W.subIn K (.ref C6) (.ref C0) = some true)
    (eS_7_0 : PySem.W.subIn K (.ref C7) (.ref C0) = some true)
    (xn : PySem.W.specialIn K (.builtin "object.__class__") "__get__" = some (some (.builtin "getset_descriptor.__get__")))
    (xt : PySem.W.takesIn K (.builtin "object.__class__") = some true)
    (xg_1 : PySem.W.findIn K (.ref C1) "__getattribute__" = some (some (.builtin "BaseException.__getattribute__")))
    (xk_1 : PySem.W.findIn K (.ref C1) "__getattr__" = some none)
    (xd_1 : PySem.W.hasDictIn K C1 = true)
    (xa_1 : PySem.W.findIn K (.ref C1) "__class__" = some (some (.builtin "object.__class__")))
    (xm_1 : PySem.W.mroIn K C1 (.type "object") = some true)
    (xg_2 : PySem.W.findIn K (.ref C2) "__getattribute__" = some (some (.builtin "BaseException.__getattribute__")))
    (xk_2 : PySem.W.findIn K (.ref C2) "__getattr__" = some none)
    (xd_2 : PySem.W.hasDictIn K C2 = true)
    (xa_2 : PySem.W.findIn K (.ref C2) "__class__" = some (some (.builtin "object.__class__")))
    (xm_2 : PySem.W.mroIn K C2 (.type "object") = some true)
    (xi_1_1 : PySem.W.kitOne K (.ref C1) (.ref C1) = some true)
    (xi_1_4 : PySem.W.kitOne K (.ref C1) (.ref C4) = some false)
    (xi_1_5 : PySem.W.kitOne K (.ref C1) (.ref C5) = some false)
    (xi_1_6 : PySem.W.kitOne K (.ref C1) (.ref C6) = some false)
    (xi_1_3 : PySem.W.kitOne K (.ref C1) (.ref C3) = some false)
    (xi_1_2 : PySem.W.kitOne K (.ref C1) (.ref C2) = some false)
    (xi_1_7 : PySem.W.kitOne K (.ref C1) (.ref C7) = some false)
    (xi_2_1 : PySem.W.kitOne K (.ref C2) (.ref C1) = some false)
    (xi_2_4 : PySem.W.kitOne K (.ref C2) (.ref C4) = some false)
    (xi_2_5 : PySem.W.kitOne K (.ref C2) (.ref C5) = some false)
    (xi_2_6 : PySem.W.kitOne K (.ref C2) (.ref C6) = some false)
    (xi_2_3 : PySem.W.kitOne K (.ref C2) (.ref C3) = some false)
    (xi_2_2 : PySem.W.kitOne K (.ref C2) (.ref C2) = some true)
    (xi_2_7 : PySem.W.kitOne K (.ref C2) (.ref C7) = some false)
    (tabS : (PySem.W.tabIn K lamDef).isSome = true)
    (tabN : (match PySem.W.tabIn K lamDef with | some (c, P) => (K.lookup P).isNone | none => true) = true)
    (tabT : ∀ c P, PySem.W.tabIn K lamDef = some (c, P) → PySem.W.CodeHd h P c = PySem.W.CodeHd h P c ∧ PySem.W.CodeHd h c P ∧ h.get? P = some { cls := .none, data := .fields #[] })
    (fa_0 : PySem.W.nsIn K mainGlobals (Str.ofString "common") = some (some (.ref f0)))
    (fl_0 : K.lookup f0 = some ⟨oc0, od0, .func (PySem.W.fnOf (Str.ofString "common") (Str.ofString "common") (defArgs s_common) (defBody s_common) (defScope s_common) .none kV0 dc0 pm0 an0 cd0 ct0), sl0⟩)
    (fc_0 : PySem.W.codeIn K cd0 (Str.ofString "common") = true)
    (fk_0 : PySem.W.keepIn K (.ref f0) = true)
    (fa_1 : PySem.W.nsIn K mainGlobals (Str.ofString "is_ratio") = some (some (.ref f1)))
    (fl_1 : K.lookup f1 = some ⟨oc1, od1, .func (PySem.W.fnOf (Str.ofString "is_ratio") (Str.ofString "is_ratio") (defArgs s_is_ratio) (defBody s_is_ratio) (defScope s_is_ratio) .none kV1 dc1 pm1 an1 cd1 ct1), sl1⟩)
    (fc_1 : PySem.W.codeIn K cd1 (Str.ofString "is_ratio") = true)
    (fk_1 : PySem.W.keepIn K (.ref f1) = true)
    (fa_2 : PySem.W.nsIn K mainGlobals (Str.ofString "negated") = some (some (.ref f2)))
    (fl_2 : K.lookup f2 = some ⟨oc2, od2, .func (PySem.W.fnOf (Str.ofString "negated") (Str.ofString "negated") (defArgs s_negated) (defBody s_negated) (defScope s_negated) .none kV2 dc2 pm2 an2 cd2 ct2), sl2⟩)
    (fc_2 : PySem.W.codeIn K cd2 (Str.ofString "negated") = true)
    (fk_2 : PySem.W.keepIn K (.ref f2) = true)
    (fa_3 : PySem.W.nsIn K mainGlobals (Str.ofString "sign_of") = some (some (.ref f3)))
    (fl_3 : K.lookup f3 = some ⟨oc3, od3, .func (PySem.W.fnOf (Str.ofString "sign_of") (Str.ofString "sign_of") (defArgs s_sign_of) (defBody s_sign_of) (defScope s_sign_of) .none kV3 dc3 pm3 an3 cd3 ct3), sl3⟩)
    (fc_3 : PySem.W.codeIn K cd3 (Str.ofString "sign_of") = true)
    (fk_3 : PySem.W.keepIn K (.ref f3) = true)
    (fa_4 : PySem.W.nsIn K mainGlobals (Str.ofString "compare") = some (some (.ref f4)))
    (fl_4 : K.lookup f4 = some ⟨oc4, od4, .func (PySem.W.fnOf (Str.ofString "compare") (Str.ofString "compare") (defArgs s_compare) (defBody s_compare) (defScope s_compare) .none kV4 dc4 pm4 an4 cd4 ct4), sl4⟩)
    (fc_4 : PySem.W.codeIn K cd4 (Str.ofString "compare") = true)
    (fk_4 : PySem.W.keepIn K (.ref f4) = true)
    (fa_5 : PySem.W.nsIn K mainGlobals (Str.ofString "ratio_text") = some (some (.ref f5)))
    (fl_5 : K.lookup f5 = some ⟨oc5, od5, .func (PySem.W.fnOf (Str.ofString "ratio_text") (Str.ofString "ratio_text") (defArgs s_ratio_text) (defBody s_ratio_text) (defScope s_ratio_text) .none kV5 dc5 pm5 an5 cd5 ct5), sl5⟩)
    (fc_5 : PySem.W.codeIn K cd5 (Str.ofString "ratio_text") = true)
    (fk_5 : PySem.W.keepIn K (.ref f5) = true)
    (fa_6 : PySem.W.nsIn K mainGlobals (Str.ofString "is_digits") = some (some (.ref f6)))
    (fl_6 : K.lookup f6 = some ⟨oc6, od6, .func (PySem.W.fnOf (Str.ofString "is_digits") (Str.ofString "is_digits") (defArgs s_is_digits) (defBody s_is_digits) (defScope s_is_digits) .none kV6 dc6 pm6 an6 cd6 ct6), sl6⟩)
    (fc_6 : PySem.W.codeIn K cd6 (Str.ofString "is_digits") = true)
    (fk_6 : PySem.W.keepIn K (.ref f6) = true)
    (fa_7 : PySem.W.nsIn K mainGlobals (Str.ofString "read_ratio") = some (some (.ref f7)))
    (fl_7 : K.lookup f7 = some ⟨oc7, od7, .func (PySem.W.fnOf (Str.ofString "read_ratio") (Str.ofString "read_ratio") (defArgs s_read_ratio) (defBody s_read_ratio) (defScope s_read_ratio) .none kV7 dc7 pm7 an7 cd7 ct7), sl7⟩)
    (fc_7 : PySem.W.codeIn K cd7 (Str.ofString "read_ratio") = true)
    (fk_7 : PySem.W.keepIn K (.ref f7) = true)
    (fa_8 : PySem.W.nsIn K mainGlobals (Str.ofString "check_system") = some (some (.ref f8)))
    (fl_8 : K.lookup f8 = some ⟨oc8, od8, .func (PySem.W.fnOf (Str.ofString "check_system") (Str.ofString "check_system") (defArgs s_check_system) (defBody s_check_system) (defScope s_check_system) .none kV8 dc8 pm8 an8 cd8 ct8), sl8⟩)
    (fc_8 : PySem.W.codeIn K cd8 (Str.ofString "check_system") = true)
    (fk_8 : PySem.W.keepIn K (.ref f8) = true)
    (fa_9 : PySem.W.nsIn K mainGlobals (Str.ofString "check_events") = some (some (.ref f9)))
    (fl_9 : K.lookup f9 = some ⟨oc9, od9, .func (PySem.W.fnOf (Str.ofString "check_events") (Str.ofString "check_events") (defArgs s_check_events) (defBody s_check_events) (defScope s_check_events) .none kV9 dc9 pm9 an9 cd9 ct9), sl9⟩)
    (fc_9 : PySem.W.codeIn K cd9 (Str.ofString "check_events") = true)
    (fk_9 : PySem.W.keepIn K (.ref f9) = true)
    (fa_10 : PySem.W.nsIn K mainGlobals (Str.ofString "check_rows") = some (some (.ref f10)))
    (fl_10 : K.lookup f10 = some ⟨oc10, od10, .func (PySem.W.fnOf (Str.ofString "check_rows") (Str.ofString "check_rows") (defArgs s_check_rows) (defBody s_check_rows) (defScope s_check_rows) .none kV10 dc10 pm10 an10 cd10 ct10), sl10⟩)
    (fc_10 : PySem.W.codeIn K cd10 (Str.ofString "check_rows") = true)
    (fk_10 : PySem.W.keepIn K (.ref f10) = true)
    (fa_11 : PySem.W.nsIn K mainGlobals (Str.ofString "check_claims") = some (some (.ref f11)))
    (fl_11 : K.lookup f11 = some ⟨oc11, od11, .func (PySem.W.fnOf (Str.ofString "check_claims") (Str.ofString "check_claims") (defArgs s_check_claims) (defBody s_check_claims) (defScope s_check_claims) .none kV11 dc11 pm11 an11 cd11 ct11), sl11⟩)
    (fc_11 : PySem.W.codeIn K cd11 (Str.ofString "check_claims") = true)
    (fk_11 : PySem.W.keepIn K (.ref f11) = true)
    (fa_12 : PySem.W.nsIn K mainGlobals (Str.ofString "check_duel") = some (some (.ref f12)))
    (fl_12 : K.lookup f12 = some ⟨oc12, od12, .func (PySem.W.fnOf (Str.ofString "check_duel") (Str.ofString "check_duel") (defArgs s_check_duel) (defBody s_check_duel) (defScope s_check_duel) .none kV12 dc12 pm12 an12 cd12 ct12), sl12⟩)
    (fc_12 : PySem.W.codeIn K cd12 (Str.ofString "check_duel") = true)
    (fk_12 : PySem.W.keepIn K (.ref f12) = true)
    (fa_13 : PySem.W.nsIn K mainGlobals (Str.ofString "row_text") = some (some (.ref f13)))
    (fl_13 : K.lookup f13 = some ⟨oc13, od13, .func (PySem.W.fnOf (Str.ofString "row_text") (Str.ofString "row_text") (defArgs s_row_text) (defBody s_row_text) (defScope s_row_text) .none kV13 dc13 pm13 an13 cd13 ct13), sl13⟩)
    (fc_13 : PySem.W.codeIn K cd13 (Str.ofString "row_text") = true)
    (fk_13 : PySem.W.keepIn K (.ref f13) = true)
    (fa_14 : PySem.W.nsIn K mainGlobals (Str.ofString "system_text") = some (some (.ref f14)))
    (fl_14 : K.lookup f14 = some ⟨oc14, od14, .func (PySem.W.fnOf (Str.ofString "system_text") (Str.ofString "system_text") (defArgs s_system_text) (defBody s_system_text) (defScope s_system_text) .none kV14 dc14 pm14 an14 cd14 ct14), sl14⟩)
    (fc_14 : PySem.W.codeIn K cd14 (Str.ofString "system_text") = true)
    (fk_14 : PySem.W.keepIn K (.ref f14) = true)
    (fa_15 : PySem.W.nsIn K mainGlobals (Str.ofString "duel_text") = some (some (.ref f15)))
    (fl_15 : K.lookup f15 = some ⟨oc15, od15, .func (PySem.W.fnOf (Str.ofString "duel_text") (Str.ofString "duel_text") (defArgs s_duel_text) (defBody s_duel_text) (defScope s_duel_text) .none kV15 dc15 pm15 an15 cd15 ct15), sl15⟩)
    (fc_15 : PySem.W.codeIn K cd15 (Str.ofString "duel_text") = true)
    (fk_15 : PySem.W.keepIn K (.ref f15) = true)
    (fa_16 : PySem.W.nsIn K mainGlobals (Str.ofString "claims_text") = some (some (.ref f16)))
    (fl_16 : K.lookup f16 = some ⟨oc16, od16, .func (PySem.W.fnOf (Str.ofString "claims_text") (Str.ofString "claims_text") (defArgs s_claims_text) (defBody s_claims_text) (defScope s_claims_text) .none kV16 dc16 pm16 an16 cd16 ct16), sl16⟩)
    (fc_16 : PySem.W.codeIn K cd16 (Str.ofString "claims_text") = true)
    (fk_16 : PySem.W.keepIn K (.ref f16) = true)
    (fa_17 : PySem.W.nsIn K mainGlobals (Str.ofString "rows_of") = some (some (.ref f17)))
    (fl_17 : K.lookup f17 = some ⟨oc17, od17, .func (PySem.W.fnOf (Str.ofString "rows_of") (Str.ofString "rows_of") (defArgs s_rows_of) (defBody s_rows_of) (defScope s_rows_of) .none kV17 dc17 pm17 an17 cd17 ct17), sl17⟩)
    (fc_17 : PySem.W.codeIn K cd17 (Str.ofString "rows_of") = true)
    (fk_17 : PySem.W.keepIn K (.ref f17) = true)
    (fa_18 : PySem.W.nsIn K mainGlobals (Str.ofString "number_of") = some (some (.ref f18)))
    (fl_18 : K.lookup f18 = some ⟨oc18, od18, .func (PySem.W.fnOf (Str.ofString "number_of") (Str.ofString "number_of") (defArgs s_number_of) (defBody s_number_of) (defScope s_number_of) .none kV18 dc18 pm18 an18 cd18 ct18), sl18⟩)
    (fc_18 : PySem.W.codeIn K cd18 (Str.ofString "number_of") = true)
    (fk_18 : PySem.W.keepIn K (.ref f18) = true)
    (fa_19 : PySem.W.nsIn K mainGlobals (Str.ofString "front") = some (some (.ref f19)))
    (fl_19 : K.lookup f19 = some ⟨oc19, od19, .func (PySem.W.fnOf (Str.ofString "front") (Str.ofString "front") (defArgs s_front) (defBody s_front) (defScope s_front) .none kV19 dc19 pm19 an19 cd19 ct19), sl19⟩)
    (fc_19 : PySem.W.codeIn K cd19 (Str.ofString "front") = true)
    (fk_19 : PySem.W.keepIn K (.ref f19) = true)
    (fa_20 : PySem.W.nsIn K mainGlobals (Str.ofString "checked") = some (some (.ref f20)))
    (fl_20 : K.lookup f20 = some ⟨oc20, od20, .func (PySem.W.fnOf (Str.ofString "checked") (Str.ofString "checked") (defArgs s_checked) (defBody s_checked) (defScope s_checked) .none kV20 dc20 pm20 an20 cd20 ct20), sl20⟩)
    (fc_20 : PySem.W.codeIn K cd20 (Str.ofString "checked") = true)
    (fk_20 : PySem.W.keepIn K (.ref f20) = true)
    (fa_21 : PySem.W.nsIn K mainGlobals (Str.ofString "read_system") = some (some (.ref f21)))
    (fl_21 : K.lookup f21 = some ⟨oc21, od21, .func (PySem.W.fnOf (Str.ofString "read_system") (Str.ofString "read_system") (defArgs s_read_system) (defBody s_read_system) (defScope s_read_system) .none kV21 dc21 pm21 an21 cd21 ct21), sl21⟩)
    (fc_21 : PySem.W.codeIn K cd21 (Str.ofString "read_system") = true)
    (fk_21 : PySem.W.keepIn K (.ref f21) = true)
    (fa_22 : PySem.W.nsIn K mainGlobals (Str.ofString "read_duel") = some (some (.ref f22)))
    (fl_22 : K.lookup f22 = some ⟨oc22, od22, .func (PySem.W.fnOf (Str.ofString "read_duel") (Str.ofString "read_duel") (defArgs s_read_duel) (defBody s_read_duel) (defScope s_read_duel) .none kV22 dc22 pm22 an22 cd22 ct22), sl22⟩)
    (fc_22 : PySem.W.codeIn K cd22 (Str.ofString "read_duel") = true)
    (fk_22 : PySem.W.keepIn K (.ref f22) = true)
    (fa_23 : PySem.W.nsIn K mainGlobals (Str.ofString "read_claims") = some (some (.ref f23)))
    (fl_23 : K.lookup f23 = some ⟨oc23, od23, .func (PySem.W.fnOf (Str.ofString "read_claims") (Str.ofString "read_claims") (defArgs s_read_claims) (defBody s_read_claims) (defScope s_read_claims) .none kV23 dc23 pm23 an23 cd23 ct23), sl23⟩)
    (fc_23 : PySem.W.codeIn K cd23 (Str.ofString "read_claims") = true)
    (fk_23 : PySem.W.keepIn K (.ref f23) = true)
    (fa_24 : PySem.W.nsIn K mainGlobals (Str.ofString "_law_same") = some (some (.ref f24)))
    (fl_24 : K.lookup f24 = some ⟨oc24, od24, .func (PySem.W.fnOf (Str.ofString "_law_same") (Str.ofString "_law_same") (defArgs s__law_same) (defBody s__law_same) (defScope s__law_same) .none kV24 dc24 pm24 an24 cd24 ct24), sl24⟩)
    (fc_24 : PySem.W.codeIn K cd24 (Str.ofString "_law_same") = true)
    (fk_24 : PySem.W.keepIn K (.ref f24) = true)
    (fa_25 : PySem.W.nsIn K mainGlobals (Str.ofString "_law_stream") = some (some (.ref f25)))
    (fl_25 : K.lookup f25 = some ⟨oc25, od25, .func (PySem.W.fnOf (Str.ofString "_law_stream") (Str.ofString "_law_stream") (defArgs s__law_stream) (defBody s__law_stream) (defScope s__law_stream) .none kV25 dc25 pm25 an25 cd25 ct25), sl25⟩)
    (fc_25 : PySem.W.codeIn K cd25 (Str.ofString "_law_stream") = true)
    (fk_25 : PySem.W.keepIn K (.ref f25) = true)
    (fa_26 : PySem.W.nsIn K mainGlobals (Str.ofString "_law_next") = some (some (.ref f26)))
    (fl_26 : K.lookup f26 = some ⟨oc26, od26, .func (PySem.W.fnOf (Str.ofString "_law_next") (Str.ofString "_law_next") (defArgs s__law_next) (defBody s__law_next) (defScope s__law_next) .none kV26 dc26 pm26 an26 cd26 ct26), sl26⟩)
    (fc_26 : PySem.W.codeIn K cd26 (Str.ofString "_law_next") = true)
    (fk_26 : PySem.W.keepIn K (.ref f26) = true)
    (fa_27 : PySem.W.nsIn K mainGlobals (Str.ofString "_law_error") = some (some (.ref f27)))
    (fl_27 : K.lookup f27 = some ⟨oc27, od27, .func (PySem.W.fnOf (Str.ofString "_law_error") (Str.ofString "_law_error") (defArgs s__law_error) (defBody s__law_error) (defScope s__law_error) .none kV27 dc27 pm27 an27 cd27 ct27), sl27⟩)
    (fc_27 : PySem.W.codeIn K cd27 (Str.ofString "_law_error") = true)
    (fk_27 : PySem.W.keepIn K (.ref f27) = true)
    (fa_28 : PySem.W.nsIn K mainGlobals (Str.ofString "_law_ratio") = some (some (.ref f28)))
    (fl_28 : K.lookup f28 = some ⟨oc28, od28, .func (PySem.W.fnOf (Str.ofString "_law_ratio") (Str.ofString "_law_ratio") (defArgs s__law_ratio) (defBody s__law_ratio) (defScope s__law_ratio) .none kV28 dc28 pm28 an28 cd28 ct28), sl28⟩)
    (fc_28 : PySem.W.codeIn K cd28 (Str.ofString "_law_ratio") = true)
    (fk_28 : PySem.W.keepIn K (.ref f28) = true)
    (fa_29 : PySem.W.nsIn K mainGlobals (Str.ofString "_law_drawn") = some (some (.ref f29)))
    (fl_29 : K.lookup f29 = some ⟨oc29, od29, .func (PySem.W.fnOf (Str.ofString "_law_drawn") (Str.ofString "_law_drawn") (defArgs s__law_drawn) (defBody s__law_drawn) (defScope s__law_drawn) .none kV29 dc29 pm29 an29 cd29 ct29), sl29⟩)
    (fc_29 : PySem.W.codeIn K cd29 (Str.ofString "_law_drawn") = true)
    (fk_29 : PySem.W.keepIn K (.ref f29) = true)
    (fa_30 : PySem.W.nsIn K mainGlobals (Str.ofString "_law_row") = some (some (.ref f30)))
    (fl_30 : K.lookup f30 = some ⟨oc30, od30, .func (PySem.W.fnOf (Str.ofString "_law_row") (Str.ofString "_law_row") (defArgs s__law_row) (defBody s__law_row) (defScope s__law_row) .none kV30 dc30 pm30 an30 cd30 ct30), sl30⟩)
    (fc_30 : PySem.W.codeIn K cd30 (Str.ofString "_law_row") = true)
    (fk_30 : PySem.W.keepIn K (.ref f30) = true)
    (fa_31 : PySem.W.nsIn K mainGlobals (Str.ofString "_law_conditions") = some (some (.ref f31)))
    (fl_31 : K.lookup f31 = some ⟨oc31, od31, .func (PySem.W.fnOf (Str.ofString "_law_conditions") (Str.ofString "_law_conditions") (defArgs s__law_conditions) (defBody s__law_conditions) (defScope s__law_conditions) .none kV31 dc31 pm31 an31 cd31 ct31), sl31⟩)
    (fc_31 : PySem.W.codeIn K cd31 (Str.ofString "_law_conditions") = true)
    (fk_31 : PySem.W.keepIn K (.ref f31) = true)
    (fa_32 : PySem.W.nsIn K mainGlobals (Str.ofString "_law_bad") = some (some (.ref f32)))
    (fl_32 : K.lookup f32 = some ⟨oc32, od32, .func (PySem.W.fnOf (Str.ofString "_law_bad") (Str.ofString "_law_bad") (defArgs s__law_bad) (defBody s__law_bad) (defScope s__law_bad) .none kV32 dc32 pm32 an32 cd32 ct32), sl32⟩)
    (fc_32 : PySem.W.codeIn K cd32 (Str.ofString "_law_bad") = true)
    (fk_32 : PySem.W.keepIn K (.ref f32) = true)
    (fa_33 : PySem.W.nsIn K mainGlobals (Str.ofString "_law_duel") = some (some (.ref f33)))
    (fl_33 : K.lookup f33 = some ⟨oc33, od33, .func (PySem.W.fnOf (Str.ofString "_law_duel") (Str.ofString "_law_duel") (defArgs s__law_duel) (defBody s__law_duel) (defScope s__law_duel) .none kV33 dc33 pm33 an33 cd33 ct33), sl33⟩)
    (fc_33 : PySem.W.codeIn K cd33 (Str.ofString "_law_duel") = true)
    (fk_33 : PySem.W.keepIn K (.ref f33) = true)
    (fa_34 : PySem.W.nsIn K mainGlobals (Str.ofString "_law_rows") = some (some (.ref f34)))
    (fl_34 : K.lookup f34 = some ⟨oc34, od34, .func (PySem.W.fnOf (Str.ofString "_law_rows") (Str.ofString "_law_rows") (defArgs s__law_rows) (defBody s__law_rows) (defScope s__law_rows) .none kV34 dc34 pm34 an34 cd34 ct34), sl34⟩)
    (fc_34 : PySem.W.codeIn K cd34 (Str.ofString "_law_rows") = true)
    (fk_34 : PySem.W.keepIn K (.ref f34) = true)
    (fa_35 : PySem.W.nsIn K mainGlobals (Str.ofString "_law_claims") = some (some (.ref f35)))
    (fl_35 : K.lookup f35 = some ⟨oc35, od35, .func (PySem.W.fnOf (Str.ofString "_law_claims") (Str.ofString "_law_claims") (defArgs s__law_claims) (defBody s__law_claims) (defScope s__law_claims) .none kV35 dc35 pm35 an35 cd35 ct35), sl35⟩)
    (fc_35 : PySem.W.codeIn K cd35 (Str.ofString "_law_claims") = true)
    (fk_35 : PySem.W.keepIn K (.ref f35) = true)
    (fa_36 : PySem.W.nsIn K mainGlobals (Str.ofString "_law_told") = some (some (.ref f36)))
    (fl_36 : K.lookup f36 = some ⟨oc36, od36, .func (PySem.W.fnOf (Str.ofString "_law_told") (Str.ofString "_law_told") (defArgs s__law_told) (defBody s__law_told) (defScope s__law_told) .none kV36 dc36 pm36 an36 cd36 ct36), sl36⟩)
    (fc_36 : PySem.W.codeIn K cd36 (Str.ofString "_law_told") = true)
    (fk_36 : PySem.W.keepIn K (.ref f36) = true)
    (fa_37 : PySem.W.nsIn K mainGlobals (Str.ofString "_law_part") = some (some (.ref f37)))
    (fl_37 : K.lookup f37 = some ⟨oc37, od37, .func (PySem.W.fnOf (Str.ofString "_law_part") (Str.ofString "_law_part") (defArgs s__law_part) (defBody s__law_part) (defScope s__law_part) .none kV37 dc37 pm37 an37 cd37 ct37), sl37⟩)
    (fc_37 : PySem.W.codeIn K cd37 (Str.ofString "_law_part") = true)
    (fk_37 : PySem.W.keepIn K (.ref f37) = true)
    (fa_38 : PySem.W.nsIn K mainGlobals (Str.ofString "_law_text") = some (some (.ref f38)))
    (fl_38 : K.lookup f38 = some ⟨oc38, od38, .func (PySem.W.fnOf (Str.ofString "_law_text") (Str.ofString "_law_text") (defArgs s__law_text) (defBody s__law_text) (defScope s__law_text) .none kV38 dc38 pm38 an38 cd38 ct38), sl38⟩)
    (fc_38 : PySem.W.codeIn K cd38 (Str.ofString "_law_text") = true)
    (fk_38 : PySem.W.keepIn K (.ref f38) = true)
    (fa_39 : PySem.W.nsIn K mainGlobals (Str.ofString "_law_spoilt") = some (some (.ref f39)))
    (fl_39 : K.lookup f39 = some ⟨oc39, od39, .func (PySem.W.fnOf (Str.ofString "_law_spoilt") (Str.ofString "_law_spoilt") (defArgs s__law_spoilt) (defBody s__law_spoilt) (defScope s__law_spoilt) .none kV39 dc39 pm39 an39 cd39 ct39), sl39⟩)
    (fc_39 : PySem.W.codeIn K cd39 (Str.ofString "_law_spoilt") = true)
    (fk_39 : PySem.W.keepIn K (.ref f39) = true)
    (fa_40 : PySem.W.nsIn K mainGlobals (Str.ofString "law") = some (some (.ref f40)))
    (fl_40 : K.lookup f40 = some ⟨oc40, od40, .func (PySem.W.fnOf (Str.ofString "law") (Str.ofString "law") (defArgs s_law) (defBody s_law) (defScope s_law) .none kV40 dc40 pm40 an40 cd40 ct40), sl40⟩)
    (fc_40 : PySem.W.codeIn K cd40 (Str.ofString "law") = true)
    (fk_40 : PySem.W.keepIn K (.ref f40) = true)
    : LawG l w K (L2N.CX l.prog w) 8 63 (Str.ofString "script") mg fa h := by
  have e := hfa.symm.trans (PySem.W.mg_of X G fa_40)
  cases e
  let cm : Nat → Addr := fun k => match k with | 0 => C0 | 1 => C1 | 2 => C2 | 3 => C3 | 4 => C4 | 5 => C5 | 6 => C6 | 7 => C7 | _ => 0
  have F0 := fun_mk (st := s_common) fl_0 fc_0 fk_0
  have B0 := F0.binds (ps := [(Str.ofString "first"), (Str.ofString "second")]) fun _ _ _ _ _ _ us hl => match us, hl with | [_, _], _ => rfl
  have F1 := fun_mk (st := s_is_ratio) fl_1 fc_1 fk_1
  have B1 := F1.binds (ps := [(Str.ofString "pair")]) fun _ _ _ _ _ _ us hl => match us, hl with | [_], _ => rfl
  have F2 := fun_mk (st := s_negated) fl_2 fc_2 fk_2
  have B2 := F2.binds (ps := [(Str.ofString "first")]) fun _ _ _ _ _ _ us hl => match us, hl with | [_], _ => rfl
  have F3 := fun_mk (st := s_sign_of) fl_3 fc_3 fk_3
  have B3 := F3.binds (ps := [(Str.ofString "first")]) fun _ _ _ _ _ _ us hl => match us, hl with | [_], _ => rfl
  have F4 := fun_mk (st := s_compare) fl_4 fc_4 fk_4
  have B4 := F4.binds (ps := [(Str.ofString "first"), (Str.ofString "second")]) fun _ _ _ _ _ _ us hl => match us, hl with | [_, _], _ => rfl
  have F5 := fun_mk (st := s_ratio_text) fl_5 fc_5 fk_5
  have B5 := F5.binds (ps := [(Str.ofString "first")]) fun _ _ _ _ _ _ us hl => match us, hl with | [_], _ => rfl
  have F6 := fun_mk (st := s_is_digits) fl_6 fc_6 fk_6
  have B6 := F6.binds (ps := [(Str.ofString "text")]) fun _ _ _ _ _ _ us hl => match us, hl with | [_], _ => rfl
  have F7 := fun_mk (st := s_read_ratio) fl_7 fc_7 fk_7
  have B7 := F7.binds (ps := [(Str.ofString "text")]) fun _ _ _ _ _ _ us hl => match us, hl with | [_], _ => rfl
  have F8 := fun_mk (st := s_check_system) fl_8 fc_8 fk_8
  have B8 := F8.binds (ps := [(Str.ofString "system")]) fun _ _ _ _ _ _ us hl => match us, hl with | [_], _ => rfl
  have F9 := fun_mk (st := s_check_events) fl_9 fc_9 fk_9
  have B9 := F9.binds (ps := [(Str.ofString "many")]) fun _ _ _ _ _ _ us hl => match us, hl with | [_], _ => rfl
  have F10 := fun_mk (st := s_check_rows) fl_10 fc_10 fk_10
  have B10 := F10.binds (ps := [(Str.ofString "many"), (Str.ofString "rows")]) fun _ _ _ _ _ _ us hl => match us, hl with | [_, _], _ => rfl
  have F11 := fun_mk (st := s_check_claims) fl_11 fc_11 fk_11
  have B11 := F11.binds (ps := [(Str.ofString "many"), (Str.ofString "claims")]) fun _ _ _ _ _ _ us hl => match us, hl with | [_, _], _ => rfl
  have F12 := fun_mk (st := s_check_duel) fl_12 fc_12 fk_12
  have B12 := F12.binds (ps := [(Str.ofString "duel")]) fun _ _ _ _ _ _ us hl => match us, hl with | [_], _ => rfl
  have F13 := fun_mk (st := s_row_text) fl_13 fc_13 fk_13
  have B13 := F13.binds (ps := [(Str.ofString "parts")]) fun _ _ _ _ _ _ us hl => match us, hl with | [_], _ => rfl
  have F14 := fun_mk (st := s_system_text) fl_14 fc_14 fk_14
  have B14 := F14.binds (ps := [(Str.ofString "system")]) fun _ _ _ _ _ _ us hl => match us, hl with | [_], _ => rfl
  have F15 := fun_mk (st := s_duel_text) fl_15 fc_15 fk_15
  have B15 := F15.binds (ps := [(Str.ofString "duel")]) fun _ _ _ _ _ _ us hl => match us, hl with | [_], _ => rfl
  have F16 := fun_mk (st := s_claims_text) fl_16 fc_16 fk_16
  have B16 := F16.binds (ps := [(Str.ofString "many"), (Str.ofString "claims")]) fun _ _ _ _ _ _ us hl => match us, hl with | [_, _], _ => rfl
  have F17 := fun_mk (st := s_rows_of) fl_17 fc_17 fk_17
  have B17 := F17.binds (ps := [(Str.ofString "text")]) fun _ _ _ _ _ _ us hl => match us, hl with | [_], _ => rfl
  have F18 := fun_mk (st := s_number_of) fl_18 fc_18 fk_18
  have B18 := F18.binds (ps := [(Str.ofString "word")]) fun _ _ _ _ _ _ us hl => match us, hl with | [_], _ => rfl
  have F19 := fun_mk (st := s_front) fl_19 fc_19 fk_19
  have B19 := F19.binds (ps := [(Str.ofString "rows"), (Str.ofString "word"), (Str.ofString "many")]) fun _ _ _ _ _ _ us hl => match us, hl with | [_, _, _], _ => rfl
  have F20 := fun_mk (st := s_checked) fl_20 fc_20 fk_20
  have B20 := F20.binds (ps := [(Str.ofString "check"), (Str.ofString "value")]) fun _ _ _ _ _ _ us hl => match us, hl with | [_, _], _ => rfl
  have F21 := fun_mk (st := s_read_system) fl_21 fc_21 fk_21
  have B21 := F21.binds (ps := [(Str.ofString "text")]) fun _ _ _ _ _ _ us hl => match us, hl with | [_], _ => rfl
  have F22 := fun_mk (st := s_read_duel) fl_22 fc_22 fk_22
  have B22 := F22.binds (ps := [(Str.ofString "text")]) fun _ _ _ _ _ _ us hl => match us, hl with | [_], _ => rfl
  have F23 := fun_mk (st := s_read_claims) fl_23 fc_23 fk_23
  have B23 := F23.binds (ps := [(Str.ofString "text")]) fun _ _ _ _ _ _ us hl => match us, hl with | [_], _ => rfl
  have F24 := fun_mk (st := s__law_same) fl_24 fc_24 fk_24
  have B24 := F24.binds (ps := [(Str.ofString "told"), (Str.ofString "due")]) fun _ _ _ _ _ _ us hl => match us, hl with | [_, _], _ => rfl
  have F25 := fun_mk (st := s__law_stream) fl_25 fc_25 fk_25
  have B25 := F25.binds (ps := [(Str.ofString "script")]) fun _ _ _ _ _ _ us hl => match us, hl with | [_], _ => rfl
  have F26 := fun_mk (st := s__law_next) fl_26 fc_26 fk_26
  have B26 := F26.binds (ps := [(Str.ofString "state"), (Str.ofString "many")]) fun _ _ _ _ _ _ us hl => match us, hl with | [_, _], _ => rfl
  have F27 := fun_mk (st := s__law_error) fl_27 fc_27 fk_27
  have B27 := F27.binds (ps := [(Str.ofString "e")]) fun _ _ _ _ _ _ us hl => match us, hl with | [_], _ => rfl
  have F28 := fun_mk (st := s__law_ratio) fl_28 fc_28 fk_28
  have B28 := F28.binds (ps := [(Str.ofString "n"), (Str.ofString "d")]) fun _ _ _ _ _ _ us hl => match us, hl with | [_, _], _ => rfl
  have F29 := fun_mk (st := s__law_drawn) fl_29 fc_29 fk_29
  have B29 := F29.binds (ps := [(Str.ofString "state"), (Str.ofString "most")]) fun _ _ _ _ _ _ us hl => match us, hl with | [_, _], _ => rfl
  have F30 := fun_mk (st := s__law_row) fl_30 fc_30 fk_30
  have B30 := F30.binds (ps := [(Str.ofString "state"), (Str.ofString "width"), (Str.ofString "most")]) fun _ _ _ _ _ _ us hl => match us, hl with | [_, _, _], _ => rfl
  have F31 := fun_mk (st := s__law_conditions) fl_31 fc_31 fk_31
  have B31 := F31.binds (ps := [(Str.ofString "state"), (Str.ofString "width"), (Str.ofString "many")]) fun _ _ _ _ _ _ us hl => match us, hl with | [_, _, _], _ => rfl
  have F32 := fun_mk (st := s__law_bad) fl_32 fc_32 fk_32
  have B32 := F32.binds (ps := [(Str.ofString "system")]) fun _ _ _ _ _ _ us hl => match us, hl with | [_], _ => rfl
  have F33 := fun_mk (st := s__law_duel) fl_33 fc_33 fk_33
  have B33 := F33.binds (ps := [(Str.ofString "state"), (Str.ofString "most")]) fun _ _ _ _ _ _ us hl => match us, hl with | [_, _], _ => rfl
  have F34 := fun_mk (st := s__law_rows) fl_34 fc_34 fk_34
  have B34 := F34.binds (ps := [(Str.ofString "state"), (Str.ofString "many")]) fun _ _ _ _ _ _ us hl => match us, hl with | [_, _], _ => rfl
  have F35 := fun_mk (st := s__law_claims) fl_35 fc_35 fk_35
  have B35 := F35.binds (ps := [(Str.ofString "state"), (Str.ofString "many"), (Str.ofString "most")]) fun _ _ _ _ _ _ us hl => match us, hl with | [_, _, _], _ => rfl
  have F36 := fun_mk (st := s__law_told) fl_36 fc_36 fk_36
  have B36 := F36.binds (ps := [(Str.ofString "kind"), (Str.ofString "call")]) fun _ _ _ _ _ _ us hl => match us, hl with | [_, _], _ => rfl
  have F37 := fun_mk (st := s__law_part) fl_37 fc_37 fk_37
  have B37 := F37.binds (ps := [(Str.ofString "part")]) fun _ _ _ _ _ _ us hl => match us, hl with | [_], _ => rfl
  have F38 := fun_mk (st := s__law_text) fl_38 fc_38 fk_38
  have B38 := F38.binds (ps := [(Str.ofString "kind"), (Str.ofString "value")]) fun _ _ _ _ _ _ us hl => match us, hl with | [_, _], _ => rfl
  have F39 := fun_mk (st := s__law_spoilt) fl_39 fc_39 fk_39
  have B39 := F39.binds (ps := [(Str.ofString "state"), (Str.ofString "text")]) fun _ _ _ _ _ _ us hl => match us, hl with | [_, _], _ => rfl
  have F40 := fun_mk (st := s_law) fl_40 fc_40 fk_40
  have M0 : ∀ i b, mt_KerbError i = some b → PySem.W.exmOne K (.ref (cm i)) (.ref (cm 0)) = some b := fun i b q => match i, b, q with
      | 0, b, q => by cases (show some true = some b from q); exact exm_pair eB_0 eI_0 eT_0 eS_0_0
      | 1, b, q => by cases (show some true = some b from q); exact exm_pair eB_0 eI_0 eT_0 eS_1_0
      | 2, b, q => by cases (show some true = some b from q); exact exm_pair eB_0 eI_0 eT_0 eS_2_0
      | 3, b, q => by cases (show some true = some b from q); exact exm_pair eB_0 eI_0 eT_0 eS_3_0
      | 4, b, q => by cases (show some true = some b from q); exact exm_pair eB_0 eI_0 eT_0 eS_4_0
      | 5, b, q => by cases (show some true = some b from q); exact exm_pair eB_0 eI_0 eT_0 eS_5_0
      | 6, b, q => by cases (show some true = some b from q); exact exm_pair eB_0 eI_0 eT_0 eS_6_0
      | 7, b, q => by cases (show some true = some b from q); exact exm_pair eB_0 eI_0 eT_0 eS_7_0
      | k + 8, b, q => nomatch q
  have T : Txt K w mg cm := {
    b_abs := PySem.W.mg_none_of X G b_abs,
    b_all := PySem.W.mg_none_of X G b_all,
    b_int := PySem.W.mg_none_of X G b_int,
    b_isinstance := PySem.W.mg_none_of X G b_isinstance,
    b_len := PySem.W.mg_none_of X G b_len,
    b_list := PySem.W.mg_none_of X G b_list,
    b_range := PySem.W.mg_none_of X G b_range,
    b_repr := PySem.W.mg_none_of X G b_repr,
    b_set := PySem.W.mg_none_of X G b_set,
    b_sorted := PySem.W.mg_none_of X G b_sorted,
    b_str := PySem.W.mg_none_of X G b_str,
    b_sum := PySem.W.mg_none_of X G b_sum,
    b_tuple := PySem.W.mg_none_of X G b_tuple,
    c_DIGITS := globD_str (PySem.W.mg_of X G c_DIGITS),
    c_MAX_CHOICES := globD_int (PySem.W.mg_of X G c_MAX_CHOICES),
    c_MAX_CLAIMS := globD_int (PySem.W.mg_of X G c_MAX_CLAIMS),
    c_MAX_CONDITIONS := globD_int (PySem.W.mg_of X G c_MAX_CONDITIONS),
    c_MAX_EVENTS := globD_int (PySem.W.mg_of X G c_MAX_EVENTS),
    c_MAX_ROWS_TEXT := globD_int (PySem.W.mg_of X G c_MAX_ROWS_TEXT),
    c_MAX_TEXT := globD_int (PySem.W.mg_of X G c_MAX_TEXT),
    c_MAX_WIDTH := globD_int (PySem.W.mg_of X G c_MAX_WIDTH),
    c_ONE := globD_ints (PySem.W.mg_of X G c_ONE) cl_ONE cv_ONE (by decide),
    c_RELATIONS := globD_strs (PySem.W.mg_of X G c_RELATIONS) cl_RELATIONS cv_RELATIONS (by decide),
    v_check_duel := globD_fn (PySem.W.mg_of X G fa_12) fa_12 fk_12,
    v_check_system := globD_fn (PySem.W.mg_of X G fa_8) fa_8 fk_8,
    v_duel_text := globD_fn (PySem.W.mg_of X G fa_15) fa_15 fk_15,
    v_read_claims := globD_fn (PySem.W.mg_of X G fa_23) fa_23 fk_23,
    v_read_duel := globD_fn (PySem.W.mg_of X G fa_22) fa_22 fk_22,
    v_read_system := globD_fn (PySem.W.mg_of X G fa_21) fa_21 fk_21,
    v_system_text := globD_fn (PySem.W.mg_of X G fa_14) fa_14 fk_14,
    x__law_error := fun i t q => match i, q with
      | 1, _ => ⟨xg_1, xk_1, eB_1, xd_1, xa_1, xn, xt, xm_1⟩
      | 2, _ => ⟨xg_2, xk_2, eB_2, xd_2, xa_2, xn, xt, xm_2⟩,
    k__law_error_0 := fun i t q => match i, q with
      | 1, _ => xi_1_1
      | 2, _ => xi_2_1,
    k__law_error_1 := fun i t q => match i, q with
      | 1, _ => xi_1_4
      | 2, _ => xi_2_4,
    k__law_error_2 := fun i t q => match i, q with
      | 1, _ => xi_1_5
      | 2, _ => xi_2_5,
    k__law_error_3 := fun i t q => match i, q with
      | 1, _ => xi_1_6
      | 2, _ => xi_2_6,
    k__law_error_4 := fun i t q => match i, q with
      | 1, _ => xi_1_3
      | 2, _ => xi_2_3,
    k__law_error_5 := fun i t q => match i, q with
      | 1, _ => xi_1_2
      | 2, _ => xi_2_2,
    k__law_error_6 := fun i t q => match i, q with
      | 1, _ => xi_1_7
      | 2, _ => xi_2_7,
    lam := ⟨f23, _, _, fa_23, fl_23, rfl, rfl⟩,
    e_BadForm := ⟨PySem.W.mg_of X G eA_2, eX_2, eK_2, eB_2, eT_2⟩,
    e_BadPaper := ⟨PySem.W.mg_of X G eA_3, eX_3, eK_3, eB_3, eT_3⟩,
    e_Endless := ⟨PySem.W.mg_of X G eA_6, eX_6, eK_6, eB_6, eT_6⟩,
    e_Full := ⟨PySem.W.mg_of X G eA_7, eX_7, eK_7, eB_7, eT_7⟩,
    e_KerbError := ⟨PySem.W.mg_of X G eA_0, eX_0, eK_0, eB_0, eT_0⟩,
    e_Missing := ⟨PySem.W.mg_of X G eA_4, eX_4, eK_4, eB_4, eT_4⟩,
    e_Never := ⟨PySem.W.mg_of X G eA_5, eX_5, eK_5, eB_5, eT_5⟩,
    e_NotAllowed := ⟨PySem.W.mg_of X G eA_1, eX_1, eK_1, eB_1, eT_1⟩,
    m_KerbError := M0,
    f_common := ⟨f0, _, F0, PySem.W.mg_of X G fa_0, B0⟩,
    f_is_ratio := ⟨f1, _, F1, PySem.W.mg_of X G fa_1, B1⟩,
    f_negated := ⟨f2, _, F2, PySem.W.mg_of X G fa_2, B2⟩,
    f_sign_of := ⟨f3, _, F3, PySem.W.mg_of X G fa_3, B3⟩,
    f_compare := ⟨f4, _, F4, PySem.W.mg_of X G fa_4, B4⟩,
    f_ratio_text := ⟨f5, _, F5, PySem.W.mg_of X G fa_5, B5⟩,
    f_is_digits := ⟨f6, _, F6, PySem.W.mg_of X G fa_6, B6⟩,
    f_read_ratio := ⟨f7, _, F7, PySem.W.mg_of X G fa_7, B7⟩,
    f_check_system := ⟨f8, _, F8, PySem.W.mg_of X G fa_8, B8⟩,
    f_check_events := ⟨f9, _, F9, PySem.W.mg_of X G fa_9, B9⟩,
    f_check_rows := ⟨f10, _, F10, PySem.W.mg_of X G fa_10, B10⟩,
    f_check_claims := ⟨f11, _, F11, PySem.W.mg_of X G fa_11, B11⟩,
    f_check_duel := ⟨f12, _, F12, PySem.W.mg_of X G fa_12, B12⟩,
    f_row_text := ⟨f13, _, F13, PySem.W.mg_of X G fa_13, B13⟩,
    f_system_text := ⟨f14, _, F14, PySem.W.mg_of X G fa_14, B14⟩,
    f_duel_text := ⟨f15, _, F15, PySem.W.mg_of X G fa_15, B15⟩,
    f_claims_text := ⟨f16, _, F16, PySem.W.mg_of X G fa_16, B16⟩,
    f_rows_of := ⟨f17, _, F17, PySem.W.mg_of X G fa_17, B17⟩,
    f_number_of := ⟨f18, _, F18, PySem.W.mg_of X G fa_18, B18⟩,
    f_front := ⟨f19, _, F19, PySem.W.mg_of X G fa_19, B19⟩,
    f_checked := ⟨f20, _, F20, PySem.W.mg_of X G fa_20, B20⟩,
    f_read_system := ⟨f21, _, F21, PySem.W.mg_of X G fa_21, B21⟩,
    f_read_duel := ⟨f22, _, F22, PySem.W.mg_of X G fa_22, B22⟩,
    f_read_claims := ⟨f23, _, F23, PySem.W.mg_of X G fa_23, B23⟩,
    f__law_same := ⟨f24, _, F24, PySem.W.mg_of X G fa_24, B24⟩,
    f__law_stream := ⟨f25, _, F25, PySem.W.mg_of X G fa_25, B25⟩,
    f__law_next := ⟨f26, _, F26, PySem.W.mg_of X G fa_26, B26⟩,
    f__law_error := ⟨f27, _, F27, PySem.W.mg_of X G fa_27, B27⟩,
    f__law_ratio := ⟨f28, _, F28, PySem.W.mg_of X G fa_28, B28⟩,
    f__law_drawn := ⟨f29, _, F29, PySem.W.mg_of X G fa_29, B29⟩,
    f__law_row := ⟨f30, _, F30, PySem.W.mg_of X G fa_30, B30⟩,
    f__law_conditions := ⟨f31, _, F31, PySem.W.mg_of X G fa_31, B31⟩,
    f__law_bad := ⟨f32, _, F32, PySem.W.mg_of X G fa_32, B32⟩,
    f__law_duel := ⟨f33, _, F33, PySem.W.mg_of X G fa_33, B33⟩,
    f__law_rows := ⟨f34, _, F34, PySem.W.mg_of X G fa_34, B34⟩,
    f__law_claims := ⟨f35, _, F35, PySem.W.mg_of X G fa_35, B35⟩,
    f__law_told := ⟨f36, _, F36, PySem.W.mg_of X G fa_36, B36⟩,
    f__law_part := ⟨f37, _, F37, PySem.W.mg_of X G fa_37, B37⟩,
    f__law_text := ⟨f38, _, F38, PySem.W.mg_of X G fa_38, B38⟩,
    f__law_spoilt := ⟨f39, _, F39, PySem.W.mg_of X G fa_39, B39⟩ }
  obtain ⟨⟨c0, P0⟩, tab⟩ := Option.isSome_iff_exists.mp tabS
  rw [tab] at tabN
  obtain ⟨_, t1, t2⟩ := tabT c0 P0 tab
  refine ⟨?fd, [(c0, P0)], spLaw K, fun p m => ?a, fun s u => ?b, fun H a ns z1 z2 z3 z4 => ⟨a, ns, rfl, z4, z1, z2, tabsK_start tab (z3 _ List.mem_cons_self), fun _ => rfl⟩, fun base kb gb TB => ?d⟩
  case a =>
    rw [List.mem_singleton.mp m]
    exact ⟨t1, t2, by simpa using tabN⟩
  case d =>
    refine (all_ok T (fun f fd Fn hm => ⟨⟨c0, P0, tab, ?_, TB _ List.mem_cons_self⟩, T.lam⟩) F40).imp (spLaw_to plain_law)
    obtain ⟨oc, od, kV, doc, pm, an, cdv, ct, osl, rfl, lk, hcd⟩ := Fn.ex
    exact PySem.W.law_code kb gb tab hm (kb _ _ lk) rfl
  case b => exact .of_eq rfl
end K95
open PySem PySem.W PyProof.Rows
theorem PySem.Challenge.cw_kerbwise_k95_texts_of_systems_duels_and_holds : PySem.Challenge.rw_kerbwise_k95_texts_of_systems_duels_and.Holds := by
  w_on; o_law; k_head; (case hw => w_witness2)
  k_fill
  refine Z.walk_G (l := PySem.Challenge.rw_kerbwise_k95_texts_of_systems_duels_and) (n := 63) (k := 8) (x := (PySem.Str.ofString "script")) (CX := fun w => L2N.CX (PySem.Challenge.rw_kerbwise_k95_texts_of_systems_duels_and).prog w) rfl (by decide) rfl ⟨rfl, by decide, by decide⟩ (fun w h Y => PySem.W.km_in_of Y) ?F ?C
  case C => exact fun w H s e s1 ⟨_, _, _, _, _, _, _, _, _, _, _, _, q⟩ => q
  case F =>
    intro w mg mb fa s0 h GG Y KX G hmg
    refine' K95.all_mk (l := PySem.Challenge.rw_kerbwise_k95_texts_of_systems_duels_and) (w := w) KX G hmg ?b_abs ?b_all ?b_int ?b_isinstance ?b_len ?b_list ?b_range ?b_repr ?b_set ?b_sorted ?b_str ?b_sum ?b_tuple ?c_DIGITS ?c_MAX_CHOICES ?c_MAX_CLAIMS ?c_MAX_CONDITIONS ?c_MAX_EVENTS ?c_MAX_ROWS_TEXT ?c_MAX_TEXT ?c_MAX_WIDTH ?c_ONE ?cl_ONE ?cv_ONE ?c_RELATIONS ?cl_RELATIONS ?cv_RELATIONS ?eA_0 ?eX_0 ?eK_0 ?eB_0 ?eT_0 ?eI_0 ?eA_1 ?eX_1 ?eK_1 ?eB_1 ?eT_1 ?eI_1 ?eA_2 ?eX_2 ?eK_2 ?eB_2 ?eT_2 ?eI_2 ?eA_3 ?eX_3 ?eK_3 ?eB_3 ?eT_3 ?eI_3 ?eA_4 ?eX_4 ?eK_4 ?eB_4 ?eT_4 ?eI_4 ?eA_5 ?eX_5 ?eK_5 ?eB_5 ?eT_5 ?eI_5 ?eA_6 ?eX_6 ?eK_6 ?eB_6 ?eT_6 ?eI_6 ?eA_7 ?eX_7 ?eK_7 ?eB_7 ?eT_7 ?eI_7 ?eS_0_0 ?eS_1_0 ?eS_2_0 ?eS_3_0 ?eS_4_0 ?eS_5_0 ?eS_6_0 ?eS_7_0 ?xn ?xt ?xg_1 ?xk_1 ?xd_1 ?xa_1 ?xm_1 ?xg_2 ?xk_2 ?xd_2 ?xa_2 ?xm_2 ?xi_1_1 ?xi_1_4 ?xi_1_5 ?xi_1_6 ?xi_1_3 ?xi_1_2 ?xi_1_7 ?xi_2_1 ?xi_2_4 ?xi_2_5 ?xi_2_6 ?xi_2_3 ?xi_2_2 ?xi_2_7 ?tabS ?tabN ?tabT ?fa_0 ?fl_0 ?fc_0 ?fk_0 ?fa_1 ?fl_1 ?fc_1 ?fk_1 ?fa_2 ?fl_2 ?fc_2 ?fk_2 ?fa_3 ?fl_3 ?fc_3 ?fk_3 ?fa_4 ?fl_4 ?fc_4 ?fk_4 ?fa_5 ?fl_5 ?fc_5 ?fk_5 ?fa_6 ?fl_6 ?fc_6 ?fk_6 ?fa_7 ?fl_7 ?fc_7 ?fk_7 ?fa_8 ?fl_8 ?fc_8 ?fk_8 ?fa_9 ?fl_9 ?fc_9 ?fk_9 ?fa_10 ?fl_10 ?fc_10 ?fk_10 ?fa_11 ?fl_11 ?fc_11 ?fk_11 ?fa_12 ?fl_12 ?fc_12 ?fk_12 ?fa_13 ?fl_13 ?fc_13 ?fk_13 ?fa_14 ?fl_14 ?fc_14 ?fk_14 ?fa_15 ?fl_15 ?fc_15 ?fk_15 ?fa_16 ?fl_16 ?fc_16 ?fk_16 ?fa_17 ?fl_17 ?fc_17 ?fk_17 ?fa_18 ?fl_18 ?fc_18 ?fk_18 ?fa_19 ?fl_19 ?fc_19 ?fk_19 ?fa_20 ?fl_20 ?fc_20 ?fk_20 ?fa_21 ?fl_21 ?fc_21 ?fk_21 ?fa_22 ?fl_22 ?fc_22 ?fk_22 ?fa_23 ?fl_23 ?fc_23 ?fk_23 ?fa_24 ?fl_24 ?fc_24 ?fk_24 ?fa_25 ?fl_25 ?fc_25 ?fk_25 ?fa_26 ?fl_26 ?fc_26 ?fk_26 ?fa_27 ?fl_27 ?fc_27 ?fk_27 ?fa_28 ?fl_28 ?fc_28 ?fk_28 ?fa_29 ?fl_29 ?fc_29 ?fk_29 ?fa_30 ?fl_30 ?fc_30 ?fk_30 ?fa_31 ?fl_31 ?fc_31 ?fk_31 ?fa_32 ?fl_32 ?fc_32 ?fk_32 ?fa_33 ?fl_33 ?fc_33 ?fk_33 ?fa_34 ?fl_34 ?fc_34 ?fk_34 ?fa_35 ?fl_35 ?fc_35 ?fk_35 ?fa_36 ?fl_36 ?fc_36 ?fk_36 ?fa_37 ?fl_37 ?fc_37 ?fk_37 ?fa_38 ?fl_38 ?fc_38 ?fk_38 ?fa_39 ?fl_39 ?fc_39 ?fk_39 ?fa_40 ?fl_40 ?fc_40 ?fk_40
    (case b_abs => k_is)
    (case b_all => k_is)
    (case b_int => k_is)
    (case b_isinstance => k_is)
    (case b_len => k_is)
    (case b_list => k_is)
    (case b_range => k_is)
    (case b_repr => k_is)
    (case b_set => k_is)
    (case b_sorted => k_is)
    (case b_str => k_is)
    (case b_sum => k_is)
    (case b_tuple => k_is)
    (case c_DIGITS => k_is)
    (case c_MAX_CHOICES => k_is)
    (case c_MAX_CLAIMS => k_is)
    (case c_MAX_CONDITIONS => k_is)
    (case c_MAX_EVENTS => k_is)
    (case c_MAX_ROWS_TEXT => k_is)
    (case c_MAX_TEXT => k_is)
    (case c_MAX_WIDTH => k_is)
    (case c_ONE => k_is)
    (case cl_ONE => k_is)
    (case cv_ONE => rfl)
    (case c_RELATIONS => k_is)
    (case cl_RELATIONS => k_is)
    (case cv_RELATIONS => rfl)
    (case eA_0 => k_is)
    (case eX_0 => k_exc)
    (case eK_0 => k_is)
    (case eB_0 => k_is)
    (case eT_0 => k_is)
    (case eI_0 => k_is)
    (case eA_1 => k_is)
    (case eX_1 => k_exc)
    (case eK_1 => k_is)
    (case eB_1 => k_is)
    (case eT_1 => k_is)
    (case eI_1 => k_is)
    (case eA_2 => k_is)
    (case eX_2 => k_exc)
    (case eK_2 => k_is)
    (case eB_2 => k_is)
    (case eT_2 => k_is)
    (case eI_2 => k_is)
    (case eA_3 => k_is)
    (case eX_3 => k_exc)
    (case eK_3 => k_is)
    (case eB_3 => k_is)
    (case eT_3 => k_is)
    (case eI_3 => k_is)
    (case eA_4 => k_is)
    (case eX_4 => k_exc)
    (case eK_4 => k_is)
    (case eB_4 => k_is)
    (case eT_4 => k_is)
    (case eI_4 => k_is)
    (case eA_5 => k_is)
    (case eX_5 => k_exc)
    (case eK_5 => k_is)
    (case eB_5 => k_is)
    (case eT_5 => k_is)
    (case eI_5 => k_is)
    (case eA_6 => k_is)
    (case eX_6 => k_exc)
    (case eK_6 => k_is)
    (case eB_6 => k_is)
    (case eT_6 => k_is)
    (case eI_6 => k_is)
    (case eA_7 => k_is)
    (case eX_7 => k_exc)
    (case eK_7 => k_is)
    (case eB_7 => k_is)
    (case eT_7 => k_is)
    (case eI_7 => k_is)
    (case eS_0_0 => first | rfl | k_is)
    (case eS_1_0 => first | rfl | k_is)
    (case eS_2_0 => first | rfl | k_is)
    (case eS_3_0 => first | rfl | k_is)
    (case eS_4_0 => first | rfl | k_is)
    (case eS_5_0 => first | rfl | k_is)
    (case eS_6_0 => first | rfl | k_is)
    (case eS_7_0 => first | rfl | k_is)
    (case xn => k_is)
    (case xt => k_is)
    (case xg_1 => k_is)
    (case xk_1 => k_is)
    (case xd_1 => k_is)
    (case xa_1 => k_is)
    (case xm_1 => k_is)
    (case xg_2 => k_is)
    (case xk_2 => k_is)
    (case xd_2 => k_is)
    (case xa_2 => k_is)
    (case xm_2 => k_is)
    (case xi_1_1 => first | rfl | k_is)
    (case xi_1_4 => first | rfl | k_is)
    (case xi_1_5 => first | rfl | k_is)
    (case xi_1_6 => first | rfl | k_is)
    (case xi_1_3 => first | rfl | k_is)
    (case xi_1_2 => first | rfl | k_is)
    (case xi_1_7 => first | rfl | k_is)
    (case xi_2_1 => first | rfl | k_is)
    (case xi_2_4 => first | rfl | k_is)
    (case xi_2_5 => first | rfl | k_is)
    (case xi_2_6 => first | rfl | k_is)
    (case xi_2_3 => first | rfl | k_is)
    (case xi_2_2 => first | rfl | k_is)
    (case xi_2_7 => first | rfl | k_is)
    (case tabS => first | rfl | kernel_rfl | decide +kernel)
    (case tabN => first | rfl | kernel_rfl | decide +kernel)
    (case tabT => exact fun c P e => ⟨rfl, PySem.W.tab_of (x := Z.lamDef) GG.T KX rfl e⟩)
    (case fa_0 => k_is)
    (case fl_0 => k_is)
    (case fc_0 => k_is)
    (case fk_0 => k_is)
    (case fa_1 => k_is)
    (case fl_1 => k_is)
    (case fc_1 => k_is)
    (case fk_1 => k_is)
    (case fa_2 => k_is)
    (case fl_2 => k_is)
    (case fc_2 => k_is)
    (case fk_2 => k_is)
    (case fa_3 => k_is)
    (case fl_3 => k_is)
    (case fc_3 => k_is)
    (case fk_3 => k_is)
    (case fa_4 => k_is)
    (case fl_4 => k_is)
    (case fc_4 => k_is)
    (case fk_4 => k_is)
    (case fa_5 => k_is)
    (case fl_5 => k_is)
    (case fc_5 => k_is)
    (case fk_5 => k_is)
    (case fa_6 => k_is)
    (case fl_6 => k_is)
    (case fc_6 => k_is)
    (case fk_6 => k_is)
    (case fa_7 => k_is)
    (case fl_7 => k_is)
    (case fc_7 => k_is)
    (case fk_7 => k_is)
    (case fa_8 => k_is)
    (case fl_8 => k_is)
    (case fc_8 => k_is)
    (case fk_8 => k_is)
    (case fa_9 => k_is)
    (case fl_9 => k_is)
    (case fc_9 => k_is)
    (case fk_9 => k_is)
    (case fa_10 => k_is)
    (case fl_10 => k_is)
    (case fc_10 => k_is)
    (case fk_10 => k_is)
    (case fa_11 => k_is)
    (case fl_11 => k_is)
    (case fc_11 => k_is)
    (case fk_11 => k_is)
    (case fa_12 => k_is)
    (case fl_12 => k_is)
    (case fc_12 => k_is)
    (case fk_12 => k_is)
    (case fa_13 => k_is)
    (case fl_13 => k_is)
    (case fc_13 => k_is)
    (case fk_13 => k_is)
    (case fa_14 => k_is)
    (case fl_14 => k_is)
    (case fc_14 => k_is)
    (case fk_14 => k_is)
    (case fa_15 => k_is)
    (case fl_15 => k_is)
    (case fc_15 => k_is)
    (case fk_15 => k_is)
    (case fa_16 => k_is)
    (case fl_16 => k_is)
    (case fc_16 => k_is)
    (case fk_16 => k_is)
    (case fa_17 => k_is)
    (case fl_17 => k_is)
    (case fc_17 => k_is)
    (case fk_17 => k_is)
    (case fa_18 => k_is)
    (case fl_18 => k_is)
    (case fc_18 => k_is)
    (case fk_18 => k_is)
    (case fa_19 => k_is)
    (case fl_19 => k_is)
    (case fc_19 => k_is)
    (case fk_19 => k_is)
    (case fa_20 => k_is)
    (case fl_20 => k_is)
    (case fc_20 => k_is)
    (case fk_20 => k_is)
    (case fa_21 => k_is)
    (case fl_21 => k_is)
    (case fc_21 => k_is)
    (case fk_21 => k_is)
    (case fa_22 => k_is)
    (case fl_22 => k_is)
    (case fc_22 => k_is)
    (case fk_22 => k_is)
    (case fa_23 => k_is)
    (case fl_23 => k_is)
    (case fc_23 => k_is)
    (case fk_23 => k_is)
    (case fa_24 => k_is)
    (case fl_24 => k_is)
    (case fc_24 => k_is)
    (case fk_24 => k_is)
    (case fa_25 => k_is)
    (case fl_25 => k_is)
    (case fc_25 => k_is)
    (case fk_25 => k_is)
    (case fa_26 => k_is)
    (case fl_26 => k_is)
    (case fc_26 => k_is)
    (case fk_26 => k_is)
    (case fa_27 => k_is)
    (case fl_27 => k_is)
    (case fc_27 => k_is)
    (case fk_27 => k_is)
    (case fa_28 => k_is)
    (case fl_28 => k_is)
    (case fc_28 => k_is)
    (case fk_28 => k_is)
    (case fa_29 => k_is)
    (case fl_29 => k_is)
    (case fc_29 => k_is)
    (case fk_29 => k_is)
    (case fa_30 => k_is)
    (case fl_30 => k_is)
    (case fc_30 => k_is)
    (case fk_30 => k_is)
    (case fa_31 => k_is)
    (case fl_31 => k_is)
    (case fc_31 => k_is)
    (case fk_31 => k_is)
    (case fa_32 => k_is)
    (case fl_32 => k_is)
    (case fc_32 => k_is)
    (case fk_32 => k_is)
    (case fa_33 => k_is)
    (case fl_33 => k_is)
    (case fc_33 => k_is)
    (case fk_33 => k_is)
    (case fa_34 => k_is)
    (case fl_34 => k_is)
    (case fc_34 => k_is)
    (case fk_34 => k_is)
    (case fa_35 => k_is)
    (case fl_35 => k_is)
    (case fc_35 => k_is)
    (case fk_35 => k_is)
    (case fa_36 => k_is)
    (case fl_36 => k_is)
    (case fc_36 => k_is)
    (case fk_36 => k_is)
    (case fa_37 => k_is)
    (case fl_37 => k_is)
    (case fc_37 => k_is)
    (case fk_37 => k_is)
    (case fa_38 => k_is)
    (case fl_38 => k_is)
    (case fc_38 => k_is)
    (case fk_38 => k_is)
    (case fa_39 => k_is)
    (case fl_39 => k_is)
    (case fc_39 => k_is)
    (case fk_39 => k_is)
    (case fa_40 => k_is)
    (case fl_40 => k_is)
    (case fc_40 => k_is)
    (case fk_40 => k_is)
