import PyProof.Rows.All
import Wide.All
import OpenK.AllK
import Wide.FinOn
import PyProof.EqAt
import PyProof.EqKinds
import PyProof.TupleCall
import HandS.ForExc
import HandS.Comp
import HandS.Deep
import HandS.TupAny
import HandS.TupMul
import HandS.Flow
import HandS.Text
import HandS.Style
import HandS.IsInst
import HandS.Sort
import KE.SortData
import KE.KTupSum
import HandS.Iter
import HandS.Zip
import KE.GoesNew
import KE.GoesMore
import HandS.ExcOwn
import HandS.List
import HandS.WordsExc
import HandS.TryMany
import HandS.ExcIs
import HandS.Ends
import HandS.Conv
import KE.OsSort
import PySem.Challenge.RW_doorcounters_k12_moves
set_option Elab.async false
set_option linter.all false
set_option maxRecDepth 100000
set_option maxHeartbeats 4000000
/-! VI 1: readings by values: data, slots, the state, the post. -/
namespace VI
open PySem PySem.Spec PyProof.Rows L2

abbrev D := PyData
abbrev St := L2.St

/-- an outcome: a value, an exception of the class named c (its line, if it has one), or outside of the readings -/
inductive Out (α : Type) where
  | ok (a : α)
  | exc (c : Str) (p : Option D)
  | bad
def Out.bind {α β : Type} : Out α → (α → Out β) → Out β
  | .ok a, k => k a
  | .exc c p, _ => .exc c p
  | .bad, _ => .bad
def Out.map {α β : Type} (f : α → β) (o : Out α) : Out β := o.bind fun a => .ok (f a)
@[simp] theorem Out.bind_ok {α β : Type} (a : α) (k : α → Out β) : (Out.ok a).bind k = k a := Eq.trans rfl rfl
@[simp] theorem Out.bind_exc {α β : Type} (c : Str) (p : Option D) (k : α → Out β) : (Out.exc c p).bind k = .exc c p := Eq.trans rfl rfl
@[simp] theorem Out.bind_bad {α β : Type} (k : α → Out β) : (Out.bad).bind k = .bad := Eq.trans rfl rfl
@[simp] theorem Out.map_ok {α β : Type} (f : α → β) (a : α) : (Out.ok a).map f = .ok (f a) := Eq.trans rfl rfl
@[simp] theorem Out.map_exc {α β : Type} (f : α → β) (c : Str) (p : Option D) : (Out.exc c p : Out α).map f = .exc c p := Eq.trans rfl rfl
@[simp] theorem Out.map_bad {α β : Type} (f : α → β) : (Out.bad : Out α).map f = .bad := Eq.trans rfl rfl
theorem Out.bind_assoc {α β γ : Type} (o : Out α) (f : α → Out β) (g : β → Out γ) : (o.bind f).bind g = o.bind fun a => (f a).bind g := by cases o <;> rfl

/-- what a name holds: nothing that is known, data, a list of its own that no one else holds, or the exception of an except clause -/
inductive Slot where
  | un
  | val (d : D)
  | own (ds : List D)
  | exn (a : Addr)
abbrev Env := List Slot
def sg (env : Env) (i : Nat) : Slot := env.getD i .un

/-! ### data in the heap -/
mutual
theorem Dp.mono {K : PySem.W.Frag} {H H' : Hp} (e : Same H H') : ∀ {d : D} {v : V}, Dp K H v d → Dp K H' v d
  | .none, _, h => by cases h; exact .non
  | .bool b, _, h => by cases h; exact .bl b
  | .int i, _, h => by cases h; exact .int i
  | .str x, _, h => by cases h; exact .str x
  | .list ds, _, h => by
    cases h with
    | lst hs ha => exact .lst (e.seq hs) (DpAll.mono e ha)
  | .tuple ds, _, h => by
    cases h with
    | tup hs ha =>
      refine .tup ?_ (DpAll.mono e ha)
      rcases hs with (h | ⟨o, h⟩) | h
      · exact .inl (.inl (e _ _ h))
      · exact .inl (.inr ⟨o, e _ _ h⟩)
      · exact .inr h
  | .dict _, _, h => by cases h
theorem DpAll.mono {K : PySem.W.Frag} {H H' : Hp} (e : Same H H') : ∀ {ds : List D} {vs : List V}, DpAll K H vs ds → DpAll K H' vs ds
  | [], _, h => by cases h; exact .nil
  | _ :: _, _, h => by
    cases h with
    | cons a b => exact .cons (Dp.mono e a) (DpAll.mono e b)
end
theorem SqT.mono {K : PySem.W.Frag} {H H' : Hp} {a : Addr} {xs : List V} (e : Same H H') (h : SqT K H a xs) : SqT K H' a xs := by
  rcases h with (h | ⟨o, h⟩) | h
  · exact .inl (.inl (e _ _ h))
  · exact .inl (.inr ⟨o, e _ _ h⟩)
  · exact .inr h
section
variable {K : PySem.W.Frag} {H : Hp}
theorem DpAll.length : ∀ {vs : List V} {ds : List D}, DpAll K H vs ds → vs.length = ds.length
  | _, _, .nil => rfl
  | _, _, .cons _ t => by rw [List.length_cons, List.length_cons, DpAll.length t]
theorem DpAll.get : ∀ {vs : List V} {ds : List D} {i : Nat} {d : D}, DpAll K H vs ds → ds[i]? = some d → ∃ v, vs[i]? = some v ∧ Dp K H v d
  | _, _, _, _, .nil, e => by simp at e
  | _, _, 0, _, .cons a _, e => by simp at e; subst e; exact ⟨_, rfl, a⟩
  | _, _, i + 1, _, .cons _ t, e => by
    obtain ⟨v, h1, h2⟩ := DpAll.get (i := i) t (by simpa using e)
    exact ⟨v, by simpa using h1, h2⟩
theorem DpAll.append : ∀ {vs ws : List V} {ds es : List D}, DpAll K H vs ds → DpAll K H ws es → DpAll K H (vs ++ ws) (ds ++ es)
  | _, _, _, _, .nil, s => s
  | _, _, _, _, .cons a t, s => .cons a (DpAll.append t s)
theorem DpAll.take : ∀ {vs : List V} {ds : List D} (n : Nat), DpAll K H vs ds → DpAll K H (vs.take n) (ds.take n)
  | _, _, 0, _ => by simp; exact .nil
  | _, _, _ + 1, .nil => by simp; exact .nil
  | _, _, n + 1, .cons a t => .cons a (DpAll.take n t)
theorem DpAll.drop : ∀ {vs : List V} {ds : List D} (n : Nat), DpAll K H vs ds → DpAll K H (vs.drop n) (ds.drop n)
  | _, _, 0, h => h
  | _, _, _ + 1, .nil => .nil
  | _, _, n + 1, .cons _ t => DpAll.drop n t
theorem DpAll.set : ∀ {vs : List V} {ds : List D} {v : V} {d : D} (n : Nat), Dp K H v d → DpAll K H vs ds → DpAll K H (vs.set n v) (ds.set n d)
  | _, _, _, _, _, _, .nil => .nil
  | _, _, _, _, 0, h, .cons _ t => .cons h t
  | _, _, _, _, n + 1, h, .cons a t => .cons a (DpAll.set n h t)
theorem DpAll.eraseIdx : ∀ {vs : List V} {ds : List D} (n : Nat), DpAll K H vs ds → DpAll K H (vs.eraseIdx n) (ds.eraseIdx n)
  | _, _, _, .nil => .nil
  | _, _, 0, .cons _ t => t
  | _, _, n + 1, .cons a t => .cons a (DpAll.eraseIdx n t)
theorem DpAll.reverse {vs : List V} {ds : List D} (h : DpAll K H vs ds) : DpAll K H vs.reverse ds.reverse := by
  have key : ∀ {vs : List V} {ds : List D}, DpAll K H vs ds → DpAll K H vs.reverse ds.reverse := by
    intro vs
    induction vs with
    | nil => intro ds h; cases h; exact .nil
    | cons v vs ih =>
      intro ds h
      cases h with
      | cons a t => rw [List.reverse_cons, List.reverse_cons]; exact DpAll.append (ih t) (.cons a .nil)
  exact key h
theorem DpAll.rep {vs : List V} {ds : List D} (h : DpAll K H vs ds) : ∀ k : Nat, DpAll K H (List.replicate k vs).flatten (List.replicate k ds).flatten
  | 0 => by simp; exact .nil
  | k + 1 => by
    rw [List.replicate_succ, List.replicate_succ, List.flatten_cons, List.flatten_cons]
    exact DpAll.append h (DpAll.rep h k)
theorem DpAll.ints : ∀ (ns : List Int), DpAll K H (ns.map V.int) (ns.map PyData.int)
  | [] => .nil
  | _ :: r => .cons (.int _) (DpAll.ints r)
theorem DpAll.of_ints : ∀ {vs : List V} (ns : List Int), DpAll K H vs (ns.map PyData.int) → vs = ns.map V.int
  | _, [], h => by cases h; rfl
  | _, n :: r, h => by
    cases h with
    | cons a t => cases a; rw [DpAll.of_ints r t]; rfl
end

/-! ### growth -/
/-- S: what stands still; H: all that is tracked. The step to S', H': both grow, nothing tracked changes; what was tracked is not newly counted among what stands still -/
structure Ext (S H S' H' : Hp) : Prop where
  ss : Same S S'
  hh : Same H H'
  sub : Same S' H'
  new : ∀ a o, H a = some o → S' a = S a
theorem Ext.refl {S H : Hp} (h : Same S H) : Ext S H S H := ⟨Same.refl _, Same.refl _, h, fun _ _ _ => rfl⟩
theorem Ext.trans {S H S1 H1 S2 H2 : Hp} (a : Ext S H S1 H1) (b : Ext S1 H1 S2 H2) : Ext S H S2 H2 :=
  ⟨a.ss.trans b.ss, a.hh.trans b.hh, b.sub, fun x o e => (b.new x o (a.hh x o e)).trans (a.new x o e)⟩
theorem Ext.laid {S H : Hp} {p : Addr} {o : HO} (h : Same S H) (hp : H p = none) : Ext S H (upd S p o) (upd H p o) := by
  have sp : S p = none := h.free hp
  refine ⟨fun b u e => ?_, fun b u e => ?_, fun b u e => ?_, fun b u e => ?_⟩
  · rw [upd_ne (ne_of_none e sp)]; exact e
  · rw [upd_ne (ne_of_none e hp)]; exact e
  · by_cases hb : b = p
    · subst hb; rw [upd_same] at e ⊢; exact e
    · rw [upd_ne hb] at e ⊢; exact h b u e
  · rw [upd_ne (ne_of_none e hp)]
/-- a new object that does not count among what stands still -/
theorem Ext.fresh {S H : Hp} {p : Addr} {o : HO} (h : Same S H) (hp : H p = none) : Ext S H S (upd H p o) :=
  ⟨Same.refl _, fun b u e => by rw [upd_ne (ne_of_none e hp)]; exact e, fun b u e => by rw [upd_ne (ne_of_none (h b u e) hp)]; exact h b u e, fun _ _ _ => rfl⟩
/-- .. and then it does -/
theorem Ext.settle {S H : Hp} {p : Addr} {o : HO} (h : Same S H) (hp : H p = some o) (sp : S p = none) {H₀ : Hp} (h0 : H₀ p = none) {S₀ : Hp} (e : Ext S₀ H₀ S H) : Ext S₀ H₀ (upd S p o) H := by
  refine ⟨fun b u q => ?_, e.hh, fun b u q => ?_, fun b u q => ?_⟩
  · have q' := e.ss b u q
    rw [upd_ne (ne_of_none q' sp)]; exact q'
  · by_cases hb : b = p
    · subst hb; rw [upd_same] at q; rw [hp]; exact q
    · rw [upd_ne hb] at q; exact h b u q
  · rw [upd_ne (ne_of_none q h0)]; exact e.new b u q

/-! ### the state -/
/-- a name's value by its slot -/
def SlotOk (K : PySem.W.Frag) (S H : Hp) : Slot → Option V → Prop
  | .un, _ => True
  | .val d, some v => Dp K S v d
  | .val _, none => False
  | .own ds, some (.ref a) => S a = none ∧ ∃ vs, H a = some (.lst vs) ∧ DpAll K S vs ds
  | .own _, _ => False
  | .exn a, o => o = some (.ref a)
def Slot.isOwn : Slot → Bool
  | .own _ => true
  | _ => false
structure SR (K : PySem.W.Frag) (B S : Hp) (env : Env) (σ : St) (H : Hp) : Prop where
  sub : Same S H
  len : env.length = σ.length
  rel : ∀ i, SlotOk K S H (sg env i) (σ.getD i none)
  apart : ∀ i j a, (sg env i).isOwn = true → (sg env j).isOwn = true → σ.getD i none = some (.ref a) → σ.getD j none = some (.ref a) → i = j
  fresh : ∀ i a, (sg env i).isOwn = true → σ.getD i none = some (.ref a) → B a = none
section
variable {K : PySem.W.Frag} {B S H S' H' : Hp} {env : Env} {σ : St}
theorem SlotOk.ext {sl : Slot} {o : Option V} (e : Ext S H S' H') (h : SlotOk K S H sl o) : SlotOk K S' H' sl o := by
  cases sl with
  | un => trivial
  | val d =>
    cases o with
    | none => exact h
    | some v => exact Dp.mono e.ss h
  | own ds =>
    cases o with
    | none => exact h
    | some v =>
      cases v with
      | ref a =>
        obtain ⟨h1, vs, h2, h3⟩ := h
        exact ⟨(e.new a _ h2).trans h1, vs, e.hh _ _ h2, DpAll.mono e.ss h3⟩
      | _ => exact h
  | exn a => exact h
theorem SR.ext (r : SR K B S env σ H) (e : Ext S H S' H') : SR K B S' env σ H' :=
  ⟨e.sub, r.len, fun i => (r.rel i).ext e, r.apart, r.fresh⟩
theorem sg_set_self {env : Env} {i : Nat} {sl : Slot} (h : i < env.length) : sg (env.set i sl) i = sl := by
  unfold sg
  simp [List.getD_eq_getElem?_getD, List.getElem?_set_self h]
theorem sg_set_ne {env : Env} {i j : Nat} {sl : Slot} (h : i ≠ j) : sg (env.set i sl) j = sg env j := by
  unfold sg
  simp [List.getD_eq_getElem?_getD, List.getElem?_set_ne h]
theorem getD_set_self {σ : St} {i : Nat} {v : Option V} (h : i < σ.length) : (σ.set i v).getD i none = v := by
  simp [List.getD_eq_getElem?_getD, List.getElem?_set_self h]
theorem getD_set_ne {σ : St} {i j : Nat} {v : Option V} (h : i ≠ j) : (σ.set i v).getD j none = σ.getD j none := by
  simp [List.getD_eq_getElem?_getD, List.getElem?_set_ne h]
theorem sg_lt {env : Env} {i : Nat} (h : sg env i ≠ .un) : i < env.length := by
  unfold sg at h
  by_cases hi : i < env.length
  · exact hi
  · exact absurd (by simp [List.getD_eq_getElem?_getD, List.getElem?_eq_none (Nat.le_of_not_lt hi)]) h
theorem own_ne {sl : Slot} (h : sl.isOwn = true) : sl ≠ .un := fun e => by rw [e] at h; cases h
/-- a slot that is set, and the others -/
theorem SR.set_any {i : Nat} {sl : Slot} {o : Option V} (r : SR K B S env σ H) (hs : i < env.length → SlotOk K S H sl o)
    (ho : sl.isOwn = true → i < env.length → ∀ a, o = some (.ref a) → B a = none ∧ ∀ j, j ≠ i → (sg env j).isOwn = true → σ.getD j none ≠ some (.ref a)) : SR K B S (env.set i sl) (σ.set i o) H := by
  have cs : ∀ j, (i = j ∧ i < env.length ∧ sg (env.set i sl) j = sl ∧ (σ.set i o).getD j none = o) ∨ (sg (env.set i sl) j = sg env j ∧ (σ.set i o).getD j none = σ.getD j none ∧ (i = j → ¬ i < env.length)) := fun j => by
    by_cases hj : i = j
    · subst hj
      by_cases hi : i < env.length
      · exact .inl ⟨rfl, hi, sg_set_self hi, getD_set_self (by rw [← r.len]; exact hi)⟩
      · have e1 : env.set i sl = env := List.set_eq_of_length_le (Nat.le_of_not_lt hi)
        have e2 : σ.set i o = σ := List.set_eq_of_length_le (by rw [← r.len]; exact Nat.le_of_not_lt hi)
        rw [e1, e2]
        exact .inr ⟨rfl, rfl, fun _ => hi⟩
    · exact .inr ⟨sg_set_ne hj, getD_set_ne hj, fun e => absurd e hj⟩
  refine ⟨r.sub, by simp [r.len], fun j => ?_, fun j k a hj hk ej ek => ?_, fun j a hj ej => ?_⟩
  · rcases cs j with ⟨_, hi, e1, e2⟩ | ⟨e1, e2, _⟩
    · rw [e1, e2]; exact hs hi
    · rw [e1, e2]; exact r.rel j
  · rcases cs j with ⟨e0, hi, e1, e2⟩ | ⟨e1, e2, n1⟩
    · rw [e1] at hj
      rw [e2] at ej
      rcases cs k with ⟨f0, _, _, _⟩ | ⟨f1, f2, n2⟩
      · exact e0.symm.trans f0
      · rw [f1] at hk
        rw [f2] at ek
        have hki : k ≠ i := fun z => n2 z.symm hi
        exact absurd ek ((ho hj hi a ej).2 k hki hk)
    · rw [e1] at hj
      rw [e2] at ej
      rcases cs k with ⟨f0, hi, f1, f2⟩ | ⟨f1, f2, n2⟩
      · rw [f1] at hk
        rw [f2] at ek
        have hji : j ≠ i := fun z => n1 z.symm hi
        exact absurd ej ((ho hk hi a ek).2 j hji hj)
      · rw [f1] at hk
        rw [f2] at ek
        exact r.apart j k a hj hk ej ek
  · rcases cs j with ⟨e0, hi, e1, e2⟩ | ⟨e1, e2, _⟩
    · rw [e1] at hj
      rw [e2] at ej
      exact (ho hj hi a ej).1
    · rw [e1] at hj
      rw [e2] at ej
      exact r.fresh j a hj ej
/-- a name is given data -/
theorem SR.setVal {i : Nat} {v : V} {d : D} (r : SR K B S env σ H) (h : Dp K S v d) : SR K B S (env.set i (.val d)) (σ.set i (some v)) H :=
  r.set_any (fun _ => h) fun z => by cases z
/-- a name's value is forgotten -/
theorem SR.setUn {i : Nat} {o : Option V} (r : SR K B S env σ H) : SR K B S (env.set i .un) (σ.set i o) H :=
  r.set_any (fun _ => trivial) fun z => by cases z
/-- a name is given a list of its own -/
theorem SR.setOwn {i : Nat} {p : Addr} {vs : List V} {ds : List D} (r : SR K B S env σ H) (hs : S p = none) (hp : H p = some (.lst vs)) (h : DpAll K S vs ds) (hb : B p = none)
    (new : ∀ j, j ≠ i → (sg env j).isOwn = true → σ.getD j none ≠ some (.ref p)) : SR K B S (env.set i (.own ds)) (σ.set i (some (.ref p))) H :=
  r.set_any (fun _ => ⟨hs, vs, hp, h⟩) fun _ _ a e => by cases e; exact ⟨hb, new⟩
theorem some_getD {σ : St} {i : Nat} {v : V} (hi : i < σ.length) (e : σ.getD i none = some v) : σ[i]? = some (some v) := by
  rw [List.getD_eq_getElem?_getD] at e
  rw [List.getElem?_eq_getElem hi] at e ⊢
  simp at e
  rw [e]
theorem SR.own {i : Nat} {ds : List D} (r : SR K B S env σ H) (h : sg env i = .own ds) : ∃ a vs, σ[i]? = some (some (.ref a)) ∧ σ.getD i none = some (.ref a) ∧ i < σ.length ∧ S a = none ∧ H a = some (.lst vs) ∧ DpAll K S vs ds := by
  have q := r.rel i
  rw [h] at q
  have hi : i < σ.length := by
    have := sg_lt (env := env) (i := i) (by rw [h]; intro z; cases z)
    rw [r.len] at this; exact this
  cases e : σ.getD i none with
  | none => rw [e] at q; exact (show False from q).elim
  | some v =>
    rw [e] at q
    have e' := some_getD hi e
    cases v with
    | ref a =>
      obtain ⟨h1, vs, h2, h3⟩ := q
      exact ⟨a, vs, e', rfl, hi, h1, h2, h3⟩
    | _ => exact (show False from q).elim
theorem SR.val {i : Nat} {d : D} (r : SR K B S env σ H) (h : sg env i = .val d) : ∃ v, σ[i]? = some (some v) ∧ i < σ.length ∧ Dp K S v d := by
  have q := r.rel i
  rw [h] at q
  have hi : i < σ.length := by
    have := sg_lt (env := env) (i := i) (by rw [h]; intro z; cases z)
    rw [r.len] at this; exact this
  cases e : σ.getD i none with
  | none => rw [e] at q; exact (show False from q).elim
  | some v =>
    rw [e] at q
    exact ⟨v, some_getD hi e, hi, q⟩
/-- another list stands at the address of a name's own list, or another count of what stands still: the slots but that one -/
theorem SlotOk.other {S1 H1 : Hp} {a : Addr} {sl : Slot} {o : Option V} (h : SlotOk K S H sl o) (ss : Same S S1) (hS : ∀ b, b ≠ a → S1 b = S b) (hH : ∀ b, b ≠ a → H1 b = H b) (ne : sl.isOwn = true → o ≠ some (.ref a)) : SlotOk K S1 H1 sl o := by
  cases sl with
  | un => trivial
  | val d => cases o with
    | none => exact h
    | some v => exact Dp.mono ss h
  | own ds => cases o with
    | none => exact h
    | some v => cases v with
      | ref b =>
        obtain ⟨h1, vs, h2, h3⟩ := h
        have nb : b ≠ a := fun e => ne rfl (by rw [e])
        exact ⟨(hS b nb).trans h1, vs, (hH b nb).trans h2, DpAll.mono ss h3⟩
      | _ => exact h
  | exn a => exact h
/-- the own list of a name is written -/
theorem SR.writeOwn {i : Nat} {ds : List D} {a : Addr} {vs' : List V} {ds' : List D} (r : SR K B S env σ H) (h : sg env i = .own ds) (ha : σ.getD i none = some (.ref a)) (h' : DpAll K S vs' ds') :
    SR K B S (env.set i (.own ds')) σ (upd H a (.lst vs')) := by
  obtain ⟨a', vs, _, e2, hi, hs, hp, _⟩ := r.own h
  rw [ha] at e2; cases e2
  have hie : i < env.length := by rw [r.len]; exact hi
  have up : ∀ j, (sg (env.set i (.own ds')) j).isOwn = true → (sg env j).isOwn = true := fun j q => by
    by_cases hj : i = j
    · subst hj; rw [h]; rfl
    · rw [sg_set_ne hj] at q; exact q
  refine ⟨fun b o e => by rw [upd_ne (ne_of_none e hs)]; exact r.sub b o e, by simp [r.len], fun j => ?_, fun j k b hj hk ej ek => r.apart j k b (up j hj) (up k hk) ej ek, fun j b hj ej => r.fresh j b (up j hj) ej⟩
  by_cases hj : i = j
  · subst hj
    rw [sg_set_self hie, ha]
    exact ⟨hs, vs', upd_same, h'⟩
  · rw [sg_set_ne hj]
    exact (r.rel j).other (a := a) (Same.refl _) (fun _ _ => rfl) (fun b nb => upd_ne nb) fun q e => hj (r.apart i j a (by rw [h]; rfl) q ha e)
/-- the own list of a name is given away: from now on it stands still -/
theorem SR.freeze {i : Nat} {ds : List D} (r : SR K B S env σ H) (h : sg env i = .own ds) : ∃ a vs, σ.getD i none = some (.ref a) ∧ B a = none ∧ S a = none ∧ H a = some (.lst vs) ∧ DpAll K S vs ds ∧ SR K B (upd S a (.lst vs)) (env.set i (.val (.list ds))) σ H := by
  obtain ⟨a, vs, e1, e2, hi, hs, hp, hd⟩ := r.own h
  have hie : i < env.length := by rw [r.len]; exact hi
  have ss : Same S (upd S a (.lst vs)) := fun b o e => by rw [upd_ne (ne_of_none e hs)]; exact e
  have up : ∀ j, (sg (env.set i (.val (.list ds))) j).isOwn = true → (sg env j).isOwn = true := fun j q => by
    by_cases hj : i = j
    · subst hj; rw [sg_set_self hie] at q; cases q
    · rw [sg_set_ne hj] at q; exact q
  refine ⟨a, vs, e2, r.fresh i a (by rw [h]; rfl) e2, hs, hp, hd, fun b o e => ?_, by simp [r.len], fun j => ?_, fun j k b hj hk ej ek => r.apart j k b (up j hj) (up k hk) ej ek, fun j b hj ej => r.fresh j b (up j hj) ej⟩
  · by_cases hb : b = a
    · subst hb; rw [upd_same] at e; rw [hp]; exact e
    · rw [upd_ne hb] at e; exact r.sub b o e
  · by_cases hj : i = j
    · subst hj
      rw [sg_set_self hie, e2]
      exact .lst (SqL.of upd_same) (DpAll.mono ss hd)
    · rw [sg_set_ne hj]
      exact (r.rel j).other (a := a) ss (fun b nb => upd_ne nb) (fun _ _ => rfl) fun q e => hj (r.apart i j a (by rw [h]; rfl) q e2 e)
end

/-! ### what is wanted behind an expression -/
/-- an exception of the class named c: W at every class of that name -/
def EW (K : PySem.W.Frag) (mg : Str → Option Value) (W : WX) (c : Str) (p : Option D) (σ : St) (S H : Hp) : Prop :=
  ∀ C, mg c = some (.ref C) → match p with
    | none => W (.ref C) none σ H
    | some d => ∀ dx v, S dx = some (.xd [("line", v)]) → Dp K S v d → W (.ref C) (some dx) σ H
/-- .. R of the outcome's value at every growth -/
def Post (K : PySem.W.Frag) (mg : Str → Option Value) (W : WX) (σ : St) (S H : Hp) {α : Type} (o : Out α) (R : α → Hp → Hp → Prop) : Prop :=
  match o with
  | .ok a => ∀ S' H', Ext S H S' H' → R a S' H'
  | .exc c p => ∀ S' H', Ext S H S' H' → EW K mg W c p σ S' H'
  | .bad => False
section
variable {K : PySem.W.Frag} {mg : Str → Option Value} {W : WX} {σ : St} {S H S' H' : Hp} {α β : Type}
theorem Post.ext {o : Out α} {R : α → Hp → Hp → Prop} (e : Ext S H S' H') (h : Post K mg W σ S H o R) : Post K mg W σ S' H' o R := by
  cases o with
  | ok a => exact fun S2 H2 e2 => h S2 H2 (e.trans e2)
  | exc c p => exact fun S2 H2 e2 => h S2 H2 (e.trans e2)
  | bad => exact h
theorem Post.imp {o : Out α} {R R' : α → Hp → Hp → Prop} (h : Post K mg W σ S H o R) (hR : ∀ a S' H', Ext S H S' H' → R a S' H' → R' a S' H') : Post K mg W σ S H o R' := by
  cases o with
  | ok a => exact fun S2 H2 e2 => hR a S2 H2 e2 (h S2 H2 e2)
  | exc c p => exact h
  | bad => exact h
theorem Post.bind {o : Out α} {k : α → Out β} {R : β → Hp → Hp → Prop} (h : Post K mg W σ S H (o.bind k) R) : Post K mg W σ S H o fun a S1 H1 => Post K mg W σ S1 H1 (k a) R := by
  cases o with
  | ok a => exact fun S1 H1 e => Post.ext e h
  | exc c p => exact h
  | bad => exact h
theorem Post.map {o : Out α} {f : α → β} {R : β → Hp → Hp → Prop} (h : Post K mg W σ S H (o.map f) R) : Post K mg W σ S H o fun a S1 H1 => R (f a) S1 H1 := by
  cases o with
  | ok a => exact h
  | exc c p => exact h
  | bad => exact h
theorem Post.now {a : α} {R : α → Hp → Hp → Prop} (s : Same S H) (h : Post K mg W σ S H (.ok a) R) : R a S H := h S H (Ext.refl s)
end
/-- data that may be the own list of a name: its items stand still -/
def DpP (K : PySem.W.Frag) (S H : Hp) (v : V) (d : D) : Prop := Dp K S v d ∨ ∃ a vs ds, v = .ref a ∧ d = .list ds ∧ H a = some (.lst vs) ∧ DpAll K S vs ds
section
variable {K : PySem.W.Frag} {S H S' H' : Hp}
theorem DpP.ext {v : V} {d : D} (e : Ext S H S' H') (h : DpP K S H v d) : DpP K S' H' v d := by
  rcases h with h | ⟨a, vs, ds, h1, h2, h3, h4⟩
  · exact .inl (Dp.mono e.ss h)
  · exact .inr ⟨a, vs, ds, h1, h2, e.hh _ _ h3, DpAll.mono e.ss h4⟩
theorem DpP.dp {v : V} {d : D} (s : Same S H) (h : DpP K S H v d) : Dp K H v d := by
  rcases h with h | ⟨a, vs, ds, rfl, rfl, h3, h4⟩
  · exact Dp.mono s h
  · exact .lst (SqL.of h3) (DpAll.mono s h4)
theorem DpP.lst {v : V} {ds : List D} (s : Same S H) (h : DpP K S H v (.list ds)) : ∃ a vs, v = .ref a ∧ SqL K H a vs ∧ DpAll K S vs ds := by
  rcases h with h | ⟨a, vs, ds', rfl, e, h3, h4⟩
  · cases h with
    | lst hs ha => exact ⟨_, _, rfl, s.seq hs, ha⟩
  · cases e
    exact ⟨a, vs, rfl, SqL.of h3, h4⟩
theorem DpP.tup {v : V} {ds : List D} (s : Same S H) (h : DpP K S H v (.tuple ds)) : ∃ a vs, v = .ref a ∧ SqT K S a vs ∧ SqT K H a vs ∧ DpAll K S vs ds ∧ Dp K S v (.tuple ds) := by
  rcases h with h | ⟨a, vs, ds', rfl, e, h3, h4⟩
  · have h0 := h
    cases h with
    | tup hs ha => exact ⟨_, _, rfl, hs, SqT.mono s hs, ha, h0⟩
  · cases e
end

/-! ### the judgements' readings -/
def tV (K : PySem.W.Frag) (mg : Str → Option Value) (W : WX) (f : Env → Out D) : TE := fun σ H Q => ∃ B S env, SR K B S env σ H ∧ Post K mg W σ S H (f env) fun d S' H' => ∀ v, Dp K S' v d → Q v H'
def tP (K : PySem.W.Frag) (mg : Str → Option Value) (W : WX) (f : Env → Out D) : TE := fun σ H Q => ∃ B S env, SR K B S env σ H ∧ Post K mg W σ S H (f env) fun d S' H' => ∀ v, DpP K S' H' v d → Q v H'
def tF (K : PySem.W.Frag) (mg : Str → Option Value) (W : WX) (f : Env → Out (List D)) : TE := fun σ H Q => ∃ B S env, SR K B S env σ H ∧ Post K mg W σ S H (f env) fun ds S' H' =>
  ∀ p vs, H p = none → S' p = none → H' p = some (.lst vs) → DpAll K S' vs ds → Q (.ref p) H'
def tT (K : PySem.W.Frag) (mg : Str → Option Value) (W : WX) (f : Env → Out Bool) : TT := fun σ H Q => ∃ B S env, SR K B S env σ H ∧ Post K mg W σ S H (f env) fun b _ H' => Q b H'
/-- arguments: each may be the own list of a name -/
inductive DpPs (K : PySem.W.Frag) (S H : Hp) : List V → List D → Prop
  | nil : DpPs K S H [] []
  | cons {v : V} {vs : List V} {d : D} {ds : List D} : DpP K S H v d → DpPs K S H vs ds → DpPs K S H (v :: vs) (d :: ds)
theorem DpPs.ext {K : PySem.W.Frag} {S H S' H' : Hp} (e : Ext S H S' H') : ∀ {vs : List V} {ds : List D}, DpPs K S H vs ds → DpPs K S' H' vs ds
  | _, _, .nil => .nil
  | _, _, .cons a t => .cons (a.ext e) (DpPs.ext e t)
def tA (K : PySem.W.Frag) (mg : Str → Option Value) (W : WX) (f : Env → Out (List D)) : TA := fun σ H Q => ∃ B S env, SR K B S env σ H ∧ Post K mg W σ S H (f env) fun ds S' H' => ∀ vs, DpAll K S' vs ds → Q vs H'
def tAP (K : PySem.W.Frag) (mg : Str → Option Value) (W : WX) (f : Env → Out (List D)) : TA := fun σ H Q => ∃ B S env, SR K B S env σ H ∧ Post K mg W σ S H (f env) fun ds S' H' => ∀ vs, DpPs K S' H' vs ds → Q vs H'

abbrev VE (X : Cx) (W : WX) (e : Expr) (f : Env → Out D) : Prop := PE X e (tV X.K X.mg W f)
abbrev VP (X : Cx) (W : WX) (e : Expr) (f : Env → Out D) : Prop := PE X e (tP X.K X.mg W f)
abbrev VF (X : Cx) (W : WX) (e : Expr) (f : Env → Out (List D)) : Prop := PE X e (tF X.K X.mg W f)
abbrev VT (X : Cx) (W : WX) (e : Expr) (f : Env → Out Bool) : Prop := PT X e (tT X.K X.mg W f)
abbrev VA (X : Cx) (W : WX) (es : List Expr) (f : Env → Out (List D)) : Prop := PA X es (tA X.K X.mg W f)
abbrev VAP (X : Cx) (W : WX) (es : List Expr) (f : Env → Out (List D)) : Prop := PA X es (tAP X.K X.mg W f)

theorem PE_imp {X : Cx} {e : Expr} {t t' : TE} (h : PE X e t) (i : ∀ σ H Q, t' σ H Q → t σ H Q) : PE X e t' := ⟨fun pins s σ H Q I q => h.run pins s σ H Q I (i σ H Q q)⟩
theorem PT_imp {X : Cx} {e : Expr} {t t' : TT} (h : PT X e t) (i : ∀ σ H Q, t' σ H Q → t σ H Q) : PT X e t' := ⟨fun pins s σ H Q I q => h.run pins s σ H Q I (i σ H Q q)⟩
theorem PW_imp {X : Cx} {e : Expr} {t t' : TT} (h : PW X e t) (i : ∀ σ H Q, t' σ H Q → t σ H Q) : PW X e t' := ⟨fun wh pins s σ H Q I q => h.run wh pins s σ H Q I (i σ H Q q)⟩
theorem PA_imp {X : Cx} {es : List Expr} {t t' : TA} (h : PA X es t) (i : ∀ σ H Q, t' σ H Q → t σ H Q) : PA X es t' := ⟨fun pos pins s σ H Q I q => h.run pos pins s σ H Q I (i σ H Q q)⟩
theorem PS_imp {X : Cx} {st : Stmt} {t t' : TS} (h : PS X st t) (i : ∀ D σ H, t' D σ H → t D σ H) : PS X st t' := ⟨fun pins s σ H D I q => h.run pins s σ H D I (i D σ H q)⟩
theorem PSs_imp {X : Cx} {st : List Stmt} {t t' : TS} (h : PSs X st t) (i : ∀ D σ H, t' D σ H → t D σ H) : PSs X st t' := ⟨fun pins s σ H D I q => h.run pins s σ H D I (i D σ H q)⟩

section
variable {X : Cx} {W : WX} {e : Expr}
/-- data stands still: it may be looked at -/
theorem VE.p {f : Env → Out D} (h : VE X W e f) : VP X W e f := PE_imp h fun σ H Q ⟨B, S, env, r, q⟩ => ⟨B, S, env, r, q.imp fun d S' H' _ k v hv => k v (.inl hv)⟩
/-- a new list is given away at once -/
theorem VF.v {f : Env → Out (List D)} (h : VF X W e f) : VE X W e fun env => (f env).map .list := PE_imp h fun σ H Q ⟨B, S, env, r, q⟩ => by
  refine ⟨B, S, env, r, ?_⟩
  have q' := q.map
  cases ho : f env with
  | ok ds =>
    rw [ho] at q'
    intro S' H' ex p vs h0 hs hp hd
    have ex2 := Ext.settle ex.sub hp hs h0 ex
    exact q' _ _ ex2 _ (.lst (SqL.of upd_same) (DpAll.mono (fun b o z => by rw [upd_ne (ne_of_none z hs)]; exact z) hd))
  | exc c p => rw [ho] at q'; exact q'
  | bad => rw [ho] at q'; exact q'
theorem VF.p {f : Env → Out (List D)} (h : VF X W e f) : VP X W e fun env => (f env).map .list := h.v.p
end
end VI

/-! VI 2: expressions: names, constants, arguments, displays, operators, comparisons, tests. -/
namespace VI
open PySem PySem.Spec PyProof.Rows L2

/-! ### what the operations do to data -/
def slotD : Slot → Out D
  | .un => .bad
  | .val d => .ok d
  | .own ds => .ok (.list ds)
  | .exn _ => .bad
def slotV : Slot → Out D
  | .val d => .ok d
  | _ => .bad
/-- a name that holds data -/
def eVar (i : Nat) : Env → Out D := fun env => slotV (sg env i)
/-- a name that is looked at -/
def ePk (i : Nat) : Env → Out D := fun env => slotD (sg env i)
def eC (d : D) : Env → Out D := fun _ => .ok d
def e2 (g : D → D → Out D) (f1 f2 : Env → Out D) : Env → Out D := fun env => (f1 env).bind fun x => (f2 env).bind fun y => g x y
def e1 (g : D → Out D) (f1 : Env → Out D) : Env → Out D := fun env => (f1 env).bind g
def aNil : Env → Out (List D) := fun _ => .ok []
def aCons (f : Env → Out D) (g : Env → Out (List D)) : Env → Out (List D) := fun env => (f env).bind fun x => (g env).bind fun xs => .ok (x :: xs)
def eTup (g : Env → Out (List D)) : Env → Out D := fun env => (g env).bind fun ds => if ds.length ≤ sizeLine then .ok (.tuple ds) else .bad
def fLst (g : Env → Out (List D)) : Env → Out (List D) := fun env => (g env).bind fun ds => if ds.length ≤ sizeLine then .ok ds else .bad
/-- a list that is made and given away -/
def eL (f : Env → Out (List D)) : Env → Out D := fun env => (f env).map .list

def addD : D → D → Out D
  | .int a, .int b => .ok (.int (a + b))
  | .str a, .str b => if a.length + b.length ≤ sizeLine then .ok (.str (a ++ b)) else .bad
  | .tuple a, .tuple b => if a.length + b.length ≤ sizeLine then .ok (.tuple (a ++ b)) else .bad
  | _, _ => .bad
def subD : D → D → Out D
  | .int a, .int b => .ok (.int (a - b))
  | _, _ => .bad
def mulD : D → D → Out D
  | .int a, .int b => if (-(2 ^ 64) < a ∧ a < 2 ^ 64) ∨ (-(2 ^ 64) < b ∧ b < 2 ^ 64) then .ok (.int (a * b)) else .bad
  | .tuple a, .int k => if a ≠ [] ∧ 2 ≤ k ∧ k ≤ 1000 ∧ a.length ≤ 1000 then .ok (.tuple (List.replicate k.toNat a).flatten) else .bad
  | _, _ => .bad
def divD : D → D → Out D
  | .int a, .int b => if 0 < b ∧ b < 1073741824 then .ok (.int (a / b)) else .bad
  | _, _ => .bad
def modD : D → D → Out D
  | .int a, .int b => if 0 < b then .ok (.int (a % b)) else .bad
  | _, _ => .bad
def powD : D → D → Out D
  | .int a, .int b => if 0 ≤ b ∧ b ≤ 1000000 ∧ a.natAbs < 2 ^ 64 then .ok (.int (a ^ b.toNat)) else .bad
  | _, _ => .bad
def negD : D → Out D
  | .int a => .ok (.int (-a))
  | _ => .bad
/-- list + list; list * int: new lists -/
def catL : D → D → Out (List D)
  | .list a, .list b => if a.length + b.length ≤ sizeLine then .ok (a ++ b) else .bad
  | _, _ => .bad
def repL : D → D → Out (List D)
  | .list a, .int k => if -(2 ^ 63) ≤ k ∧ k < 2 ^ 63 ∧ a.length * k.toNat ≤ sizeLine then .ok (List.replicate k.toNat a).flatten else .bad
  | _, _ => .bad
def f2 (g : D → D → Out (List D)) (f1 f2 : Env → Out D) : Env → Out (List D) := fun env => (f1 env).bind fun x => (f2 env).bind fun y => g x y

/-- the comparisons -/
inductive Cm where | eq | ne | lt | le | gt | ge | isN | notN | inn | notIn
  deriving DecidableEq
def shB (d : D) : Bool := SeqAt.shaped d
def ordD (p : Int → Int → Bool) : D → D → Out Bool
  | .int a, .int b => .ok (p a b)
  | _, _ => .bad
def nonD : D → Bool
  | .none => true
  | _ => false
def isD (n : Bool) (a : D) : D → Out Bool
  | .none => .ok (n == nonD a)
  | _ => .bad
def strInD (n : Bool) (y : Str) : D → Out Bool
  | .str a => .ok (n == !(Builtin.Str.occurrences y a 0 y.length 1).isEmpty)
  | _ => .bad
def inD (n : Bool) (a : D) : D → Out Bool
  | .list b => if shB a = true ∧ shB (.list b) = true then .ok (n == b.any fun z => PyData.eqv z a) else .bad
  | .tuple b => if shB a = true ∧ shB (.tuple b) = true then .ok (n == b.any fun z => PyData.eqv z a) else .bad
  | .str y => strInD n y a
  | _ => .bad
def eqD (n : Bool) (a b : D) : Out Bool := if shB a = true ∧ shB b = true then .ok (n == PyData.eqv a b) else .bad
def cmD (c : Cm) (a b : D) : Out Bool := match c with
  | .eq => eqD true a b
  | .ne => eqD false a b
  | .lt => ordD (fun i j => decide (i < j)) a b
  | .le => ordD (fun i j => decide (i ≤ j)) a b
  | .gt => ordD (fun i j => decide (j < i)) a b
  | .ge => ordD (fun i j => decide (j ≤ i)) a b
  | .isN => isD true a b
  | .notN => isD false a b
  | .inn => inD true a b
  | .notIn => inD false a b
def cmOp : Cm → CmpOp
  | .eq => .Eq | .ne => .NotEq | .lt => .Lt | .le => .LtE | .gt => .Gt | .ge => .GtE | .isN => .Is | .notN => .IsNot | .inn => .In | .notIn => .NotIn
/-- a test -/
def bCm (c : Cm) (f1 f2 : Env → Out D) : Env → Out Bool := fun env => (f1 env).bind fun x => (f2 env).bind fun y => cmD c x y
/-- a chain of comparisons -/
def chD : D → List (Cm × (Env → Out D)) → Env → Out Bool
  | _, [], _ => .ok true
  | x, (c, f) :: r, env => (f env).bind fun y => (cmD c x y).bind fun b => if b then chD y r env else .ok false
def bCh (f : Env → Out D) (l : List (Cm × (Env → Out D))) : Env → Out Bool := fun env => (f env).bind fun x => chD x l env
def bNot (f : Env → Out Bool) : Env → Out Bool := fun env => (f env).bind fun b => .ok (!b)
def bAnd (f g : Env → Out Bool) : Env → Out Bool := fun env => (f env).bind fun b => if b then g env else .ok false
def bOr (f g : Env → Out Bool) : Env → Out Bool := fun env => (f env).bind fun b => if b then .ok true else g env
def eB (f : Env → Out Bool) : Env → Out D := fun env => (f env).map .bool
def truD : D → Out Bool
  | .none => .ok false
  | .bool b => .ok b
  | .int i => .ok (i != 0)
  | .list ds => .ok (!ds.isEmpty)
  | .tuple ds => .ok (!ds.isEmpty)
  | _ => .bad
def bTru (f : Env → Out D) : Env → Out Bool := fun env => (f env).bind truD
def eIf (c : Env → Out Bool) (f g : Env → Out D) : Env → Out D := fun env => (c env).bind fun b => if b then f env else g env
/-- a value that is a bool -/
def isB : D → Out Bool
  | .bool b => .ok b
  | _ => .bad

section
variable {X : Cx} {W : WX} {a b e : Expr} {pos : Pos}
abbrev PostV (X : Cx) (W : WX) (σ : St) (S H : Hp) (o : Out D) (Q : VK) : Prop := Post X.K X.mg W σ S H o fun d S' H' => ∀ v, Dp X.K S' v d → Q v H'

/-! ### names and constants -/
theorem ve_var (i : Nat) {x : Str} {pos : Pos} (hN : X.N[i]? = some x := by rfl) (hv : Vis X.env.scope x := by first | exact Or.inl rfl | exact Or.inr (Or.inl rfl) | exact Or.inr (Or.inr rfl)) (hd : (x == ("__debug__" : Str)) = false := by decide)
    (hcd : (x == ("__classdict__" : Str)) = false := by decide) : VE X W (.Name x pos) (eVar i) := PE_imp (pe_var hN hv hd hcd) fun σ H Q ⟨B, S, env, r, q⟩ => by
  unfold eVar at q
  cases h : sg env i with
  | val d =>
    rw [h] at q
    obtain ⟨v, e1, _, dv⟩ := r.val h
    exact ⟨v, e1, Post.now r.sub q v dv⟩
  | un => rw [h] at q; exact (show False from q).elim
  | own ds => rw [h] at q; exact (show False from q).elim
  | exn a => rw [h] at q; exact (show False from q).elim
theorem vp_var (i : Nat) {x : Str} {pos : Pos} (hN : X.N[i]? = some x := by rfl) (hv : Vis X.env.scope x := by first | exact Or.inl rfl | exact Or.inr (Or.inl rfl) | exact Or.inr (Or.inr rfl)) (hd : (x == ("__debug__" : Str)) = false := by decide)
    (hcd : (x == ("__classdict__" : Str)) = false := by decide) : VP X W (.Name x pos) (ePk i) := PE_imp (pe_var hN hv hd hcd) fun σ H Q ⟨B, S, env, r, q⟩ => by
  unfold ePk at q
  cases h : sg env i with
  | val d =>
    rw [h] at q
    obtain ⟨v, e1, _, dv⟩ := r.val h
    exact ⟨v, e1, Post.now r.sub q v (.inl dv)⟩
  | un => rw [h] at q; exact (show False from q).elim
  | own ds =>
    rw [h] at q
    obtain ⟨a, vs, e1, _, _, hs, hp, hd⟩ := r.own h
    exact ⟨.ref a, e1, Post.now r.sub q _ (.inr ⟨a, vs, ds, rfl, rfl, hp, hd⟩)⟩
  | exn a => rw [h] at q; exact (show False from q).elim
theorem ve_of_c {v : V} {d : D} (h : PE X e (tC v)) (hd : ∀ S, Dp X.K S v d) : VE X W e (eC d) := PE_imp h fun σ H Q ⟨B, S, env, r, q⟩ => Post.now r.sub q v (hd S)
theorem ve_int {i j pos} : VE X W (.Constant (.int i) j pos) (eC (.int i)) := ve_of_c pe_int fun _ => .int _
theorem ve_bl {b j pos} : VE X W (.Constant (.bool b) j pos) (eC (.bool b)) := ve_of_c pe_bl fun _ => .bl _
theorem ve_non {j pos} : VE X W (.Constant .none j pos) (eC .none) := ve_of_c pe_non fun _ => .non
theorem ve_str {x j pos} : VE X W (.Constant (.str x) j pos) (eC (.str x)) := ve_of_c pe_str fun _ => .str _
/-- a module's constant -/
theorem ve_gint {x : Str} {i : Int} {t : Tok} {pos : Pos} (hm : X.mg x = some (.int i t)) (hg : Gl X x := by rfl) (hd : (x == ("__debug__" : Str)) = false := by decide) : VE X W (.Name x pos) (eC (.int i)) :=
  ve_of_c (v := .int i) (pe_glob hg hm ⟨t, rfl⟩ hd) fun _ => .int _
theorem ve_gstr {x y : Str} {t : Tok} {pos : Pos} (hm : X.mg x = some (.str y t)) (hg : Gl X x := by rfl) (hd : (x == ("__debug__" : Str)) = false := by decide) : VE X W (.Name x pos) (eC (.str y)) :=
  ve_of_c (v := .str y) (pe_glob hg hm ⟨t, rfl⟩ hd) fun _ => .str _

/-! ### arguments, displays -/
theorem va_nil : VA X W [] aNil := PA_imp pa_nil fun σ H Q ⟨B, S, env, r, q⟩ => Post.now r.sub q [] .nil
theorem va_cons {es : List Expr} {f : Env → Out D} {g : Env → Out (List D)} (ha : VE X W e f) (hr : VA X W es g) (hs : starEach (e :: es) X.env = (false, eval e X.env) :: starEach es X.env := by rfl) : VA X W (e :: es) (aCons f g) :=
  PA_imp (pa_cons ha hr hs) fun σ H Q ⟨B, S, env, r, q⟩ => ⟨B, S, env, r, (Post.bind q).imp fun x S1 H1 e1 q1 v hv => ⟨B, S1, env, r.ext e1, (Post.bind q1).imp fun xs S2 H2 e2 q2 vs hvs => Post.now e2.sub q2 _ (.cons (Dp.mono e2.ss hv) hvs)⟩⟩
theorem vap_nil : VAP X W [] aNil := PA_imp pa_nil fun σ H Q ⟨B, S, env, r, q⟩ => Post.now r.sub q [] .nil
theorem vap_cons {es : List Expr} {f : Env → Out D} {g : Env → Out (List D)} (ha : VP X W e f) (hr : VAP X W es g) (hs : starEach (e :: es) X.env = (false, eval e X.env) :: starEach es X.env := by rfl) : VAP X W (e :: es) (aCons f g) :=
  PA_imp (pa_cons ha hr hs) fun σ H Q ⟨B, S, env, r, q⟩ => ⟨B, S, env, r, (Post.bind q).imp fun x S1 H1 e1 q1 v hv => ⟨B, S1, env, r.ext e1, (Post.bind q1).imp fun xs S2 H2 e2 q2 vs hvs => Post.now e2.sub q2 _ (.cons (hv.ext e2) hvs)⟩⟩
theorem ve_tup {es : List Expr} {x1 : Nat} {g : Env → Out (List D)} (h : VA X W es g) : VE X W (.Tuple es x1 pos) (eTup g) :=
  PE_imp (pe_tup h) fun σ H Q ⟨B, S, env, r, q⟩ => ⟨B, S, env, r, (Post.bind q).imp fun ds S1 H1 e1 q1 vs hvs => by
    by_cases hz : ds.length ≤ sizeLine
    · rw [if_pos hz] at q1
      refine ⟨by rw [DpAll.length hvs]; exact hz, fun p hp => ?_⟩
      have ex := Ext.laid (o := .tup vs) e1.sub hp
      exact q1 _ _ ex _ (.tup (.inl (.inl upd_same)) (DpAll.mono ex.ss hvs))
    · rw [if_neg hz] at q1; exact (show False from q1).elim⟩
theorem vf_lst {es : List Expr} {g : Env → Out (List D)} (h : VA X W es g) : VF X W (.List es pos) (fLst g) :=
  PE_imp (pe_lst h) fun σ H Q ⟨B, S, env, r, q⟩ => ⟨B, S, env, r, (Post.bind q).imp fun ds S1 H1 e1 q1 vs hvs => by
    by_cases hz : ds.length ≤ sizeLine
    · rw [if_pos hz] at q1
      refine ⟨by rw [DpAll.length hvs]; exact hz, fun p hp => ?_⟩
      exact q1 _ _ (Ext.fresh (o := .lst vs) e1.sub hp) p vs (e1.hh.free hp) (e1.sub.free hp) upd_same hvs
    · rw [if_neg hz] at q1; exact (show False from q1).elim⟩
theorem VF.l {f : Env → Out (List D)} (h : VF X W e f) : VE X W e (eL f) := VF.v h

/-! ### two operands -/
theorem two {K : PySem.W.Frag} {mg : Str → Option Value} {β : Type} {fa fb : Env → Out D} {g : D → D → Out β} {R : β → Hp → Hp → Prop} {Rel : V → V → Hp → Prop} {σ : St} {B S H : Hp} {env : Env} (r : SR K B S env σ H)
    (h : Post K mg W σ S H ((fa env).bind fun x => (fb env).bind fun y => g x y) R)
    (k : ∀ x y dx dy S2 H2, Ext S H S2 H2 → SR K B S2 env σ H2 → DpP K S2 H2 x dx → DpP K S2 H2 y dy → Post K mg W σ S2 H2 (g dx dy) R → Rel x y H2) :
    tP K mg W fa σ H fun x H1 => tP K mg W fb σ H1 fun y H2 => Rel x y H2 :=
  ⟨B, S, env, r, (Post.bind h).imp fun dx S1 H1 ex1 q1 x hx => ⟨B, S1, env, r.ext ex1, (Post.bind q1).imp fun dy S2 H2 ex2 q2 y hy => k x y dx dy S2 H2 (ex1.trans ex2) ((r.ext ex1).ext ex2) (hx.ext ex2) hy q2⟩⟩
/-- an operation that gives data at once -/
def Gives (K : PySem.W.Frag) (r : R2) (g : D → D → Out D) : Prop :=
  ∀ (S H : Hp) (x y : V) (dx dy d : D) (Q : VK), Same S H → DpP K S H x dx → DpP K S H y dy → g dx dy = .ok d → (∀ S' H' v, Ext S H S' H' → Dp K S' v d → Q v H') → r x y H Q
/-- no exception comes from an operation on data -/
def Quiet {α β : Type} (g : α → β → Out D) : Prop := ∀ x y, (∃ d, g x y = .ok d) ∨ g x y = .bad
theorem Out.quiet {α : Type} {o : Out α} (h : (∃ d, o = .ok d) ∨ o = .bad) {K : PySem.W.Frag} {mg : Str → Option Value} {σ : St} {S H : Hp} {R : α → Hp → Hp → Prop} (q : Post K mg W σ S H o R) : ∃ d, o = .ok d := by
  rcases h with h | h
  · exact h
  · rw [h] at q; exact (show False from q).elim
theorem ve_bin {op : Operator} {r : R2} {g : D → D → Out D} {fa fb : Env → Out D} (ho : OpR X (binaryOp op) r) (hg : Gives X.K r g) (hq : Quiet g) (ha : VP X W a fa) (hb : VP X W b fb) : VE X W (.BinOp a op b pos) (e2 g fa fb) :=
  PE_imp (pe_op ho ha hb) fun σ H Q ⟨B, S, env, sr, q⟩ => two sr q fun x y dx dy S2 H2 ex sr2 hx hy q2 => by
    obtain ⟨d, e⟩ := Out.quiet (hq dx dy) q2
    rw [e] at q2
    exact hg S2 H2 x y dx dy d Q sr2.sub hx hy e fun S' H' v ex' hv => q2 S' H' ex' v hv
theorem DpP.int {K : PySem.W.Frag} {S H : Hp} {v : V} {i : Int} (h : DpP K S H v (.int i)) : v = .int i := by
  rcases h with h | ⟨_, _, _, _, e, _⟩
  · cases h; rfl
  · cases e
theorem DpP.str {K : PySem.W.Frag} {S H : Hp} {v : V} {i : Str} (h : DpP K S H v (.str i)) : v = .str i := by
  rcases h with h | ⟨_, _, _, _, e, _⟩
  · cases h; rfl
  · cases e
theorem DpP.bl {K : PySem.W.Frag} {S H : Hp} {v : V} {i : Bool} (h : DpP K S H v (.bool i)) : v = .bl i := by
  rcases h with h | ⟨_, _, _, _, e, _⟩
  · cases h; rfl
  · cases e
theorem DpP.non {K : PySem.W.Frag} {S H : Hp} {v : V} (h : DpP K S H v .none) : v = .non := by
  rcases h with h | ⟨_, _, _, _, e, _⟩
  · cases h; rfl
  · cases e

theorem quiet_add : Quiet addD := fun x y => by
  cases x <;> cases y <;> first
    | exact .inr rfl
    | exact .inl ⟨_, rfl⟩
    | (unfold addD; dsimp only; split; exact .inl ⟨_, rfl⟩; exact .inr rfl)
theorem quiet_sub : Quiet subD := fun x y => by
  cases x <;> cases y <;> first
    | exact .inr rfl
    | exact .inl ⟨_, rfl⟩
theorem quiet_mul : Quiet mulD := fun x y => by
  cases x <;> cases y <;> first
    | exact .inr rfl
    | (unfold mulD; dsimp only; split; exact .inl ⟨_, rfl⟩; exact .inr rfl)
theorem quiet_div : Quiet divD := fun x y => by
  cases x <;> cases y <;> first
    | exact .inr rfl
    | (unfold divD; dsimp only; split; exact .inl ⟨_, rfl⟩; exact .inr rfl)
theorem quiet_mod : Quiet modD := fun x y => by
  cases x <;> cases y <;> first
    | exact .inr rfl
    | (unfold modD; dsimp only; split; exact .inl ⟨_, rfl⟩; exact .inr rfl)
theorem quiet_pow : Quiet powD := fun x y => by
  cases x <;> cases y <;> first
    | exact .inr rfl
    | (unfold powD; dsimp only; split; exact .inl ⟨_, rfl⟩; exact .inr rfl)

/-- ints, texts, tuples -/
theorem op_addD : ∃ r, OpR X (binaryOp .Add) r ∧ Gives X.K r addD := by
  refine ⟨_, op_add.or (op_add_str.or op_catA), fun S H x y dx dy d Q s hx hy e k => ?_⟩
  cases dx with
  | int i =>
    cases dy with
    | int j =>
      cases hx.int; cases hy.int
      cases e
      exact .inl ⟨i, j, rfl, rfl, k S H _ (Ext.refl s) (.int _)⟩
    | _ => cases e
  | str i =>
    cases dy with
    | str j =>
      cases hx.str; cases hy.str
      unfold addD at e; dsimp only at e
      split at e
      · rename_i hz
        cases e
        exact .inr (.inl ⟨i, j, rfl, rfl, hz, k S H _ (Ext.refl s) (.str _)⟩)
      · cases e
    | _ => cases e
  | tuple xs =>
    cases dy with
    | tuple ys =>
      unfold addD at e; dsimp only at e
      split at e
      · rename_i hz
        cases e
        obtain ⟨p, vs, rfl, hs1, hh1, hv1, hd1⟩ := hx.tup s
        obtain ⟨q, ws, rfl, hs2, hh2, hv2, hd2⟩ := hy.tup s
        refine .inr (.inr ⟨p, q, vs, ws, rfl, rfl, hh1, hh2, by rw [DpAll.length hv1, DpAll.length hv2]; exact hz, ?_⟩)
        have l1 := DpAll.length hv1
        have l2 := DpAll.length hv2
        refine ⟨fun z => ?_, fun _ z => ?_, fun _ _ p' hp' => ?_⟩
        · have z' : xs = [] := List.length_eq_zero_iff.mp (by rw [← l1, z]; rfl)
          subst z'
          exact k S H _ (Ext.refl s) hd2
        · have z' : ys = [] := List.length_eq_zero_iff.mp (by rw [← l2, z]; rfl)
          subst z'
          rw [List.append_nil] at k
          exact k S H _ (Ext.refl s) hd1
        · have ex := Ext.laid (o := .tup (vs ++ ws)) s hp'
          exact k _ _ _ ex (.tup (.inl (.inl upd_same)) (DpAll.mono ex.ss (DpAll.append hv1 hv2)))
      · cases e
    | _ => cases e
  | _ => cases e
theorem op_subD : ∃ r, OpR X (binaryOp .Sub) r ∧ Gives X.K r subD := by
  refine ⟨_, op_sub, fun S H x y dx dy d Q s hx hy e k => ?_⟩
  cases dx with
  | int i =>
    cases dy with
    | int j =>
      cases hx.int; cases hy.int
      cases e
      exact ⟨i, j, rfl, rfl, k S H _ (Ext.refl s) (.int _)⟩
    | _ => cases e
  | _ => cases e
theorem op_divD : ∃ r, OpR X (binaryOp .FloorDiv) r ∧ Gives X.K r divD := by
  refine ⟨_, op_fdiv, fun S H x y dx dy d Q s hx hy e k => ?_⟩
  cases dx with
  | int i =>
    cases dy with
    | int j =>
      cases hx.int; cases hy.int
      unfold divD at e; dsimp only at e
      split at e
      · rename_i hz
        cases e
        exact ⟨i, j, rfl, rfl, hz, k S H _ (Ext.refl s) (.int _)⟩
      · cases e
    | _ => cases e
  | _ => cases e
theorem op_modD : ∃ r, OpR X (binaryOp .Mod) r ∧ Gives X.K r modD := by
  refine ⟨_, op_mod, fun S H x y dx dy d Q s hx hy e k => ?_⟩
  cases dx with
  | int i =>
    cases dy with
    | int j =>
      cases hx.int; cases hy.int
      unfold modD at e; dsimp only at e
      split at e
      · rename_i hz
        cases e
        exact ⟨i, j, rfl, rfl, hz, k S H _ (Ext.refl s) (.int _)⟩
      · cases e
    | _ => cases e
  | _ => cases e
theorem op_powD : ∃ r, OpR X (binaryOp .Pow) r ∧ Gives X.K r powD := by
  refine ⟨_, op_pow, fun S H x y dx dy d Q s hx hy e k => ?_⟩
  cases dx with
  | int i =>
    cases dy with
    | int j =>
      cases hx.int; cases hy.int
      unfold powD at e; dsimp only at e
      split at e
      · rename_i hz
        cases e
        exact ⟨i, j, rfl, rfl, hz, k S H _ (Ext.refl s) (.int _)⟩
      · cases e
    | _ => cases e
  | _ => cases e
theorem op_mulD : ∃ r, OpR X (binaryOp .Mult) r ∧ Gives X.K r mulD := by
  refine ⟨_, op_mul.or op_repT, fun S H x y dx dy d Q s hx hy e k => ?_⟩
  cases dx with
  | int i =>
    cases dy with
    | int j =>
      cases hx.int; cases hy.int
      unfold mulD at e; dsimp only at e
      split at e
      · rename_i hz
        cases e
        exact .inl ⟨i, j, rfl, rfl, hz, k S H _ (Ext.refl s) (.int _)⟩
      · cases e
    | _ => cases e
  | tuple xs =>
    cases dy with
    | int j =>
      cases hy.int
      unfold mulD at e; dsimp only at e
      split at e
      · rename_i hz
        cases e
        obtain ⟨p, vs, rfl, hs1, hh1, hv1, hd1⟩ := hx.tup s
        have l1 := DpAll.length hv1
        refine .inr ⟨p, j, vs, rfl, rfl, hh1, fun z => hz.1 (List.length_eq_zero_iff.mp (by rw [← l1, z]; rfl)), hz.2.1, hz.2.2.1, by rw [l1]; exact hz.2.2.2, fun p' hp' => ?_⟩
        have ex := Ext.laid (o := .tup (List.replicate j.toNat vs).flatten) s hp'
        exact k _ _ _ ex (.tup (.inl (.inl upd_same)) (DpAll.mono ex.ss (DpAll.rep hv1 _)))
      · cases e
    | _ => cases e
  | _ => cases e
theorem ve_add {fa fb : Env → Out D} (ha : VP X W a fa) (hb : VP X W b fb) : VE X W (.BinOp a .Add b pos) (e2 addD fa fb) := let ⟨_, o, g⟩ := op_addD (X := X); ve_bin o g quiet_add ha hb
theorem ve_sub {fa fb : Env → Out D} (ha : VP X W a fa) (hb : VP X W b fb) : VE X W (.BinOp a .Sub b pos) (e2 subD fa fb) := let ⟨_, o, g⟩ := op_subD (X := X); ve_bin o g quiet_sub ha hb
theorem ve_mul {fa fb : Env → Out D} (ha : VP X W a fa) (hb : VP X W b fb) : VE X W (.BinOp a .Mult b pos) (e2 mulD fa fb) := let ⟨_, o, g⟩ := op_mulD (X := X); ve_bin o g quiet_mul ha hb
theorem ve_div {fa fb : Env → Out D} (ha : VP X W a fa) (hb : VP X W b fb) : VE X W (.BinOp a .FloorDiv b pos) (e2 divD fa fb) := let ⟨_, o, g⟩ := op_divD (X := X); ve_bin o g quiet_div ha hb
theorem ve_mod {fa fb : Env → Out D} (ha : VP X W a fa) (hb : VP X W b fb) : VE X W (.BinOp a .Mod b pos) (e2 modD fa fb) := let ⟨_, o, g⟩ := op_modD (X := X); ve_bin o g quiet_mod ha hb
theorem ve_pow {fa fb : Env → Out D} (ha : VP X W a fa) (hb : VP X W b fb) : VE X W (.BinOp a .Pow b pos) (e2 powD fa fb) := let ⟨_, o, g⟩ := op_powD (X := X); ve_bin o g quiet_pow ha hb
theorem ve_neg {fa : Env → Out D} (ha : VP X W a fa) : VE X W (.UnaryOp .USub a pos) (e1 negD fa) := PE_imp (pe_un un_neg ha) fun σ H Q ⟨B, S, env, r, q⟩ => ⟨B, S, env, r, (Post.bind q).imp fun d S1 H1 ex q1 v hv => by
  cases d with
  | int i => cases hv.int; exact ⟨i, rfl, Post.now ex.sub q1 _ (.int _)⟩
  | _ => exact (show False from q1).elim⟩

/-! ### list + list, list * int -/
theorem op_catX : OpR X (binaryOp .Add) (fun x y H Q => ∃ l b xs zs, x = .ref l ∧ y = .ref b ∧ SqL X.K H l xs ∧ SqL X.K H b zs ∧ xs.length + zs.length ≤ sizeLine ∧ ∀ p, H p = none → Q (.ref p) (upd H p (.lst (xs ++ zs)))) := by
  intro pins s σ H x y v u Q I rx ry h
  obtain ⟨l, b, xs, zs, rfl, rfl, hH, hB, hz, q⟩ := h
  cases rx
  cases ry
  obtain ⟨its, r, pl, z1⟩ := I.list hH
  obtain ⟨its2, r2, pl2, z2⟩ := I.list hB
  have hl := r.length
  have hl2 := r2.length
  obtain ⟨⟨cls, dd, data, sl⟩, ho, hc, n, hd⟩ := pl.isList
  obtain ⟨⟨cls2, dd2, data2, sl2⟩, ho2, hc2, n2, hd2⟩ := pl2.isList
  simp only at hc hd hc2 hd2
  subst hc hd hc2 hd2
  refine concat_meets ⟨_, ho, rfl⟩ ⟨_, ho2, rfl⟩ noFill_list_add seq_list_add PySem.F.slot_list_add PySem.F.entry_list_add (PySem.F.args_list_add_2 _ _) (list_addW l b its.toArray its2.toArray n n2 dd dd2 sl sl2 (by rw [List.size_toArray, List.size_toArray]; omega)) ⟨ho, ho2, ?_⟩
  have ea : its.toArray ++ its2.toArray = (its ++ its2).toArray := by simp
  rw [ea]
  exact ⟨.ref _, _, I.lnew (t' := s.toks) (r.append r2) (by rw [List.length_append]; omega), rfl, q _ I.fresh⟩
theorem vf_cat {fa fb : Env → Out D} (ha : VP X W a fa) (hb : VP X W b fb) : VF X W (.BinOp a .Add b pos) (f2 catL fa fb) :=
  PE_imp (pe_op op_catX ha hb) fun σ H Q ⟨B, S, env, sr, q⟩ => two sr q fun x y dx dy S2 H2 ex sr2 hx hy q2 => by
    cases dx with
    | list xs =>
      cases dy with
      | list ys =>
        unfold catL at q2; dsimp only at q2
        split at q2
        · rename_i hz
          obtain ⟨p, vs, rfl, hh1, hv1⟩ := hx.lst sr2.sub
          obtain ⟨p2, ws, rfl, hh2, hv2⟩ := hy.lst sr2.sub
          refine ⟨p, p2, vs, ws, rfl, rfl, hh1, hh2, by rw [DpAll.length hv1, DpAll.length hv2]; exact hz, fun p' hp' => ?_⟩
          exact q2 _ _ (Ext.fresh (o := .lst (vs ++ ws)) sr2.sub hp') p' (vs ++ ws) (ex.hh.free hp') (sr2.sub.free hp') upd_same (DpAll.append hv1 hv2)
        · exact (show False from q2).elim
      | _ => exact (show False from q2).elim
    | _ => exact (show False from q2).elim
end
end VI

/-! VI 3: comparisons, tests, items, slices. -/
namespace VI
open PySem PySem.Spec PyProof.Rows L2
section
variable {X : Cx} {W : WX} {a b e : Expr} {pos : Pos}

/-- [..] * n -/
theorem vf_rep {fa : Env → Out (List D)} {fb : Env → Out D} (ha : VF X W a fa) (hb : VP X W b fb) : VF X W (.BinOp a .Mult b pos) (f2 repL (eL fa) fb) :=
  PE_imp (pe_op op_rep ha hb) fun σ H Q ⟨B, S, env, sr, q⟩ => ⟨B, S, env, sr, by
    unfold f2 eL at q
    have q1 := (Post.bind q).map
    exact q1.imp fun ds S1 H1 ex1 q2 p vs h0 hs hp hd => ⟨B, S1, env, sr.ext ex1, (Post.bind q2).imp fun dy S2 H2 ex2 q3 y hy => by
      cases dy with
      | int k =>
        cases hy.int
        unfold repL at q3; dsimp only at q3
        split at q3
        · rename_i hz
          refine ⟨p, k, vs, rfl, rfl, ex2.hh _ _ hp, hz.1, hz.2.1, by rw [DpAll.length hd]; exact hz.2.2, fun p' hp' => ?_⟩
          have ex3 := Ext.fresh (o := .lst (List.replicate k.toNat vs).flatten) ex2.sub hp'
          exact q3 _ _ ex3 p' _ ((ex1.trans ex2).hh.free hp') (ex2.sub.free hp') upd_same (DpAll.mono (ex2.ss.trans ex3.ss) (DpAll.rep hd _))
        · exact (show False from q3).elim
      | _ => exact (show False from q3).elim⟩⟩

/-! ### comparisons -/
def CmGives (K : PySem.W.Frag) (r : R2) (c : Cm) : Prop :=
  ∀ (S H : Hp) (x y : V) (dx dy : D) (k : Bool) (Q : VK), Same S H → DpP K S H x dx → DpP K S H y dy → cmD c dx dy = .ok k → Q (.bl k) H → r x y H Q
theorem eq_quiet (n : Bool) (x y : D) : (∃ d, eqD n x y = .ok d) ∨ eqD n x y = .bad := by
  unfold eqD; split
  · exact .inl ⟨_, rfl⟩
  · exact .inr rfl
theorem ord_quiet (p : Int → Int → Bool) (x y : D) : (∃ d, ordD p x y = .ok d) ∨ ordD p x y = .bad := by
  cases x <;> cases y <;> first | exact .inr rfl | exact .inl ⟨_, rfl⟩
theorem is_quiet (n : Bool) (x y : D) : (∃ d, isD n x y = .ok d) ∨ isD n x y = .bad := by
  cases y <;> first | exact .inr rfl | exact .inl ⟨_, rfl⟩
theorem in_quiet (n : Bool) (x y : D) : (∃ d, inD n x y = .ok d) ∨ inD n x y = .bad := by
  cases y
  case list ys => unfold inD; dsimp only; split; exact .inl ⟨_, rfl⟩; exact .inr rfl
  case tuple ys => unfold inD; dsimp only; split; exact .inl ⟨_, rfl⟩; exact .inr rfl
  all_goals (cases x <;> first | exact .inr rfl | exact .inl ⟨_, rfl⟩)
theorem cm_quiet (c : Cm) (x y : D) : (∃ d, cmD c x y = .ok d) ∨ cmD c x y = .bad := by
  cases c
  case eq => exact eq_quiet _ x y
  case ne => exact eq_quiet _ x y
  case isN => exact is_quiet _ x y
  case notN => exact is_quiet _ x y
  case inn => exact in_quiet _ x y
  case notIn => exact in_quiet _ x y
  all_goals exact ord_quiet _ x y
theorem eq_cases {n : Bool} {x y : D} {k : Bool} (e : eqD n x y = .ok k) : shB x = true ∧ shB y = true ∧ k = (n == PyData.eqv x y) := by
  unfold eqD at e
  by_cases h : shB x = true ∧ shB y = true
  · rw [if_pos h] at e
    injection e with e
    exact ⟨h.1, h.2, e.symm⟩
  · rw [if_neg h] at e; cases e
theorem ord_cases {p : Int → Int → Bool} {x y : D} {k : Bool} (e : ordD p x y = .ok k) : ∃ i j, x = .int i ∧ y = .int j ∧ k = p i j := by
  cases x <;> cases y <;> first
    | (injection e with e; exact ⟨_, _, rfl, rfl, e.symm⟩)
    | cases e
theorem is_cases {n : Bool} {x y : D} {k : Bool} (e : isD n x y = .ok k) : y = .none ∧ k = (n == nonD x) := by
  cases y <;> first
    | (injection e with e; exact ⟨rfl, e.symm⟩)
    | cases e
theorem in_cases {n : Bool} {x y : D} {k : Bool} (e : inD n x y = .ok k) : (∃ ys, y = .list ys ∧ shB x = true ∧ shB (.list ys) = true ∧ k = (n == ys.any fun z => PyData.eqv z x)) ∨
    (∃ ys, y = .tuple ys ∧ shB x = true ∧ shB (.tuple ys) = true ∧ k = (n == ys.any fun z => PyData.eqv z x)) ∨ (∃ a b, x = .str a ∧ y = .str b ∧ k = (n == !(Builtin.Str.occurrences b a 0 b.length 1).isEmpty)) := by
  cases y with
  | list ys =>
    unfold inD at e; dsimp only at e
    by_cases h : shB x = true ∧ shB (.list ys) = true
    · rw [if_pos h] at e
      injection e with e
      exact .inl ⟨ys, rfl, h.1, h.2, e.symm⟩
    · rw [if_neg h] at e; cases e
  | tuple ys =>
    unfold inD at e; dsimp only at e
    by_cases h : shB x = true ∧ shB (.tuple ys) = true
    · rw [if_pos h] at e
      injection e with e
      exact .inr (.inl ⟨ys, rfl, h.1, h.2, e.symm⟩)
    · rw [if_neg h] at e; cases e
  | str b =>
    cases x <;> first
      | (injection e with e; exact .inr (.inr ⟨_, b, rfl, rfl, e.symm⟩))
      | cases e
  | _ => cases e
theorem beq_true' (b : Bool) : (true == b) = b := by cases b <;> rfl
theorem beq_false' (b : Bool) : (false == b) = !b := by cases b <;> rfl

theorem op_inTD (hu : X.A.units + 65 < cLine) : OpR X (compareOp .In) (fun x y H Q => ∃ d ds, Dp X.K H x d ∧ Dp X.K H y (.tuple ds) ∧ SeqAt.shaped d = true ∧ SeqAt.shaped (.tuple ds) = true ∧ Q (.bl (ds.any fun z => PyData.eqv z d)) H) := by
  intro pins s σ H x y v u Q I rx ry h
  obtain ⟨d, ds, hd, he, sd, se, q⟩ := h
  obtain ⟨as, r1⟩ := Dp.reads I d x v hd rx
  obtain ⟨bs, r2⟩ := Dp.reads I (.tuple ds) y u he ry
  exact SeqAt.in_tuple_reads r2 r1 (SeqAt.canLay_of_shaped se) (SeqAt.canLay_of_shaped sd) (room_in_shaped sd hu) ⟨.bl _, H, I, rfl, q⟩
theorem op_notInTD (hu : X.A.units + 65 < cLine) : OpR X (compareOp .NotIn) (fun x y H Q => ∃ d ds, Dp X.K H x d ∧ Dp X.K H y (.tuple ds) ∧ SeqAt.shaped d = true ∧ SeqAt.shaped (.tuple ds) = true ∧ Q (.bl (!ds.any fun z => PyData.eqv z d)) H) := by
  intro pins s σ H x y v u Q I rx ry h
  obtain ⟨d, ds, hd, he, sd, se, q⟩ := h
  obtain ⟨as, r1⟩ := Dp.reads I d x v hd rx
  obtain ⟨bs, r2⟩ := Dp.reads I (.tuple ds) y u he ry
  exact SeqAt.notIn_tuple_reads r2 r1 (SeqAt.canLay_of_shaped se) (SeqAt.canLay_of_shaped sd) (room_in_shaped sd hu) ⟨.bl _, H, I, rfl, q⟩
theorem non_iff {K : PySem.W.Frag} {S H : Hp} {v : V} {d : D} (h : DpP K S H v d) : decide (v = .non) = nonD d := by
  rcases h with h | ⟨a, vs, ds, rfl, rfl, _, _⟩
  · cases h <;> rfl
  · rfl
theorem op_cm (hu : X.A.units + 65 < cLine) (c : Cm) : ∃ r, OpR X (compareOp (cmOp c)) r ∧ CmGives X.K r c := by
  have ord : ∀ {op : CmpOp} {p : Int → Int → Bool} {c : Cm}, OpR X (compareOp op) (rI0 fun i j => .bl (p i j)) → (∀ x y, cmD c x y = ordD p x y) → cmOp c = op → ∃ r, OpR X (compareOp (cmOp c)) r ∧ CmGives X.K r c := fun {op p c} o hc ho => by
    subst ho
    refine ⟨_, o, fun S H x y dx dy k Q s hx hy e q => ?_⟩
    rw [hc] at e
    obtain ⟨i, j, rfl, rfl, rfl⟩ := ord_cases e
    cases hx.int; cases hy.int
    exact ⟨i, j, rfl, rfl, q⟩
  cases c with
  | eq => exact ⟨_, op_eqD (by omega), fun S H x y dx dy k Q s hx hy e q => by
      obtain ⟨h1, h2, rfl⟩ := eq_cases e
      rw [beq_true'] at q
      exact ⟨dx, dy, hx.dp s, hy.dp s, h1, h2, q⟩⟩
  | ne => exact ⟨_, op_neD (by omega), fun S H x y dx dy k Q s hx hy e q => by
      obtain ⟨h1, h2, rfl⟩ := eq_cases e
      rw [beq_false'] at q
      exact ⟨dx, dy, hx.dp s, hy.dp s, h1, h2, q⟩⟩
  | lt => exact ord op_lt (fun _ _ => rfl) rfl
  | le => exact ord op_le (fun _ _ => rfl) rfl
  | gt => exact ord op_gt (fun _ _ => rfl) rfl
  | ge => exact ord op_ge (fun _ _ => rfl) rfl
  | isN => exact ⟨_, op_isN, fun S H x y dx dy k Q s hx hy e q => by
      obtain ⟨rfl, rfl⟩ := is_cases e
      cases hy.non
      rw [beq_true', ← non_iff hx] at q
      exact ⟨rfl, q⟩⟩
  | notN => exact ⟨_, op_notN, fun S H x y dx dy k Q s hx hy e q => by
      obtain ⟨rfl, rfl⟩ := is_cases e
      cases hy.non
      rw [beq_false', ← non_iff hx] at q
      exact ⟨rfl, q⟩⟩
  | inn => exact ⟨_, (op_inD hu).or ((op_inTD hu).or op_in_str), fun S H x y dx dy k Q s hx hy e q => by
      rcases in_cases e with ⟨ys, rfl, h1, h2, rfl⟩ | ⟨ys, rfl, h1, h2, rfl⟩ | ⟨a, b, rfl, rfl, rfl⟩
      · rw [beq_true'] at q; exact .inl ⟨dx, ys, hx.dp s, hy.dp s, h1, h2, q⟩
      · rw [beq_true'] at q; exact .inr (.inl ⟨dx, ys, hx.dp s, hy.dp s, h1, h2, q⟩)
      · cases hx.str; cases hy.str; rw [beq_true'] at q; exact .inr (.inr ⟨_, _, rfl, rfl, q⟩)⟩
  | notIn => exact ⟨_, (op_notInD hu).or ((op_notInTD hu).or L2.op_notin_str), fun S H x y dx dy k Q s hx hy e q => by
      rcases in_cases e with ⟨ys, rfl, h1, h2, rfl⟩ | ⟨ys, rfl, h1, h2, rfl⟩ | ⟨a, b, rfl, rfl, rfl⟩
      · rw [beq_false'] at q; exact .inl ⟨dx, ys, hx.dp s, hy.dp s, h1, h2, q⟩
      · rw [beq_false'] at q; exact .inr (.inl ⟨dx, ys, hx.dp s, hy.dp s, h1, h2, q⟩)
      · cases hx.str; cases hy.str; rw [beq_false'] at q; exact .inr (.inr ⟨_, _, rfl, rfl, q⟩)⟩
theorem hu_room {k : Nat} {A : Around} (r : Room k A) : A.units + 65 < cLine := by have := r.un; omega
theorem mark_of (b : Expr) {c : Cm} (h : c ≠ .inn := by decide) (h2 : c ≠ .notIn := by decide) : behindInMarks (cmOp c) b = false :=
  nomark b (by intro e; cases c <;> first | exact h rfl | exact h2 rfl | cases e) (by intro e; cases c <;> first | exact h rfl | exact h2 rfl | cases e)
/-- a comparison as a value (hm: mark_of _; of in, not in: rfl) -/
theorem ve_cmp (c : Cm) {fa fb : Env → Out D} (hu : X.A.units + 65 < cLine) (ha : VP X W a fa) (hb : VP X W b fb) (hm : behindInMarks (cmOp c) b = false) : VE X W (.Compare a [cmOp c] [b] pos) (eB (bCm c fa fb)) := by
  obtain ⟨r, o, g⟩ := op_cm hu c
  refine PE_imp (pe_cmpR o ha hb hm) fun σ H Q ⟨B, S, env, sr, q⟩ => ?_
  refine two (R := fun k S' H' => ∀ v, Dp X.K S' v (.bool k) → Q v H') sr (Post.map q) fun x y dx dy S2 H2 ex sr2 hx hy q2 => ?_
  obtain ⟨k, e⟩ := Out.quiet (cm_quiet c dx dy) q2
  rw [e] at q2
  exact g S2 H2 x y dx dy k Q sr2.sub hx hy e (Post.now sr2.sub q2 _ (.bl _))
/-- .. as a test -/
theorem vt_cmp (c : Cm) {fa fb : Env → Out D} (hu : X.A.units + 65 < cLine) (ha : VP X W a fa) (hb : VP X W b fb) (hm : behindInMarks (cmOp c) b = false) : VT X W (.Compare a [cmOp c] [b] pos) (bCm c fa fb) := by
  obtain ⟨r, o, g⟩ := op_cm hu c
  refine PT_imp (pt_cmpR o ha hb hm) fun σ H Q ⟨B, S, env, sr, q⟩ => ?_
  refine two sr q fun x y dx dy S2 H2 ex sr2 hx hy q2 => ?_
  obtain ⟨k, e⟩ := Out.quiet (cm_quiet c dx dy) q2
  rw [e] at q2
  exact g S2 H2 x y dx dy k _ sr2.sub hx hy e ⟨k, rfl, Post.now sr2.sub q2⟩

/-! ### tests -/
theorem tru_of {K : PySem.W.Frag} {S H : Hp} {v : V} {d : D} {k : Bool} (s : Same S H) (h : DpP K S H v d) (e : truD d = .ok k) : TruV K v H k := by
  cases d with
  | none => cases h.non; cases e; rfl
  | bool b => cases h.bl; cases e; rfl
  | int i => cases h.int; cases e; rfl
  | str x => cases e
  | list ds =>
    obtain ⟨a, vs, rfl, hh, hd⟩ := h.lst s
    cases e
    refine .inl ⟨vs, hh, ?_⟩
    cases hd <;> rfl
  | tuple ds =>
    obtain ⟨a, vs, rfl, _, hh, hd, _⟩ := h.tup s
    cases e
    refine .inr (.inl ⟨vs, hh, ?_⟩)
    cases hd <;> rfl
  | dict _ => cases e
theorem tru_quiet (x : D) : (∃ d, truD x = .ok d) ∨ truD x = .bad := by
  cases x <;> first | exact .inl ⟨_, rfl⟩ | exact .inr rfl
/-- any expression by its truth -/
theorem vt_tru {fa : Env → Out D} (ha : VP X W a fa) (he : ∀ whole, isTrue a X.env whole = (do let v ← whole; standAt a.pos; holding [v] (truthy v)) := by intro _; rfl) : VT X W a (bTru fa) :=
  PT_imp (pt_truth ha he) fun σ H Q ⟨B, S, env, sr, q⟩ => ⟨B, S, env, sr, (Post.bind q).imp fun d S1 H1 ex q1 v hv => by
    obtain ⟨k, e⟩ := Out.quiet (tru_quiet d) q1
    rw [e] at q1
    exact ⟨k, tru_of ex.sub hv e, Post.now ex.sub q1⟩⟩
theorem vt_not {f : Env → Out Bool} (ha : VT X W a f) : VT X W (.UnaryOp .Not a pos) (bNot f) := PT_imp (pt_not ha) fun σ H Q ⟨B, S, env, sr, q⟩ => ⟨B, S, env, sr, (Post.bind q).imp fun d S1 H1 ex q1 => Post.now ex.sub q1⟩
abbrev VW (X : Cx) (W : WX) (e : Expr) (f : Env → Out Bool) : Prop := PW X e (tT X.K X.mg W f)
theorem vw_and1 {f : Env → Out Bool} (ha : VT X W a f) : VW X W (.BoolOp .And [a] pos) f := pw_and1 ha
theorem vw_or1 {f : Env → Out Bool} (ha : VT X W a f) : VW X W (.BoolOp .Or [a] pos) f := pw_or1 ha
theorem vw_and {rest : List Expr} {f g : Env → Out Bool} (ha : VT X W a f) (hb : VW X W (.BoolOp .And (b :: rest) pos) g) : VW X W (.BoolOp .And (a :: b :: rest) pos) (bAnd f g) :=
  PW_imp (pw_and ha hb) fun σ H Q ⟨B, S, env, sr, q⟩ => ⟨B, S, env, sr, (Post.bind q).imp fun d S1 H1 ex q1 => by
    cases d with
    | true => exact ⟨B, S1, env, sr.ext ex, q1⟩
    | false => exact Post.now ex.sub q1⟩
theorem vw_or {rest : List Expr} {f g : Env → Out Bool} (ha : VT X W a f) (hb : VW X W (.BoolOp .Or (b :: rest) pos) g) : VW X W (.BoolOp .Or (a :: b :: rest) pos) (bOr f g) :=
  PW_imp (pw_or ha hb) fun σ H Q ⟨B, S, env, sr, q⟩ => ⟨B, S, env, sr, (Post.bind q).imp fun d S1 H1 ex q1 => by
    cases d with
    | true => exact Post.now ex.sub q1
    | false => exact ⟨B, S1, env, sr.ext ex, q1⟩⟩
theorem VW.t {f : Env → Out Bool} (h : VW X W e f) : VT X W e f := PW.pt h
/-! .. as values -/
/-- not e -/
theorem ve_not {fa : Env → Out D} (ha : VP X W a fa) : VE X W (.UnaryOp .Not a pos) (eB (bNot (bTru fa))) := PE_imp (pe_notT ha) fun σ H Q ⟨B, S, env, sr, q⟩ => ⟨B, S, env, sr, by
  have q1 := Post.bind (Post.bind (Post.map q))
  exact q1.imp fun d S1 H1 ex q2 v hv => by
    obtain ⟨k, e⟩ := Out.quiet (tru_quiet d) q2
    rw [e] at q2
    exact ⟨k, tru_of ex.sub hv e, Post.now ex.sub (Post.now ex.sub q2) _ (.bl _)⟩⟩
def eOne (f : Env → Out D) : Env → Out D := f
/-- a and b, a or b, all of them bools -/
def eAnd (f g : Env → Out D) : Env → Out D := fun env => (f env).bind fun x => (isB x).bind fun c => if c then g env else .ok (.bool false)
def eOr (f g : Env → Out D) : Env → Out D := fun env => (f env).bind fun x => (isB x).bind fun c => if c then .ok (.bool true) else g env
theorem isB_bl {K : PySem.W.Frag} {S : Hp} {v : V} {d : D} (h : Dp K S v d) {mg : Str → Option Value} {σ : St} {H : Hp} {R : D → Hp → Hp → Prop} {k : Bool → Out D} (q : Post K mg W σ S H ((isB d).bind k) R) : ∃ c, d = .bool c ∧ v = .bl c ∧ Post K mg W σ S H (k c) R := by
  cases h with
  | bl c => exact ⟨c, rfl, rfl, q⟩
  | _ => exact (show False from q).elim
theorem ve_one {op : BoolOp} {f : Env → Out D} (ha : VE X W a f) : VE X W (.BoolOp op [a] pos) f := pe_one ha
theorem ve_and {rest : List Expr} {f g : Env → Out D} (ha : VE X W a f) (hb : VE X W (.BoolOp .And (b :: rest) pos) g) : VE X W (.BoolOp .And (a :: b :: rest) pos) (eAnd f g) :=
  PE_imp (pe_and ha hb) fun σ H Q ⟨B, S, env, sr, q⟩ => ⟨B, S, env, sr, (Post.bind q).imp fun d S1 H1 ex q1 v hv => by
    obtain ⟨c, rfl, rfl, q2⟩ := isB_bl hv q1
    refine ⟨c, rfl, ?_⟩
    cases c with
    | true => exact ⟨B, S1, env, sr.ext ex, q2⟩
    | false => exact Post.now ex.sub q2 _ (.bl _)⟩
theorem ve_or {rest : List Expr} {f g : Env → Out D} (ha : VE X W a f) (hb : VE X W (.BoolOp .Or (b :: rest) pos) g) : VE X W (.BoolOp .Or (a :: b :: rest) pos) (eOr f g) :=
  PE_imp (pe_or ha hb) fun σ H Q ⟨B, S, env, sr, q⟩ => ⟨B, S, env, sr, (Post.bind q).imp fun d S1 H1 ex q1 v hv => by
    obtain ⟨c, rfl, rfl, q2⟩ := isB_bl hv q1
    refine ⟨c, rfl, ?_⟩
    cases c with
    | true => exact Post.now ex.sub q2 _ (.bl _)
    | false => exact ⟨B, S1, env, sr.ext ex, q2⟩⟩
theorem ve_if {c : Expr} {f : Env → Out Bool} {g h : Env → Out D} (hc : VT X W c f) (ha : VE X W a g) (hb : VE X W b h) : VE X W (.IfExp c a b pos) (eIf f g h) :=
  PE_imp (pe_ifExp hc ha hb) fun σ H Q ⟨B, S, env, sr, q⟩ => ⟨B, S, env, sr, (Post.bind q).imp fun k S1 H1 ex q1 => by
    cases k with
    | true => exact ⟨B, S1, env, sr.ext ex, q1⟩
    | false => exact ⟨B, S1, env, sr.ext ex, q1⟩⟩
/-- .. that may be looked at -/
theorem vp_if {c : Expr} {f : Env → Out Bool} {g h : Env → Out D} (hc : VT X W c f) (ha : VP X W a g) (hb : VP X W b h) : VP X W (.IfExp c a b pos) (eIf f g h) :=
  PE_imp (pe_ifExp hc ha hb) fun σ H Q ⟨B, S, env, sr, q⟩ => ⟨B, S, env, sr, (Post.bind q).imp fun k S1 H1 ex q1 => by
    cases k with
    | true => exact ⟨B, S1, env, sr.ext ex, q1⟩
    | false => exact ⟨B, S1, env, sr.ext ex, q1⟩⟩

/-! ### a chain of comparisons -/
/-- the right sides, each by its rule -/
inductive VCh (X : Cx) (W : WX) : List CmpOp → List Expr → List (Cm × (Env → Out D)) → Prop
  | one {c : Cm} {b : Expr} {f : Env → Out D} (hb : VP X W b f) : VCh X W [cmOp c] [b] [(c, f)]
  | more {c : Cm} {b : Expr} {f : Env → Out D} {ops : List CmpOp} {es : List Expr} {l : List (Cm × (Env → Out D))} (hb : VP X W b f) (r : VCh X W ops es l) : VCh X W (cmOp c :: ops) (b :: es) ((c, f) :: l)
theorem VCh.ne {ops : List CmpOp} {es : List Expr} {l : List (Cm × (Env → Out D))} (h : VCh X W ops es l) : ∃ o ops' e es', ops = o :: ops' ∧ es = e :: es' := by
  cases h with
  | one hb => exact ⟨_, _, _, _, rfl, rfl⟩
  | more hb r => exact ⟨_, _, _, _, rfl, rfl⟩
theorem evalEach_cons' {e : Expr} {es : List Expr} {env : PySem.Env} : evalEach (e :: es) env = eval e env :: evalEach es env := rfl
theorem test_run (hu : X.A.units + 65 < cLine) {pos : Pos} {pins : List (Addr × Obj)} {σ : St} : ∀ {ops : List CmpOp} {es : List Expr} {l : List (Cm × (Env → Out D))}, VCh X W ops es l → ∀ {B S H : Hp} {env : Env} {s : Shared} {x : V} {v : Value} {dx : D} {Q : Bool → Hp → Prop},
    Inv X pins σ H s → SR X.K B S env σ H → RelV x v → DpP X.K S H x dx → Post X.K X.mg W σ S H (chD dx l env) (fun b _ H' => Q b H') →
    wpAny (model X.prog X.w) X.A (testChain pos v ops (evalEach es X.env)) (TP X pins σ Q) X.xe s := by
  intro ops es l hc
  induction hc with
  | @one c b f hb =>
    intro B S H env s x v dx Q I sr rx hx q
    obtain ⟨r, o, g⟩ := op_cm hu c
    refine test_last (thn (hb.run pins s σ H _ I ⟨B, S, env, sr, (Post.bind q).imp fun dy S1 H1 ex q1 y hy => (⟨S1, dy, ex, q1, hy⟩ : ∃ S1 dy, Ext S H S1 H1 ∧ Post X.K X.mg W σ S1 H1 ((cmD c dx dy).bind fun b => if b then chD dy [] env else .ok false) (fun b _ H' => Q b H') ∧ DpP X.K S1 H1 y dy)⟩) fun u s1 ⟨y, H1, I1, ry, S1, dy, ex, q1, hy⟩ => ?_)
    obtain ⟨k, e⟩ := Out.quiet (cm_quiet c dx dy) (Post.bind q1)
    refine thn (o pins s1 σ H1 x y v u (fun z H2 => z = .bl k ∧ H2 = H1) I1 rx ry (g S1 H1 x y dx dy k _ ex.sub (hx.ext ex) hy e ⟨rfl, rfl⟩)) fun c2 s2 ⟨z, H2, I2, rz, e1, e2⟩ => ?_
    subst e1 e2
    cases rz
    rw [e] at q1
    have q2 : Q k H2 := by
      cases k with
      | true => exact Post.now ex.sub q1
      | false => exact Post.now ex.sub q1
    exact wpAny_truthy_bool ⟨H2, I2, q2⟩
  | @more c b f ops es l hb r ih =>
    intro B S H env s x v dx Q I sr rx hx q
    obtain ⟨rr, o, g⟩ := op_cm hu c
    obtain ⟨o2, ops2, e2, es2, rfl, rfl⟩ := r.ne
    show wpAny _ _ (testChain pos v (cmOp c :: o2 :: ops2) (eval b X.env :: eval e2 X.env :: evalEach es2 X.env)) _ _ s
    refine test_link (thn (hb.run pins s σ H _ I ⟨B, S, env, sr, (Post.bind q).imp fun dy S1 H1 ex q1 y hy => (⟨S1, dy, ex, q1, hy⟩ : ∃ S1 dy, Ext S H S1 H1 ∧ Post X.K X.mg W σ S1 H1 ((cmD c dx dy).bind fun b => if b then chD dy l env else .ok false) (fun b _ H' => Q b H') ∧ DpP X.K S1 H1 y dy)⟩) fun u s1 ⟨y, H1, I1, ry, S1, dy, ex, q1, hy⟩ => ?_)
    obtain ⟨k, e⟩ := Out.quiet (cm_quiet c dx dy) (Post.bind q1)
    refine thn (o pins s1 σ H1 x y v u (fun z H2 => z = .bl k ∧ H2 = H1) I1 rx ry (g S1 H1 x y dx dy k _ ex.sub (hx.ext ex) hy e ⟨rfl, rfl⟩)) fun c2 s2 ⟨z, H2, I2, rz, e1, e3⟩ => ?_
    subst e1 e3
    cases rz
    rw [e] at q1
    refine wpAny_truthy_bool ?_
    cases k with
    | true => exact ite_tt (ih I2 (sr.ext ex) ry hy q1)
    | false => exact ite_ff ⟨H2, I2, Post.now ex.sub q1⟩
theorem chain_run (hu : X.A.units + 65 < cLine) {pos : Pos} {pins : List (Addr × Obj)} {σ : St} : ∀ {ops : List CmpOp} {es : List Expr} {l : List (Cm × (Env → Out D))}, VCh X W ops es l → ∀ {B S H : Hp} {env : Env} {s : Shared} {x : V} {v : Value} {dx : D} {Q : VK},
    Inv X pins σ H s → SR X.K B S env σ H → RelV x v → DpP X.K S H x dx → Post X.K X.mg W σ S H (chD dx l env) (fun b S' H' => ∀ w, Dp X.K S' w (.bool b) → Q w H') →
    wpAny (model X.prog X.w) X.A (compareChain pos v ops (evalEach es X.env)) (EP X pins σ Q) X.xe s := by
  intro ops es l hc
  induction hc with
  | @one c b f hb =>
    intro B S H env s x v dx Q I sr rx hx q
    obtain ⟨r, o, g⟩ := op_cm hu c
    refine chain_last (thn (hb.run pins s σ H _ I ⟨B, S, env, sr, (Post.bind q).imp fun dy S1 H1 ex q1 y hy => (⟨S1, dy, ex, q1, hy⟩ : ∃ S1 dy, Ext S H S1 H1 ∧ Post X.K X.mg W σ S1 H1 ((cmD c dx dy).bind fun b => if b then chD dy [] env else .ok false) (fun b S' H' => ∀ w, Dp X.K S' w (.bool b) → Q w H') ∧ DpP X.K S1 H1 y dy)⟩) fun u s1 ⟨y, H1, I1, ry, S1, dy, ex, q1, hy⟩ => ?_)
    obtain ⟨k, e⟩ := Out.quiet (cm_quiet c dx dy) (Post.bind q1)
    refine o pins s1 σ H1 x y v u Q I1 rx ry (g S1 H1 x y dx dy k _ ex.sub (hx.ext ex) hy e ?_)
    rw [e] at q1
    cases k with
    | true => exact Post.now ex.sub q1 _ (.bl _)
    | false => exact Post.now ex.sub q1 _ (.bl _)
  | @more c b f ops es l hb r ih =>
    intro B S H env s x v dx Q I sr rx hx q
    obtain ⟨rr, o, g⟩ := op_cm hu c
    obtain ⟨o2, ops2, e2, es2, rfl, rfl⟩ := r.ne
    show wpAny _ _ (compareChain pos v (cmOp c :: o2 :: ops2) (eval b X.env :: eval e2 X.env :: evalEach es2 X.env)) _ _ s
    refine chain_link (thn (hb.run pins s σ H _ I ⟨B, S, env, sr, (Post.bind q).imp fun dy S1 H1 ex q1 y hy => (⟨S1, dy, ex, q1, hy⟩ : ∃ S1 dy, Ext S H S1 H1 ∧ Post X.K X.mg W σ S1 H1 ((cmD c dx dy).bind fun b => if b then chD dy l env else .ok false) (fun b S' H' => ∀ w, Dp X.K S' w (.bool b) → Q w H') ∧ DpP X.K S1 H1 y dy)⟩) fun u s1 ⟨y, H1, I1, ry, S1, dy, ex, q1, hy⟩ => ?_)
    obtain ⟨k, e⟩ := Out.quiet (cm_quiet c dx dy) (Post.bind q1)
    refine thn (o pins s1 σ H1 x y v u (fun z H2 => z = .bl k ∧ H2 = H1) I1 rx ry (g S1 H1 x y dx dy k _ ex.sub (hx.ext ex) hy e ⟨rfl, rfl⟩)) fun c2 s2 ⟨z, H2, I2, rz, e1, e3⟩ => ?_
    subst e1 e3
    cases rz
    rw [e] at q1
    refine wpAny_truthy_bool ?_
    cases k with
    | true => exact ite_tt (ih I2 (sr.ext ex) ry hy q1)
    | false => exact ite_ff ⟨.bl false, H2, I2, rfl, Post.now ex.sub q1 _ (.bl _)⟩
/-- a op b op c .. -/
theorem vt_ch {f : Env → Out D} {o1 o2 : CmpOp} {ops : List CmpOp} {b1 b2 : Expr} {es : List Expr} {l : List (Cm × (Env → Out D))} (hu : X.A.units + 65 < cLine) (ha : VP X W a f) (hc : VCh X W (o1 :: o2 :: ops) (b1 :: b2 :: es) l)
    (hm : lastMarks (o1 :: o2 :: ops) (b1 :: b2 :: es) = false := by with_unfolding_all rfl) : VT X W (.Compare a (o1 :: o2 :: ops) (b1 :: b2 :: es) pos) (bCh f l) := by
  refine ⟨fun pins s σ H Q I ⟨B, S, env, sr, q⟩ => ?_⟩
  refine isTrue_chain (thn (ha.run pins s σ H _ I ⟨B, S, env, sr, (Post.bind q).imp fun dx S1 H1 ex q1 x hx => (⟨S1, dx, ex, q1, hx⟩ : ∃ S1 dx, Ext S H S1 H1 ∧ Post X.K X.mg W σ S1 H1 (chD dx l env) (fun b _ H' => Q b H') ∧ DpP X.K S1 H1 x dx)⟩) fun v s1 ⟨x, H1, I1, rx, S1, dx, ex, q1, hx⟩ => ?_) hm
  exact test_run hu hc I1 (sr.ext ex) rx hx q1
theorem ve_ch {f : Env → Out D} {o1 o2 : CmpOp} {ops : List CmpOp} {b1 b2 : Expr} {es : List Expr} {l : List (Cm × (Env → Out D))} (hu : X.A.units + 65 < cLine) (ha : VP X W a f) (hc : VCh X W (o1 :: o2 :: ops) (b1 :: b2 :: es) l)
    (hm : lastMarks (o1 :: o2 :: ops) (b1 :: b2 :: es) = false := by with_unfolding_all rfl) : VE X W (.Compare a (o1 :: o2 :: ops) (b1 :: b2 :: es) pos) (eB (bCh f l)) := by
  refine ⟨fun pins s σ H Q I ⟨B, S, env, sr, q⟩ => ?_⟩
  refine Compare_chain (thn (ha.run pins s σ H _ I ⟨B, S, env, sr, (Post.bind (Post.map q)).imp fun dx S1 H1 ex q1 x hx => (⟨S1, dx, ex, q1, hx⟩ : ∃ S1 dx, Ext S H S1 H1 ∧ Post X.K X.mg W σ S1 H1 (chD dx l env) (fun b S' H' => ∀ w, Dp X.K S' w (.bool b) → Q w H') ∧ DpP X.K S1 H1 x dx)⟩) fun v s1 ⟨x, H1, I1, rx, S1, dx, ex, q1, hx⟩ => ?_) hm
  exact chain_run hu hc I1 (sr.ext ex) rx hx q1
end
end VI

/-! VI 4: items, slices. -/
namespace VI
open PySem PySem.Spec PyProof.Rows L2

def oneSign (c : Nat) : Str := ⟨#[c]⟩
def idxD : D → D → Out D
  | .list ds, .int i => match atI ds i with | some d => .ok d | none => .bad
  | .tuple ds, .int i => match atI ds i with | some d => .ok d | none => .bad
  | .str z, .int i => if z.length ≤ sizeLine then (match atI z.cps.toList i with | some c => .ok (.str (oneSign c)) | none => .bad) else .bad
  | _, _ => .bad
def cutD (ds : List D) (lo hi : Option Int) : List D := (ds.drop (HT.sIx ds.length 0 lo)).take (HT.sIx ds.length ds.length hi - HT.sIx ds.length 0 lo)
def oNone : Env → Out (Option Int) := fun _ => .ok none
def asI : D → Out Int
  | .int i => .ok i
  | _ => .bad
def oSome (f : Env → Out D) : Env → Out (Option Int) := fun env => (f env).bind fun d => (asI d).bind fun i => .ok (some i)
/-- t[lo:hi] of a tuple, of a text -/
def cutO (d : D) (lo hi : Option Int) : Out D := match d with
  | .tuple ds => .ok (.tuple (cutD ds lo hi))
  | .str z => if z.length ≤ sizeLine then .ok (.str (cutS z lo hi)) else .bad
  | _ => .bad
def cutLO (d : D) (lo hi : Option Int) : Out (List D) := match d with
  | .list ds => .ok (cutD ds lo hi)
  | _ => .bad
def eSl (f : Env → Out D) (lo hi : Env → Out (Option Int)) : Env → Out D := fun env => (f env).bind fun d => (lo env).bind fun l => (hi env).bind fun h => cutO d l h
def fSl (f : Env → Out D) (lo hi : Env → Out (Option Int)) : Env → Out (List D) := fun env => (f env).bind fun d => (lo env).bind fun l => (hi env).bind fun h => cutLO d l h
def revO : D → Out D
  | .tuple ds => .ok (.tuple ds.reverse)
  | _ => .bad
def revLO : D → Out (List D)
  | .list ds => .ok ds.reverse
  | _ => .bad
def f1 (g : D → Out (List D)) (f : Env → Out D) : Env → Out (List D) := fun env => (f env).bind g

section
variable {X : Cx} {W : WX} {a b e : Expr} {pos : Pos}
theorem atI_rel {K : PySem.W.Frag} {S : Hp} {vs : List V} {ds : List D} {i : Int} {d : D} (h : DpAll K S vs ds) (e : atI ds i = some d) : ∃ v, atI vs i = some v ∧ Dp K S v d := by
  unfold atI at e ⊢
  rw [DpAll.length h]
  cases q : ixN ds.length i with
  | none => rw [q] at e; cases e
  | some j =>
    rw [q] at e
    exact DpAll.get h e
theorem ve_idx {fa fb : Env → Out D} (ha : VP X W a fa) (hb : VP X W b fb) (hs : PlainIx b := by intro _ _; rfl) : VE X W (.Subscript a b pos) (e2 idxD fa fb) :=
  PE_imp (pe_ix ix_seq ha hb hs) fun σ H Q ⟨B, S, env, sr, q⟩ => two sr q fun x y dx dy S2 H2 ex sr2 hx hy q2 => by
    cases dy with
    | int i =>
      cases hy.int
      cases dx with
      | list ds =>
        obtain ⟨p, vs, rfl, hh, hd⟩ := hx.lst sr2.sub
        unfold idxD at q2; dsimp only at q2
        cases e : atI ds i with
        | none => rw [e] at q2; exact (show False from q2).elim
        | some d =>
          rw [e] at q2
          obtain ⟨v, e1, hv⟩ := atI_rel hd e
          exact .inl ⟨p, vs, i, v, rfl, rfl, hh, e1, Post.now sr2.sub q2 v hv⟩
      | tuple ds =>
        obtain ⟨p, vs, rfl, _, hh, hd, _⟩ := hx.tup sr2.sub
        unfold idxD at q2; dsimp only at q2
        cases e : atI ds i with
        | none => rw [e] at q2; exact (show False from q2).elim
        | some d =>
          rw [e] at q2
          obtain ⟨v, e1, hv⟩ := atI_rel hd e
          exact .inr (.inl ⟨p, vs, i, v, rfl, rfl, hh, e1, Post.now sr2.sub q2 v hv⟩)
      | str z =>
        cases hx.str
        unfold idxD at q2; dsimp only at q2
        by_cases hz : z.length ≤ sizeLine
        · rw [if_pos hz] at q2
          cases e : atI z.cps.toList i with
          | none => rw [e] at q2; exact (show False from q2).elim
          | some c =>
            rw [e] at q2
            exact .inr (.inr ⟨z, i, c, rfl, rfl, hz, e, Post.now sr2.sub q2 _ (.str _)⟩)
        · rw [if_neg hz] at q2; exact (show False from q2).elim
      | _ => exact (show False from q2).elim
    | _ => cases dx <;> exact (show False from q2).elim

/-! ### slices -/
def tO (K : PySem.W.Frag) (mg : Str → Option Value) (W : WX) (f : Env → Out (Option Int)) : TO := fun σ H Q => ∃ B S env, SR K B S env σ H ∧ Post K mg W σ S H (f env) fun o _ H' => Q o H'
abbrev VO (X : Cx) (W : WX) (e : Option Expr) (f : Env → Out (Option Int)) : Prop := PO X e (tO X.K X.mg W f)
theorem PO_imp {e : Option Expr} {t t' : TO} (h : PO X e t) (i : ∀ σ H Q, t' σ H Q → t σ H Q) : PO X e t' := ⟨fun pins s σ H Q I q => h.run pins s σ H Q I (i σ H Q q)⟩
theorem vo_none : VO X W none oNone := PO_imp po_none fun σ H Q ⟨B, S, env, sr, q⟩ => Post.now sr.sub q
theorem vo_some {f : Env → Out D} (h : VP X W e f) : VO X W (some e) (oSome f) := PO_imp (po_some h) fun σ H Q ⟨B, S, env, sr, q⟩ => ⟨B, S, env, sr, (Post.bind q).imp fun d S1 H1 ex q1 v hv => by
  cases d with
  | int i => cases hv.int; exact ⟨i, rfl, Post.now ex.sub q1⟩
  | _ => exact (show False from q1).elim⟩
theorem cut_rel {K : PySem.W.Frag} {S : Hp} {vs : List V} {ds : List D} (lo hi : Option Int) (h : DpAll K S vs ds) : DpAll K S (cutV vs lo hi) (cutD ds lo hi) := by
  unfold cutV cutD
  rw [DpAll.length h]
  exact DpAll.take _ (DpAll.drop _ h)
theorem cut_whole (ds : List D) {lo hi : Option Int} (h : HT.sIx ds.length 0 lo = 0 ∧ HT.sIx ds.length ds.length hi = ds.length) : cutD ds lo hi = ds := by
  unfold cutD
  rw [h.1, h.2]
  simp
theorem three {K : PySem.W.Frag} {mg : Str → Option Value} {β : Type} {fa : Env → Out D} {fl fh : Env → Out (Option Int)} {g : D → Option Int → Option Int → Out β} {R : β → Hp → Hp → Prop} {Rel : V → Option Int → Option Int → Hp → Prop} {σ : St} {B S H : Hp} {env : Env} (r : SR K B S env σ H)
    (h : Post K mg W σ S H ((fa env).bind fun x => (fl env).bind fun l => (fh env).bind fun u => g x l u) R)
    (k : ∀ x dx l u S2 H2, Ext S H S2 H2 → SR K B S2 env σ H2 → DpP K S2 H2 x dx → Post K mg W σ S2 H2 (g dx l u) R → Rel x l u H2) :
    tP K mg W fa σ H fun x H1 => tO K mg W fl σ H1 fun l H2 => tO K mg W fh σ H2 fun u H3 => Rel x l u H3 :=
  ⟨B, S, env, r, (Post.bind h).imp fun dx S1 H1 ex1 q1 x hx => ⟨B, S1, env, r.ext ex1, (Post.bind q1).imp fun l S2 H2 ex2 q2 => ⟨B, S2, env, (r.ext ex1).ext ex2, (Post.bind q2).imp fun u S3 H3 ex3 q3 =>
    k x dx l u S3 H3 ((ex1.trans ex2).trans ex3) (((r.ext ex1).ext ex2).ext ex3) ((hx.ext ex2).ext ex3) q3⟩⟩⟩
theorem ve_sl {lo hi : Option Expr} {p2 : Pos} {f : Env → Out D} {fl fh : Env → Out (Option Int)} (ha : VP X W a f) (hl : VO X W lo fl) (hh : VO X W hi fh) : VE X W (.Subscript a (.Slice lo hi none p2) pos) (eSl f fl fh) :=
  PE_imp (pe_slice (sl_tupA.or sl_str) ha hl hh) fun σ H Q ⟨B, S, env, sr, q⟩ => three sr q fun x dx l u S2 H2 ex sr2 hx q2 => by
    cases dx with
    | tuple ds =>
      obtain ⟨p, vs, rfl, _, hh, hd, hd'⟩ := hx.tup sr2.sub
      have hlen := DpAll.length hd
      refine .inl ⟨p, vs, rfl, hh, fun z => ?_, fun z p' hp' => ?_⟩
      · rw [hlen] at z
        have q3 : PostV X W σ S2 H2 (.ok (.tuple (cutD ds l u))) Q := q2
        rw [cut_whole ds z] at q3
        exact Post.now sr2.sub q3 _ hd'
      · have ex3 := Ext.laid (o := .tup (cutV vs l u)) sr2.sub hp'
        exact q2 _ _ ex3 _ (.tup (.inl (.inl upd_same)) (DpAll.mono ex3.ss (cut_rel l u hd)))
    | str z =>
      cases hx.str
      unfold cutO at q2; dsimp only at q2
      by_cases hz : z.length ≤ sizeLine
      · rw [if_pos hz] at q2
        exact .inr ⟨z, rfl, hz, Post.now sr2.sub q2 _ (.str _)⟩
      · rw [if_neg hz] at q2; exact (show False from q2).elim
    | _ => exact (show False from q2).elim
theorem vf_sl {lo hi : Option Expr} {p2 : Pos} {f : Env → Out D} {fl fh : Env → Out (Option Int)} (ha : VP X W a f) (hl : VO X W lo fl) (hh : VO X W hi fh) : VF X W (.Subscript a (.Slice lo hi none p2) pos) (fSl f fl fh) :=
  PE_imp (pe_slice sl_list ha hl hh) fun σ H Q ⟨B, S, env, sr, q⟩ => three sr q fun x dx l u S2 H2 ex sr2 hx q2 => by
    cases dx with
    | list ds =>
      obtain ⟨p, vs, rfl, hh, hd⟩ := hx.lst sr2.sub
      refine ⟨p, vs, rfl, hh, fun p' hp' => ?_⟩
      have ex3 := Ext.fresh (o := .lst (cutV vs l u)) sr2.sub hp'
      exact q2 _ _ ex3 p' _ (ex.hh.free hp') (sr2.sub.free hp') upd_same (cut_rel l u hd)
    | _ => exact (show False from q2).elim
/-- xs[::-1] of a list -/
theorem vf_rev {k : Nat} {p1 p2 p3 : Pos} {f : Env → Out D} (ha : VP X W a f) : VF X W (.Subscript a (.Slice none none (some (.UnaryOp .USub (.Constant (.int 1) k p1) p2)) p3) pos) (f1 revLO f) :=
  PE_imp (pe_revL ha) fun σ H Q ⟨B, S, env, sr, q⟩ => ⟨B, S, env, sr, (Post.bind q).imp fun d S1 H1 ex q1 v hv => by
    cases d with
    | list ds =>
      obtain ⟨p, vs, rfl, hh, hd⟩ := hv.lst ex.sub
      refine ⟨p, vs, rfl, hh, fun p' hp' => ?_⟩
      have ex3 := Ext.fresh (o := .lst vs.reverse) ex.sub hp'
      exact q1 _ _ ex3 p' _ (ex.hh.free hp') (ex.sub.free hp') upd_same (DpAll.reverse hd)
    | _ => exact (show False from q1).elim⟩
end
/-! t[::-1] of a tuple -/
section
variable {prog : Program} {w : World} {A : Around} {E : Value → Shared → Prop} {s : Shared}
theorem slicePart_m1 {v : Value} {Q : Option Int → Shared → Prop} (p : IsPart v (some (-1))) (h : Q (some (-1)) s) : wpAny (model prog w) A (Builtin.Slice.slicePartIndex v) Q E s := HT.slicePart_ p h
theorem sliceApplied_rev {sl : Addr} {vl vu vs : Value} {n : Nat} {Q : Int × Int × Nat → Shared → Prop} (hs : s.heap.IsSliceOf sl vl vu vs) (pl : IsPart vl none) (pu : IsPart vu none) (ps : IsPart vs (some (-1)))
    (h : Q ((n : Int) - 1, -1, n) s) : wpAny (model prog w) A (Builtin.Slice.sliceApplied (.ref sl) (pure (n : Int))) Q E s := by
  obtain ⟨os, hos, hcs, hds⟩ := id hs
  unfold Builtin.Slice.sliceApplied Builtin.Slice.sliceFields
  refine wpAny_bind (wpAny_bind (wpAny_field hos hds (x := vl) rfl (wpAny_bind (wpAny_field hos hds (x := vu) rfl (wpAny_bind (wpAny_field hos hds (x := vs) rfl (wpAny_pure ?_)))))))
  refine wpAny_bind (HT.slicePart_ ps ?_)
  show wpAny _ _ (if ((-1 : Int) == 0) = true then _ else _) _ _ s
  rw [if_neg (by decide)]
  refine wpAny_bind (HT.slicePart_ pl (wpAny_bind (HT.slicePart_ pu (wpAny_bind (wpAny_pure ?_)))))
  show wpAny _ _ (match Builtin.Slice.sliceAdjust none none (-1) (n : Int) with | (lo, hi) => pure (lo, (-1 : Int), Builtin.Slice.slicePlaces lo hi (-1))) _ _ s
  have e1 : Builtin.Slice.sliceAdjust none none (-1) (n : Int) = ((n : Int) - 1, -1) := by
    unfold Builtin.Slice.sliceAdjust
    simp
  rw [e1]
  show wpAny _ _ (pure ((n : Int) - 1, (-1 : Int), Builtin.Slice.slicePlaces ((n : Int) - 1) (-1) (-1))) _ _ s
  have e2 : Builtin.Slice.slicePlaces ((n : Int) - 1) (-1) (-1) = n := by
    unfold Builtin.Slice.slicePlaces
    simp
    try omega
  rw [e2]
  exact wpAny_pure h
theorem pick_rev (xs : Array Value) : ((List.range xs.size).filterMap fun (m : Nat) => xs[(((xs.size : Nat) : Int) - 1 + (m : Int) * (-1)).toNat]?).toArray = xs.toList.reverse.toArray := by
  have e : ∀ m ∈ List.range xs.size, xs[(((xs.size : Nat) : Int) - 1 + (m : Int) * (-1)).toNat]? = some (xs.toList.reverse.getD m .none) := fun m hm => by
    have hm' : m < xs.size := List.mem_range.mp hm
    have e1 : (((xs.size : Nat) : Int) - 1 + (m : Int) * (-1)).toNat = xs.size - 1 - m := by omega
    have hl : m < xs.toList.reverse.length := by simpa using hm'
    rw [e1, List.getD_eq_getElem?_getD, List.getElem?_eq_getElem hl]
    rw [List.getElem_reverse]
    simp [show xs.size - 1 - m < xs.size by omega]
  have key : ∀ l : List Nat, (∀ m ∈ l, xs[(((xs.size : Nat) : Int) - 1 + (m : Int) * (-1)).toNat]? = some (xs.toList.reverse.getD m .none)) → (l.filterMap fun (m : Nat) => xs[(((xs.size : Nat) : Int) - 1 + (m : Int) * (-1)).toNat]?) = l.map fun m => xs.toList.reverse.getD m .none := by
    intro l
    induction l with
    | nil => intro _; rfl
    | cons m l ih =>
      intro h
      rw [List.filterMap_cons, h m List.mem_cons_self, List.map_cons]
      rw [ih fun k hk => h k (List.mem_cons_of_mem _ hk)]
  rw [key _ e]
  congr 1
  apply List.ext_getElem
  · simp
  · intro i h1 h2
    simp at h1 h2
    simp [List.getD_eq_getElem?_getD, h1]
theorem getItem_tuple_rev {t sl : Addr} {items : Array Value} {vl vu vs : Value} {Q : Value → Shared → Prop} (ht : IsTup s.heap t items) (hs : s.heap.IsSliceOf sl vl vu vs) (pl : IsPart vl none) (pu : IsPart vu none) (ps : IsPart vs (some (-1)))
    (h : Q (.ref s.heap.objs.size) { s with heap := s.heap.push { cls := .type "tuple", data := .seq items.toList.reverse.toArray } })
    (hsz : items.size ≤ sizeLine) : wpAny (model prog w) A (getItem (.ref t) (.ref sl)) Q E s := by
  have htake : sizeOk (.seq items.toList.reverse.toArray) := by
    show items.toList.reverse.toArray.size ≤ sizeLine
    simpa using hsz
  obtain ⟨os, hos, hcs, hds⟩ := id hs
  have hTs : s.TypeIs (.ref sl) "slice" := ⟨os, hos, hcs⟩
  unfold getItem
  try with_reducible refine wpAny_holding ?_
  first | refine wpAny_bind (wpAny_pure ?_) | skip
  refine wpAny_bind (wpAny_sequenceKey ht.typeIs (by decide) ?_)
  refine wpAny_bind (wpAny_callSpecial?_slot (name := Str.ofString "__getitem__") ht.typeIs PyProof.Rows.slot_tuple_getitem
    (wpAny_call_entry PyProof.Rows.slot_tuple_getitem ht.typeIs entry_tuple_getitem ?_ (args_tuple_getitem _ _)))
  show wpAny _ _ (Builtin.Tuple.tupleItemsOf (.ref t) >>= _) _ _ s
  refine wpAny_bind (tupleItemsOf_ ht ?_)
  refine wpAny_bind (wpAny_typeOf hTs ?_)
  rw [if_pos (by decide)]
  refine wpAny_bind (sliceApplied_rev hs pl pu ps ?_)
  show wpAny _ _ (if ((((items.size : Nat) : Int) - 1) == 0 && (-1 : Int) == 1 && items.size == items.size) = true then _ else _) _ _ s
  rw [if_neg (by simp), pick_rev]
  first
    | exact wpAny_bind (m := Builtin.Tuple.tupleExact _) (wpAny_newObj_type (wpAny_pure ⟨_, rfl, wpAny_pure h⟩) htake)
    | exact wpAny_bind (m := Builtin.Tuple.tupleExact _) (wpAny_newObj_type (wpAny_bind (wpAny_pure (wpAny_pure ⟨_, rfl, wpAny_pure h⟩))) htake)
    | exact wpAny_bind (wpAny_bind (m := Builtin.Tuple.tupleExact _) (wpAny_newObj_type (wpAny_pure (wpAny_pure ⟨_, rfl, wpAny_pure h⟩)) htake))
    | exact wpAny_bind (wpAny_bind (m := Builtin.Tuple.tupleExact _) (wpAny_newObj_type (wpAny_pure ⟨_, rfl, wpAny_pure h⟩) htake))
end
section
variable {X : Cx} {W : WX} {a b e : Expr} {pos : Pos}
def tRevT (K : PySem.W.Frag) (te : TE) : TE := fun σ H Q => te σ H fun x H1 => ∃ a xs, x = .ref a ∧ SqT K H1 a xs ∧ ∀ p, H1 p = none → Q (.ref p) (upd H1 p (.tup xs.reverse))
theorem pe_revT {e : Expr} {te : TE} {k : Nat} {p1 p2 p3 pos : Pos} (he : PE X e te) : PE X (.Subscript e (.Slice none none (some (.UnaryOp .USub (.Constant (.int 1) k p1) p2)) p3) pos) (tRevT X.K te) := by
  refine ⟨fun pins s σ H Q I h => ?_⟩
  refine Subscript_ (thn (he.run pins s σ H _ I h) fun v s1 ⟨x, H1, I1, r1, q1⟩ => ?_)
  obtain ⟨a, xs, ex, hx, q⟩ := q1
  subst ex
  cases r1
  have hst : PO X (some (.UnaryOp .USub (.Constant (.int 1) k p1) p2)) (tPart (tUn (rU fun i => .int (-i)) (tC (.int 1)))) := po_some (pe_un un_neg pe_int)
  refine wpAny_Slice (thn (po_none.run pins s1 σ H1 (fun o H2 => o = none ∧ H2 = H1) I1 ⟨rfl, rfl⟩) fun vl s2 ⟨l, H2, I2, pl, el, e2⟩ => ?_)
  subst el e2
  refine thn (po_none.run pins s2 σ H2 (fun o H3 => o = none ∧ H3 = H2) I2 ⟨rfl, rfl⟩) fun vu s3 ⟨u, H3, I3, pu, eu, e3⟩ => ?_
  subst eu e3
  refine thn (hst.run pins s3 σ H3 (fun o H4 => o = some (-1) ∧ H4 = H3) I3 ⟨1, rfl, -1, rfl, rfl, rfl⟩) fun vs s4 ⟨o, H4, I4, ps, eo, e4⟩ => ?_
  subst eo e4
  have I5 : Inv X pins σ H4 { s4 with heap := s4.heap.push { cls := .type "slice", data := .fields #[vl, vu, vs] } } := I4.kept (t' := s4.toks) fun b ob q => Heap.get?_push_of_some _ q
  obtain ⟨its, r, ht, hz⟩ := I5.tuple hx
  have hlen := r.length
  show wpAny (model X.prog X.w) X.A (subscriptTail e (.Slice none none (some (.UnaryOp .USub (.Constant (.int 1) k p1) p2)) p3) (.ref a) (.ref s4.heap.objs.size)) (EP X pins σ Q) X.xe { s4 with heap := s4.heap.push { cls := .type "slice", data := .fields #[vl, vu, vs] } }
  refine tail_any (ops := [.ref a, .ref s4.heap.objs.size]) ht.typeIs (PyProof.Rows.slot_tuple_getitem.lookup) ?_ (by with_unfolding_all rfl)
  refine getItem_tuple_rev ht (Heap.IsSliceOf.new _ vl vu vs) pl pu ps ?_ (by rw [List.size_toArray]; omega)
  refine ⟨.ref _, _, I5.laid (t' := s4.toks) (o := .tup xs.reverse) (fun b ob q => Heap.get?_push_of_some _ q) (Nat.le_refl _) ?_, rfl, q _ (I5.hok.fresh (Nat.le_refl _))⟩
  exact ⟨by rw [List.length_reverse]; exact hz, its.reverse, r.reverse, _, Heap.get?_push_size _ rfl, rfl, _, rfl⟩
theorem ve_rev {k : Nat} {p1 p2 p3 : Pos} {f : Env → Out D} (ha : VP X W a f) : VE X W (.Subscript a (.Slice none none (some (.UnaryOp .USub (.Constant (.int 1) k p1) p2)) p3) pos) (e1 revO f) :=
  PE_imp (pe_revT ha) fun σ H Q ⟨B, S, env, sr, q⟩ => ⟨B, S, env, sr, (Post.bind q).imp fun d S1 H1 ex q1 v hv => by
    cases d with
    | tuple ds =>
      obtain ⟨p, vs, rfl, _, hh, hd, _⟩ := hv.tup ex.sub
      refine ⟨p, vs, rfl, hh, fun p' hp' => ?_⟩
      have ex3 := Ext.laid (o := .tup vs.reverse) ex.sub hp'
      exact q1 _ _ ex3 _ (.tup (.inl (.inl upd_same)) (DpAll.mono ex3.ss (DpAll.reverse hd)))
    | _ => exact (show False from q1).elim⟩
end
end VI

/-! VI 5: built-in functions. -/
namespace VI
open PySem PySem.Spec PyProof.Rows L2

/-! ### what they give -/
def intsD : List D → Option (List Int)
  | [] => some []
  | .int i :: r => (intsD r).map (i :: ·)
  | _ :: _ => none
theorem intsD_map (ns : List Int) : intsD (ns.map PyData.int) = some ns := by
  induction ns with
  | nil => rfl
  | cons n r ih => rw [List.map_cons]; unfold intsD; rw [ih]; rfl
theorem intsD_some : ∀ {ds : List D} {ns : List Int}, intsD ds = some ns → ds = ns.map PyData.int
  | [], ns, h => by cases h; rfl
  | d :: r, ns, h => by
    cases d with
    | int i =>
      unfold intsD at h
      cases q : intsD r with
      | none => rw [q] at h; cases h
      | some ms =>
        rw [q] at h
        cases h
        rw [intsD_some q]; rfl
    | _ => cases h
def maxI : List Int → Int
  | [] => 0
  | x :: r => r.foldl max x
def minI : List Int → Int
  | [] => 0
  | x :: r => r.foldl min x
def lenG : List D → Out D
  | [.list ds] => .ok (.int ds.length)
  | [.tuple ds] => .ok (.int ds.length)
  | [.str x] => if x.length ≤ sizeLine then .ok (.int x.length) else .bad
  | _ => .bad
def ofInts (g : List Int → Out D) (ds : List D) : Out D := match intsD ds with
  | some ns => g ns
  | none => .bad
def sumG : List D → Out D
  | [.list ds] => ofInts (fun ns => .ok (.int ns.sum)) ds
  | [.tuple ds] => ofInts (fun ns => .ok (.int ns.sum)) ds
  | _ => .bad
def maxL (ns : List Int) : Out D := if ns = [] then .bad else .ok (.int (maxI ns))
def minL (ns : List Int) : Out D := if ns = [] then .bad else .ok (.int (minI ns))
def maxG : List D → Out D
  | [.list ds] => ofInts maxL ds
  | [.int i, .int j] => .ok (.int (if j > i then j else i))
  | _ => .bad
def minG : List D → Out D
  | [.list ds] => ofInts minL ds
  | [.int i, .int j] => .ok (.int (if j < i then j else i))
  | _ => .bad
def absG : List D → Out D
  | [.int i] => .ok (.int (if i < 0 then -i else i))
  | _ => .bad
def intG : List D → Out D
  | [.int i] => .ok (.int i)
  | [.bool b] => .ok (.int (if b then 1 else 0))
  | _ => .bad
def strG : List D → Out D
  | [.int i] => if i.natAbs.log2 < 1920 then .ok (.str (toString i)) else .bad
  | [.str x] => .ok (.str x)
  | _ => .bad
def tupleG : List D → Out D
  | [.list ds] => .ok (.tuple ds)
  | [.tuple ds] => .ok (.tuple ds)
  | _ => .bad
def listG : List D → Out (List D)
  | [.list ds] => .ok ds
  | [.tuple ds] => .ok ds
  | _ => .bad
inductive Ty where | int | bool | str | tuple | list
  deriving DecidableEq
def Ty.name : Ty → String
  | .int => "int" | .bool => "bool" | .str => "str" | .tuple => "tuple" | .list => "list"
def isTy : Ty → D → Bool
  | .int, .int _ => true
  | .int, .bool _ => true
  | .bool, .bool _ => true
  | .str, .str _ => true
  | .tuple, .tuple _ => true
  | .list, .list _ => true
  | _, _ => false
/-- the built-in class of data -/
def tyOf : D → String
  | .none => "NoneType" | .bool _ => "bool" | .int _ => "int" | .str _ => "str" | .list _ => "list" | .tuple _ => "tuple" | .dict _ => "dict"
/-! sorted: what is alike -/
def alikeB (ds : List D) : Bool := ds.all fun d => ds.all fun d' => PySem.W.alike d d'
def sortableB (ds : List D) : Bool := (ds.all fun d => match d with | .tuple (_ :: _) => true | _ => false) || (ds.all fun d => match d with | .none => false | .tuple _ => false | _ => true)
def sortD (ds : List D) : List D := ds.mergeSort (PySem.W.dataLe false id)
def sortOk (ds : List D) : Bool := decide (ds.length ≤ 1) || (alikeB ds && sortableB ds && ds.all fun d => decide (d.depth ≤ 60))
def sortedL (ds : List D) : Out (List D) := if sortOk ds = true then .ok (sortD ds) else .bad
def sortedG : List D → Out (List D)
  | [.list ds] => sortedL ds
  | _ => .bad

section
variable {X : Cx} {W : WX} {a b e : Expr} {pos p : Pos}
def CGives (K : PySem.W.Frag) (r : List V → Hp → VK → Prop) (g : List D → Out D) : Prop :=
  ∀ (S H : Hp) (vs : List V) (ds : List D) (d : D) (Q : VK), Same S H → DpPs K S H vs ds → g ds = .ok d → (∀ S' H' v, Ext S H S' H' → Dp K S' v d → Q v H') → r vs H Q
def CQuiet {α β : Type} (g : α → Out β) : Prop := ∀ ds, (∃ d, g ds = .ok d) ∨ g ds = .bad
def eCall (g : List D → Out D) (f : Env → Out (List D)) : Env → Out D := fun env => (f env).bind g
def fCall (g : List D → Out (List D)) (f : Env → Out (List D)) : Env → Out (List D) := fun env => (f env).bind g
theorem ve_callB {id : String} {x : Str} {es : List Expr} {r : List V → Hp → VK → Prop} {g : List D → Out D} {f : Env → Out (List D)} (hc : CallR X (.builtin id) r) (hG : CGives X.K r g) (hq : CQuiet g) (hm : X.mg x = none) (hv : bootBuiltins x = some (.builtin id)) (ha : VAP X W (e :: es) f)
    (hg : Gl X x := by rfl) (hn : x ≠ "__name__" := by decide) (hdb : (x == ("__debug__" : Str)) = false := by decide)
    (he : starEach (e :: es) X.env = (false, eval e X.env) :: starEach es X.env := by rfl) (hpl : (backTo pos (starEach es X.env)).any (·.1) = false := by rfl) : VE X W (.Call (.Name x p) (e :: es) [] pos) (eCall g f) :=
  PE_imp (pe_callB hc hg hm hv ha hn hdb he hpl) fun σ H Q ⟨B, S, env, sr, q⟩ => ⟨B, S, env, sr, (Post.bind q).imp fun ds S1 H1 ex q1 vs hvs => by
    obtain ⟨d, e⟩ := Out.quiet (hq ds) q1
    rw [e] at q1
    exact hG S1 H1 vs ds d Q ex.sub hvs e fun S' H' v ex' hv => q1 S' H' ex' v hv⟩
theorem ve_callTy {T : String} {x : Str} {es : List Expr} {r : List V → Hp → VK → Prop} {g : List D → Out D} {f : Env → Out (List D)} (hc : CallR X (.type T) r) (hG : CGives X.K r g) (hq : CQuiet g) (hm : X.mg x = none) (hv : bootBuiltins x = some (.type T)) (ha : VAP X W (e :: es) f)
    (hg : Gl X x := by rfl) (hn : x ≠ "__name__" := by decide) (hdb : (x == ("__debug__" : Str)) = false := by decide)
    (he : starEach (e :: es) X.env = (false, eval e X.env) :: starEach es X.env := by rfl) (hpl : (backTo pos (starEach es X.env)).any (·.1) = false := by rfl) : VE X W (.Call (.Name x p) (e :: es) [] pos) (eCall g f) :=
  PE_imp (pe_callTy hc hg hm hv ha hn hdb he hpl) fun σ H Q ⟨B, S, env, sr, q⟩ => ⟨B, S, env, sr, (Post.bind q).imp fun ds S1 H1 ex q1 vs hvs => by
    obtain ⟨d, e⟩ := Out.quiet (hq ds) q1
    rw [e] at q1
    exact hG S1 H1 vs ds d Q ex.sub hvs e fun S' H' v ex' hv => q1 S' H' ex' v hv⟩

theorem DpPs.one {K : PySem.W.Frag} {S H : Hp} {vs : List V} {d : D} (h : DpPs K S H vs [d]) : ∃ v, vs = [v] ∧ DpP K S H v d := by
  cases h with
  | cons a t => cases t; exact ⟨_, rfl, a⟩
theorem DpPs.two {K : PySem.W.Frag} {S H : Hp} {vs : List V} {d d' : D} (h : DpPs K S H vs [d, d']) : ∃ v v', vs = [v, v'] ∧ DpP K S H v d ∧ DpP K S H v' d' := by
  cases h with
  | cons a t => cases t with
    | cons b t => cases t; exact ⟨_, _, rfl, a, b⟩

/-! len -/
theorem gives_len : CGives X.K (fun xs H Q => ∃ x n, xs = [x] ∧ LenV X.K x H n ∧ Q (.int n) H) lenG := fun S H vs ds d Q s h e k => by
  match ds, h, e with
  | [.list xs], h, e =>
    obtain ⟨v, rfl, hv⟩ := h.one
    obtain ⟨a, ws, rfl, hh, hd⟩ := hv.lst s
    cases e
    exact ⟨_, _, rfl, .inl ⟨ws, hh, (DpAll.length hd).symm⟩, k S H _ (Ext.refl s) (.int _)⟩
  | [.tuple xs], h, e =>
    obtain ⟨v, rfl, hv⟩ := h.one
    obtain ⟨a, ws, rfl, _, hh, hd, _⟩ := hv.tup s
    cases e
    exact ⟨_, _, rfl, .inr ⟨ws, hh, (DpAll.length hd).symm⟩, k S H _ (Ext.refl s) (.int _)⟩
  | [.str x], h, e =>
    obtain ⟨v, rfl, hv⟩ := h.one
    cases hv.str
    change (if x.length ≤ sizeLine then Out.ok (PyData.int x.length) else Out.bad) = Out.ok d at e
    by_cases hz : x.length ≤ sizeLine
    · rw [if_pos hz] at e
      cases e
      exact ⟨_, x.length, rfl, ⟨hz, rfl⟩, k S H _ (Ext.refl s) (.int _)⟩
    · rw [if_neg hz] at e; cases e
theorem quiet_len : CQuiet lenG := fun ds => by
  unfold lenG
  split
  · exact .inl ⟨_, rfl⟩
  · exact .inl ⟨_, rfl⟩
  · split
    · exact .inl ⟨_, rfl⟩
    · exact .inr rfl
  · exact .inr rfl
theorem ve_len {f : Env → Out D} (hm : X.mg "len" = none) (ha : VP X W a f) (hg : Gl X "len" := by rfl) (hs : starEach [a] X.env = [(false, eval a X.env)] := by rfl) : VE X W (.Call (.Name "len" p) [a] [] pos) (eCall lenG (aCons f aNil)) :=
  ve_callB call_len gives_len quiet_len hm PySem.boot_len (vap_cons ha vap_nil hs) hg (by decide) (by decide) hs rfl

/-! sum -/
theorem ofInts_ok {g : List Int → Out D} {ds : List D} {d : D} (e : ofInts g ds = .ok d) : ∃ ns, ds = ns.map PyData.int ∧ g ns = .ok d := by
  unfold ofInts at e
  cases q : intsD ds with
  | none => rw [q] at e; cases e
  | some ns => rw [q] at e; exact ⟨ns, intsD_some q, e⟩
theorem ofInts_quiet {g : List Int → Out D} (hg : CQuiet g) (ds : List D) : (∃ d, ofInts g ds = .ok d) ∨ ofInts g ds = .bad := by
  unfold ofInts
  split
  · exact hg _
  · exact .inr rfl
theorem cr_sumT (hc : X.calm = true) : CallR X (.builtin "sum") (fun vs H Q => ∃ (a : Addr) (ns : List Int), vs = [V.ref a] ∧ SqT X.K H a (ns.map V.int) ∧ Q (.int ns.sum) H) := by
  intro pins s σ H vs us Q I r h
  obtain ⟨a, ns, rfl, hs, q⟩ := h
  obtain ⟨its, rv, ht, _⟩ := I.tuple hs
  rw [Vals.ref1 r]
  have hi := rv.ints
  obtain ⟨xs, e⟩ := hi.allInts.items
  have hn : numsOf (intItems xs).toList = ns := by rw [← e]; exact hi.numsOf
  rw [nums_intItems] at hn
  have ht' : s.heap.IsTuple a its.toArray := ht
  rw [e] at ht'
  refine PySem.W.ktm_sumG (I.ok.hd hc) ht' fun h' tk t' hk => ?_
  rw [preSum_eq, List.take_of_length_le (by simp), hn]
  exact ⟨.int _, H, I.kept hk, ⟨_, rfl⟩, q⟩
theorem gives_sum : CGives X.K (fun vs H Q => rSum X.K vs H Q ∨ (∃ (a : Addr) (ns : List Int), vs = [V.ref a] ∧ SqT X.K H a (ns.map V.int) ∧ Q (.int ns.sum) H)) sumG := fun S H vs ds d Q s h e k => by
  match ds, h, e with
  | [.list xs], h, e =>
    obtain ⟨v, rfl, hv⟩ := h.one
    obtain ⟨a, ws, rfl, hh, hd⟩ := hv.lst s
    obtain ⟨ns, rfl, e'⟩ := ofInts_ok e
    cases e'
    rw [DpAll.of_ints ns hd] at hh
    exact .inl ⟨a, ns, rfl, hh, k S H _ (Ext.refl s) (.int _)⟩
  | [.tuple xs], h, e =>
    obtain ⟨v, rfl, hv⟩ := h.one
    obtain ⟨a, ws, rfl, _, hh, hd, _⟩ := hv.tup s
    obtain ⟨ns, rfl, e'⟩ := ofInts_ok e
    cases e'
    rw [DpAll.of_ints ns hd] at hh
    exact .inr ⟨a, ns, rfl, hh, k S H _ (Ext.refl s) (.int _)⟩
theorem quiet_sum : CQuiet sumG := fun ds => by
  unfold sumG
  split
  · exact ofInts_quiet (fun _ => .inl ⟨_, rfl⟩) _
  · exact ofInts_quiet (fun _ => .inl ⟨_, rfl⟩) _
  · exact .inr rfl
theorem ve_sum {f : Env → Out D} (hm : X.mg "sum" = none) (ha : VP X W a f) (hc : X.calm = true := by rfl) (hg : Gl X "sum" := by rfl) (hs : starEach [a] X.env = [(false, eval a X.env)] := by rfl) : VE X W (.Call (.Name "sum" p) [a] [] pos) (eCall sumG (aCons f aNil)) :=
  ve_callB ((cr_sum hc).or (cr_sumT hc)) gives_sum quiet_sum hm (by decide +kernel) (vap_cons ha vap_nil hs) hg (by decide) (by decide) hs rfl

/-! max, min -/
theorem foldl_max_mem : ∀ (r : List Int) (x : Int), r.foldl max x ∈ x :: r ∧ ∀ y ∈ x :: r, y ≤ r.foldl max x
  | [], x => ⟨by simp, by simp⟩
  | z :: r, x => by
    obtain ⟨h1, h2⟩ := foldl_max_mem r (max x z)
    rw [List.foldl_cons]
    refine ⟨?_, fun y hy => ?_⟩
    · rcases List.mem_cons.mp h1 with e | e
      · rw [e]
        by_cases hxz : x ≤ z
        · rw [Int.max_eq_right hxz]; simp
        · rw [Int.max_eq_left (by omega)]; simp
      · exact List.mem_cons_of_mem _ (List.mem_cons_of_mem _ e)
    · have hm := h2 (max x z) List.mem_cons_self
      rcases List.mem_cons.mp hy with rfl | hy
      · omega
      · rcases List.mem_cons.mp hy with rfl | hy
        · omega
        · exact h2 y (List.mem_cons_of_mem _ hy)
theorem foldl_min_mem : ∀ (r : List Int) (x : Int), r.foldl min x ∈ x :: r ∧ ∀ y ∈ x :: r, r.foldl min x ≤ y
  | [], x => ⟨by simp, by simp⟩
  | z :: r, x => by
    obtain ⟨h1, h2⟩ := foldl_min_mem r (min x z)
    rw [List.foldl_cons]
    refine ⟨?_, fun y hy => ?_⟩
    · rcases List.mem_cons.mp h1 with e | e
      · rw [e]
        by_cases hxz : x ≤ z
        · rw [Int.min_eq_left hxz]; simp
        · rw [Int.min_eq_right (by omega)]; simp
      · exact List.mem_cons_of_mem _ (List.mem_cons_of_mem _ e)
    · have hm := h2 (min x z) List.mem_cons_self
      rcases List.mem_cons.mp hy with rfl | hy
      · omega
      · rcases List.mem_cons.mp hy with rfl | hy
        · omega
        · exact h2 y (List.mem_cons_of_mem _ hy)
theorem maxI_is {ns : List Int} {m : Int} (h : m ∈ ns) (g : ∀ y, y ∈ ns → y ≤ m) : m = maxI ns := by
  cases ns with
  | nil => cases h
  | cons x r =>
    obtain ⟨h1, h2⟩ := foldl_max_mem r x
    exact Int.le_antisymm (h2 m h) (g _ h1)
theorem minI_is {ns : List Int} {m : Int} (h : m ∈ ns) (g : ∀ y, y ∈ ns → m ≤ y) : m = minI ns := by
  cases ns with
  | nil => cases h
  | cons x r =>
    obtain ⟨h1, h2⟩ := foldl_min_mem r x
    exact Int.le_antisymm (g _ h1) (h2 m h)
theorem gives_max : CGives X.K (fun vs H Q => rMax X.K vs H Q ∨ (∃ i j, vs = [.int i, .int j] ∧ Q (.int (if j > i then j else i)) H)) maxG := fun S H vs ds d Q s h e k => by
  match ds, h, e with
  | [.list xs], h, e =>
    obtain ⟨v, rfl, hv⟩ := h.one
    obtain ⟨a, ws, rfl, hh, hd⟩ := hv.lst s
    obtain ⟨ns, rfl, e'⟩ := ofInts_ok e
    clear e
    have e := e'
    unfold maxL at e
    by_cases hn : ns = []
    · rw [if_pos hn] at e; cases e
    · rw [if_neg hn] at e
      cases e
      rw [DpAll.of_ints ns hd] at hh
      refine .inl ⟨a, ns, rfl, hh, List.length_pos_iff.mpr hn, fun m h1 h2 => ?_⟩
      rw [maxI_is h1 h2]
      exact k S H _ (Ext.refl s) (.int _)
  | [.int i, .int j], h, e =>
    obtain ⟨v, v', rfl, h1, h2⟩ := h.two
    cases h1.int; cases h2.int
    cases e
    exact .inr ⟨i, j, rfl, k S H _ (Ext.refl s) (.int _)⟩
theorem gives_min : CGives X.K (fun vs H Q => rMin X.K vs H Q ∨ (∃ i j, vs = [.int i, .int j] ∧ Q (.int (if j < i then j else i)) H)) minG := fun S H vs ds d Q s h e k => by
  match ds, h, e with
  | [.list xs], h, e =>
    obtain ⟨v, rfl, hv⟩ := h.one
    obtain ⟨a, ws, rfl, hh, hd⟩ := hv.lst s
    obtain ⟨ns, rfl, e'⟩ := ofInts_ok e
    clear e
    have e := e'
    unfold minL at e
    by_cases hn : ns = []
    · rw [if_pos hn] at e; cases e
    · rw [if_neg hn] at e
      cases e
      rw [DpAll.of_ints ns hd] at hh
      refine .inl ⟨a, ns, rfl, hh, List.length_pos_iff.mpr hn, fun m h1 h2 => ?_⟩
      rw [minI_is h1 h2]
      exact k S H _ (Ext.refl s) (.int _)
  | [.int i, .int j], h, e =>
    obtain ⟨v, v', rfl, h1, h2⟩ := h.two
    cases h1.int; cases h2.int
    cases e
    exact .inr ⟨i, j, rfl, k S H _ (Ext.refl s) (.int _)⟩
theorem quiet_max : CQuiet maxG := fun ds => by
  unfold maxG
  split
  · exact ofInts_quiet (fun ns => by unfold maxL; split; exact .inr rfl; exact .inl ⟨_, rfl⟩) _
  · exact .inl ⟨_, rfl⟩
  · exact .inr rfl
theorem quiet_min : CQuiet minG := fun ds => by
  unfold minG
  split
  · exact ofInts_quiet (fun ns => by unfold minL; split; exact .inr rfl; exact .inl ⟨_, rfl⟩) _
  · exact .inl ⟨_, rfl⟩
  · exact .inr rfl
theorem ve_max {es : List Expr} {f : Env → Out (List D)} (hm : X.mg "max" = none) (ha : VAP X W (a :: es) f) (hc : X.calm = true := by rfl) (hg : Gl X "max" := by rfl) (he : starEach (a :: es) X.env = (false, eval a X.env) :: starEach es X.env := by rfl) (hpl : (backTo pos (starEach es X.env)).any (·.1) = false := by rfl) :
    VE X W (.Call (.Name "max" p) (a :: es) [] pos) (eCall maxG f) := ve_callB ((cr_max hc).or (call_max2 hc)) gives_max quiet_max hm (by decide +kernel) ha hg (by decide) (by decide) he hpl
theorem ve_min {es : List Expr} {f : Env → Out (List D)} (hm : X.mg "min" = none) (ha : VAP X W (a :: es) f) (hc : X.calm = true := by rfl) (hg : Gl X "min" := by rfl) (he : starEach (a :: es) X.env = (false, eval a X.env) :: starEach es X.env := by rfl) (hpl : (backTo pos (starEach es X.env)).any (·.1) = false := by rfl) :
    VE X W (.Call (.Name "min" p) (a :: es) [] pos) (eCall minG f) := ve_callB ((cr_min hc).or (call_min2 hc)) gives_min quiet_min hm (by decide +kernel) ha hg (by decide) (by decide) he hpl

/-! abs, int, tuple, list -/
theorem ve_abs {f : Env → Out D} (hm : X.mg "abs" = none) (ha : VP X W a f) (hg : Gl X "abs" := by rfl) (hs : starEach [a] X.env = [(false, eval a X.env)] := by rfl) : VE X W (.Call (.Name "abs" p) [a] [] pos) (eCall absG (aCons f aNil)) :=
  ve_callB call_abs (g := absG) (fun S H vs ds d Q s h e k => by
    match ds, h, e with
    | [.int i], h, e =>
      obtain ⟨v, rfl, hv⟩ := h.one
      cases hv.int; cases e
      exact ⟨i, rfl, k S H _ (Ext.refl s) (.int _)⟩) (fun ds => by unfold absG; split; exact .inl ⟨_, rfl⟩; exact .inr rfl) hm (by decide +kernel) (vap_cons ha vap_nil hs) hg (by decide) (by decide) hs rfl
theorem ve_intc {f : Env → Out D} (hm : X.mg "int" = none) (ha : VP X W a f) (hg : Gl X "int" := by rfl) (hs : starEach [a] X.env = [(false, eval a X.env)] := by rfl) : VE X W (.Call (.Name "int" p) [a] [] pos) (eCall intG (aCons f aNil)) :=
  ve_callTy call_int1 (g := intG) (fun S H vs ds d Q s h e k => by
    match ds, h, e with
    | [.int i], h, e =>
      obtain ⟨v, rfl, hv⟩ := h.one
      cases hv.int; cases e
      exact .inl ⟨i, rfl, k S H _ (Ext.refl s) (.int _)⟩
    | [.bool i], h, e =>
      obtain ⟨v, rfl, hv⟩ := h.one
      cases hv.bl; cases e
      exact .inr ⟨i, rfl, k S H _ (Ext.refl s) (.int _)⟩) (fun ds => by unfold intG; split; exact .inl ⟨_, rfl⟩; exact .inl ⟨_, rfl⟩; exact .inr rfl) hm (by decide +kernel) (vap_cons ha vap_nil hs) hg (by decide) (by decide) hs rfl
theorem ve_tuple {f : Env → Out D} (hm : X.mg "tuple" = none) (ha : VP X W a f) (hg : Gl X "tuple" := by rfl) (hs : starEach [a] X.env = [(false, eval a X.env)] := by rfl) : VE X W (.Call (.Name "tuple" p) [a] [] pos) (eCall tupleG (aCons f aNil)) :=
  ve_callTy call_tuple_of (g := tupleG) (fun S H vs ds d Q s h e k => by
    match ds, h, e with
    | [.list xs], h, e =>
      obtain ⟨v, rfl, hv⟩ := h.one
      obtain ⟨a, ws, rfl, hh, hd⟩ := hv.lst s
      cases e
      refine ⟨a, ws, rfl, .inl ⟨hh, fun l hl => ?_⟩⟩
      have ex := Ext.laid (o := .tup ws) s hl
      exact k _ _ _ ex (.tup (.inl (.inl upd_same)) (DpAll.mono ex.ss hd))
    | [.tuple xs], h, e =>
      obtain ⟨v, rfl, hv⟩ := h.one
      obtain ⟨a, ws, rfl, _, hh, hd, hd'⟩ := hv.tup s
      cases e
      exact ⟨a, ws, rfl, .inr ⟨hh, k S H _ (Ext.refl s) hd'⟩⟩) (fun ds => by unfold tupleG; split; exact .inl ⟨_, rfl⟩; exact .inl ⟨_, rfl⟩; exact .inr rfl) hm (by decide +kernel) (vap_cons ha vap_nil hs) hg (by decide) (by decide) hs rfl
theorem vf_list {f : Env → Out D} (hm : X.mg "list" = none) (ha : VP X W a f) (hg : Gl X "list" := by rfl) (hs : starEach [a] X.env = [(false, eval a X.env)] := by rfl) : VF X W (.Call (.Name "list" p) [a] [] pos) (fCall listG (aCons f aNil)) :=
  PE_imp (pe_callTy call_list_of hg hm (by decide +kernel) (vap_cons ha vap_nil hs) (by decide) (by decide) hs rfl) fun σ H Q ⟨B, S, env, sr, q⟩ => ⟨B, S, env, sr, (Post.bind q).imp fun ds S1 H1 ex q1 vs h => by
    match ds, h, q1 with
    | [.list xs], h, q1 =>
      obtain ⟨v, rfl, hv⟩ := h.one
      obtain ⟨a, ws, rfl, hh, hd⟩ := hv.lst ex.sub
      refine ⟨a, ws, rfl, .inl hh, fun l hl => ?_⟩
      exact q1 _ _ (Ext.fresh (o := .lst ws) ex.sub hl) l ws (ex.hh.free hl) (ex.sub.free hl) upd_same hd
    | [.tuple xs], h, q1 =>
      obtain ⟨v, rfl, hv⟩ := h.one
      obtain ⟨a, ws, rfl, _, hh, hd, hd'⟩ := hv.tup ex.sub
      refine ⟨a, ws, rfl, .inr hh, fun l hl => ?_⟩
      exact q1 _ _ (Ext.fresh (o := .lst ws) ex.sub hl) l ws (ex.hh.free hl) (ex.sub.free hl) upd_same hd⟩

/-! isinstance(x, T) -/
theorem tyX_of {K : PySem.W.Frag} {S H : Hp} {v : V} {d : D} (s : Same S H) (h : DpP K S H v d) : TyX K H v (.type (tyOf d)) := by
  have go : ∀ {v d}, Dp K H v d → TyX K H v (.type (tyOf d)) := fun {v d} h => by
    cases h with
    | non => exact .base .non
    | bl b => exact .base (.bl b)
    | int i => exact .base (.int i)
    | str x => exact .base (.str x)
    | @lst a xs ds hs ha =>
      rcases hs with (h | ⟨o, h⟩) | ⟨o, its, n, hk, hc, _⟩
      · exact .base (.lst h)
      · exact .base (.frz h)
      · exact .kList hk hc
    | @tup a xs ds hs ha =>
      rcases hs with (h | ⟨o, h⟩) | ⟨o, its, n, hk, hc, _⟩
      · exact .base (.tup h)
      · exact .fTuple h
      · exact .kTuple hk hc
  exact go (h.dp s)
theorem kit_is (K : PySem.W.Frag) (T : Ty) (d : D) : PySem.W.kitOne K (.type (tyOf d)) (.type T.name) = some (isTy T d) ∨ (∃ kvs, d = .dict kvs) := by
  cases d with
  | dict kvs => exact .inr ⟨kvs, rfl⟩
  | _ => cases T <;> exact .inl (by first | rfl | (show PySem.W.kitOne K _ _ = _; with_unfolding_all rfl))
def isiG (T : Ty) : List D → Out D
  | [d] => .ok (.bool (isTy T d))
  | _ => .bad
theorem ve_isi (T : Ty) {f : Env → Out D} {x : Str} {p2 : Pos} (hm : X.mg "isinstance" = none) (hmT : X.mg x = none) (hvT : bootBuiltins x = some (.type T.name)) (ha : VP X W a f) (hg : Gl X "isinstance" := by rfl) (hgT : Gl X x := by rfl)
    (hn : x ≠ "__name__" := by decide) (hdb : (x == ("__debug__" : Str)) = false := by decide)
    (hs : starEach [a, .Name x p2] X.env = (false, eval a X.env) :: starEach [.Name x p2] X.env := by rfl) (hs2 : starEach [.Name x p2] X.env = [(false, eval (.Name x p2) X.env)] := by rfl) (hpl : (backTo pos (starEach [.Name x p2] X.env)).any (·.1) = false := by rfl) :
    VE X W (.Call (.Name "isinstance" p) [a, .Name x p2] [] pos) (eCall (isiG T) (aCons f aNil)) := by
  have hT : PE X (.Name x p2) (tC (.ty T.name)) := pe_bltn hgT hmT hvT rfl hn hdb
  refine PE_imp (pe_callB call_isi hg hm (by decide +kernel) (pa_cons ha (pa_cons hT pa_nil hs2) hs) (by decide) (by decide) hs hpl) fun σ H Q ⟨B, S, env, sr, q⟩ => ⟨B, S, env, sr, ?_⟩
  have q' : Post X.K X.mg W σ S H ((f env).bind fun d => isiG T [d]) (fun d S' H' => ∀ v, Dp X.K S' v d → Q v H') := by
    have e : eCall (isiG T) (aCons f aNil) env = (f env).bind fun d => isiG T [d] := by
      unfold eCall aCons aNil
      cases f env <;> rfl
    rw [← e]; exact q
  refine (Post.bind q').imp fun d S1 H1 ex q1 v hv => ?_
  refine ⟨v, .ty T.name, .type (tyOf d), .type T.name, isTy T d, rfl, .ty _, tyX_of ex.sub hv, ?_, Post.now ex.sub q1 _ (.bl _)⟩
  rcases kit_is X.K T d with h | ⟨kvs, rfl⟩
  · exact h
  · rcases hv with h | ⟨_, _, _, _, e, _⟩
    · cases h
    · cases e
end
end VI

/-! VI 6: targets; what a loop walks: lists, tuples, ranges, zip, enumerate. -/
namespace VI
open PySem PySem.Spec PyProof.Rows L2

/-! ### targets -/
mutual
inductive Tgt where
  | nm (i : Nat)
  | tp (l : Tgts)
inductive Tgts where
  | nil
  | cons (t : Tgt) (r : Tgts)
end
mutual
def bindT : Tgt → D → Env → Out Env
  | .nm i, d, env => .ok (env.set i (.val d))
  | .tp l, .tuple ds, env => bindTs l ds env
  | .tp _, _, _ => .bad
def bindTs : Tgts → List D → Env → Out Env
  | .nil, [], env => .ok env
  | .cons t r, d :: ds, env => (bindT t d env).bind fun env' => bindTs r ds env'
  | .nil, _ :: _, _ => .bad
  | .cons _ _, [], _ => .bad
end
def Tgts.len : Tgts → Nat
  | .nil => 0
  | .cons _ r => r.len + 1
theorem bindTs_len : ∀ {l : Tgts} {ds : List D} {env env' : Env}, bindTs l ds env = .ok env' → ds.length = l.len
  | .nil, [], _, _, _ => rfl
  | .cons t r, d :: ds, env, env', h => by
    unfold bindTs at h
    cases e : bindT t d env with
    | ok env1 =>
      rw [e] at h
      have := bindTs_len (l := r) (ds := ds) h
      simp [Tgts.len, this]
    | exc c p => rw [e] at h; cases h
    | bad => rw [e] at h; cases h
  | .nil, _ :: _, _, _, h => by unfold bindTs at h; cases h
  | .cons _ _, [], _, _, h => by unfold bindTs at h; cases h
mutual
def Tgt.ix : Tgt → List Nat
  | .nm i => [i]
  | .tp l => l.ix
def Tgts.ix : Tgts → List Nat
  | .nil => []
  | .cons t r => t.ix ++ r.ix
end
/-- the slots but those in vs are as they were -/
def Off (vs : List Nat) (σ σ' : St) : Prop := σ'.length = σ.length ∧ ∀ i, i ∉ vs → σ'[i]? = σ[i]?
theorem Off.refl (vs : List Nat) (σ : St) : Off vs σ σ := ⟨rfl, fun _ _ => rfl⟩
theorem Off.trans {vs ws : List Nat} {σ σ1 σ2 : St} (a : Off vs σ σ1) (b : Off ws σ1 σ2) : Off (vs ++ ws) σ σ2 := ⟨b.1.trans a.1, fun i hi => by
  rw [b.2 i fun z => hi (List.mem_append_right _ z), a.2 i fun z => hi (List.mem_append_left _ z)]⟩
theorem Off.set (i : Nat) (σ : St) (o : Option V) : Off [i] σ (σ.set i o) := ⟨by simp, fun j hj => by rw [List.getElem?_set_ne]; intro e; exact hj (by simp [e])⟩
def tG (K : PySem.W.Frag) (t : Tgt) : TG := fun v σ H Q => ∃ B S env d env', SR K B S env σ H ∧ Dp K S v d ∧ bindT t d env = .ok env' ∧ ∀ σ', Off t.ix σ σ' → SR K B S env' σ' H → Q σ' H
def tGs (K : PySem.W.Frag) (l : Tgts) : TGs := fun vs σ H Q => ∃ B S env ds env', SR K B S env σ H ∧ DpAll K S vs ds ∧ bindTs l ds env = .ok env' ∧ ∀ σ', Off l.ix σ σ' → SR K B S env' σ' H → Q σ' H
theorem PG_imp {X : Cx} {tg : Expr} {t t' : TG} (h : PG X tg t) (i : ∀ v σ H Q, t' v σ H Q → t v σ H Q) : PG X tg t' := ⟨fun pins s σ H v u Q I r q => h.run pins s σ H v u Q I r (i v σ H Q q)⟩
theorem PGs_imp {X : Cx} {ts : List Expr} {t t' : TGs} (h : PGs X ts t) (i : ∀ v σ H Q, t' v σ H Q → t v σ H Q) : PGs X ts t' := ⟨fun pins s σ H v u Q I r q => h.run pins s σ H v u Q I r (i v σ H Q q)⟩
abbrev VG (X : Cx) (tg : Expr) (t : Tgt) : Prop := PG X tg (tG X.K t)
abbrev VGs (X : Cx) (ts : List Expr) (l : Tgts) : Prop := PGs X ts (tGs X.K l)
section
variable {X : Cx} {W : WX} {a b e : Expr} {pos p : Pos}
theorem vg_name (i : Nat) {x : Str} (nd : X.N.Nodup) (hN : X.N[i]? = some x := by rfl) (hx : Loc X.env.scope x := by first | exact Or.inl rfl | exact Or.inr rfl) (hf : X.fn x = true ∨ X.env.scope.names.lookup x = some .local := by first | exact .inl rfl | exact .inr rfl | assumption) : VG X (.Name x pos) (.nm i) :=
  PG_imp (pg_name nd hN hx hf) fun v σ H Q ⟨B, S, env, d, env', sr, hv, e, k⟩ => by
    have e' : env.set i (.val d) = env' := by unfold bindT at e; injection e
    subst e'
    exact k _ (Off.set ..) (sr.setVal hv)
theorem vgs_nil : VGs X [] .nil := PGs_imp pgs_nil fun v σ H Q ⟨B, S, env, ds, env', sr, hv, e, k⟩ => by
  cases hv with
  | nil =>
    have e' : env = env' := by unfold bindTs at e; injection e
    subst e'
    exact ⟨rfl, k _ (Off.refl ..) sr⟩
  | cons _ _ => unfold bindTs at e; cases e
theorem vgs_cons {es : List Expr} {t : Tgt} {r : Tgts} (h1 : VG X e t) (h2 : VGs X es r) (hs : (assignEach (e :: es) X.env).map (·.2) = assign e X.env :: (assignEach es X.env).map (·.2) := by rfl) : VGs X (e :: es) (.cons t r) :=
  PGs_imp (pgs_cons h1 h2 hs) fun v σ H Q ⟨B, S, env, ds, env', sr, hv, e, k⟩ => by
    cases hv with
    | nil => unfold bindTs at e; cases e
    | @cons v vs d ds hd hds =>
      unfold bindTs at e
      cases e1 : bindT t d env with
      | ok env1 =>
        rw [e1] at e
        exact ⟨v, vs, rfl, B, S, env, d, env1, sr, hd, e1, fun σ' of' sr' => ⟨B, S, env1, ds, env', sr', hds, e, fun σ2 of2 sr2 => k σ2 (of'.trans of2) sr2⟩⟩
      | exc c p => rw [e1] at e; cases e
      | bad => rw [e1] at e; cases e
theorem vg_tup {es : List Expr} {k : Nat} {l : Tgts} (hc : X.calm = true) (h : VGs X es l) (hn : (assignEach es X.env).length = l.len := by rfl) (hst : (assignEach es X.env).findIdx? (·.1) = none := by rfl) : VG X (.Tuple es k pos) (.tp l) :=
  PG_imp (pg_tup hc h hn hst) fun v σ H Q ⟨B, S, env, d, env', sr, hv, e, k⟩ => by
    cases d with
    | tuple ds =>
      cases hv with
      | tup hs ha =>
        unfold bindT at e
        exact ⟨_, _, rfl, SqT.mono sr.sub hs, by rw [DpAll.length ha]; exact bindTs_len e, B, S, env, ds, env', sr, ha, e, k⟩
    | _ => unfold bindT at e; cases e
end

/-! ### what is walked -/
/-- J walks ds wherever what stands still at S0 and what is tracked at H0 stand -/
def Walks (K : PySem.W.Frag) (J : It) (S0 H0 : Hp) (ds : List D) : Prop :=
  ∀ S H, Same S0 S → Same H0 H → Same S H → ∀ i, (∀ d, ds[i]? = some d → J.go i H ∧ ∀ x H', J.yld i H x H' → ∃ S', Ext S H S' H' ∧ Dp K S' x d) ∧ (i = ds.length → J.stop i H)
theorem Walks.mono {K : PySem.W.Frag} {J : It} {S0 H0 S1 H1 : Hp} {ds : List D} (w : Walks K J S0 H0 ds) (hs : Same S0 S1) (hh : Same H0 H1) : Walks K J S1 H1 ds := fun S H a b c => w S H (hs.trans a) (hh.trans b) c
/-- of a thing that stands still -/
def tI (K : PySem.W.Frag) (mg : Str → Option Value) (W : WX) (f : Env → Out (List D)) : TI := fun σ H R => ∃ B S env, SR K B S env σ H ∧ Post K mg W σ S H (f env) fun ds S' H' => ∀ J, Walks K J S' S' ds → R J H'
/-- of one that may be the own list of a name -/
def tIp (K : PySem.W.Frag) (mg : Str → Option Value) (W : WX) (f : Env → Out (List D)) : TI := fun σ H R => ∃ B S env, SR K B S env σ H ∧ Post K mg W σ S H (f env) fun ds S' H' => ∀ J, Walks K J S' H' ds → R J H'
theorem PI_imp {X : Cx} {tg iter : Expr} {t t' : TI} (h : PI X tg iter t) (i : ∀ σ H R, t' σ H R → t σ H R) : PI X tg iter t' := ⟨fun pins s σ H R I q => h.run pins s σ H R I (i σ H R q)⟩
abbrev VI (X : Cx) (W : WX) (tg iter : Expr) (f : Env → Out (List D)) : Prop := PI X tg iter (tI X.K X.mg W f)
abbrev VIp (X : Cx) (W : WX) (tg iter : Expr) (f : Env → Out (List D)) : Prop := PI X tg iter (tIp X.K X.mg W f)
/-- the items of a list or a tuple -/
def itemsD : D → Out (List D)
  | .list ds => .ok ds
  | .tuple ds => .ok ds
  | _ => .bad
def iSeq (f : Env → Out D) : Env → Out (List D) := fun env => (f env).bind itemsD
section
variable {X : Cx} {W : WX} {a b e tg iter : Expr} {pos p : Pos}
theorem VI.pk {f : Env → Out (List D)} (h : VI X W tg iter f) : VIp X W tg iter f := PI_imp h fun σ H R ⟨B, S, env, sr, q⟩ => ⟨B, S, env, sr, q.imp fun ds S' H' ex k J w => k J (w.mono (Same.refl _) ex.sub)⟩
theorem walks_list {K : PySem.W.Frag} {S0 H0 S : Hp} {a : Addr} {vs : List V} {ds : List D} (hh : SqL K H0 a vs) (hd : DpAll K S0 vs ds) : Walks K (Itl K a) S0 H0 ds := fun S H ss hs sh i => by
  refine ⟨fun d e => ?_, fun e => ?_⟩
  · obtain ⟨v, e1, dv⟩ := DpAll.get hd e
    refine ⟨⟨vs, v, hs.seq hh, e1⟩, fun x H' y => ?_⟩
    obtain ⟨rfl, y⟩ := y
    have := y vs (hs.seq hh)
    rw [e1] at this
    cases this
    exact ⟨S, Ext.refl sh, Dp.mono ss dv⟩
  · exact ⟨vs, hs.seq hh, by rw [DpAll.length hd, e]; exact Nat.le_refl _⟩
theorem walks_tuple {K : PySem.W.Frag} {S0 H0 S : Hp} {a : Addr} {vs : List V} {ds : List D} (hh : SqT K H0 a vs) (hd : DpAll K S0 vs ds) : Walks K (Itt K a) S0 H0 ds := fun S H ss hs sh i => by
  refine ⟨fun d e => ?_, fun e => ?_⟩
  · obtain ⟨v, e1, dv⟩ := DpAll.get hd e
    refine ⟨⟨vs, v, SqT.mono hs hh, e1⟩, fun x H' y => ?_⟩
    obtain ⟨rfl, y⟩ := y
    have := y vs (SqT.mono hs hh)
    rw [e1] at this
    cases this
    exact ⟨S, Ext.refl sh, Dp.mono ss dv⟩
  · exact ⟨vs, SqT.mono hs hh, by rw [DpAll.length hd, e]; exact Nat.le_refl _⟩
/-- a list or a tuple, whichever it is -/
def iSeqT (K : PySem.W.Frag) (tl : TE) : TI := fun σ H R => tl σ H fun x H1 => (∃ a, x = .ref a ∧ (∃ xs, SqL K H1 a xs) ∧ R (Itl K a) H1) ∨ (∃ a, x = .ref a ∧ (∃ xs, SqT K H1 a xs) ∧ R (Itt K a) H1)
theorem pi_seq {l : Expr} {tl : TE} (hl : PE X l tl) : PI X tg l (iSeqT X.K tl) := by
  refine ⟨fun pins s σ H R I h => ?_⟩
  refine thn (hl.run pins s σ H _ I h) fun v s1 ⟨x, H1, I1, r1, q1⟩ => ?_
  rcases q1 with ⟨a, e, ⟨xs, hq⟩, q⟩ | ⟨a, e, ⟨xs, hq⟩, q⟩
  · subst e
    cases r1
    obtain ⟨its, rv, p, hz⟩ := I1.list hq
    refine wpAny_pyIter_list p.isList ?_
    refine ⟨s1.heap.objs.size, [s1.heap.objs.size], _, _, H1, rfl, I1.kept (t' := s1.toks) fun b o e => Heap.get?_push_of_some _ e, turn_list a _, ⟨_, Heap.get?_push_size _ rfl, rfl, rfl⟩, fun b hb => ?_, q⟩
    have e : b = s1.heap.objs.size := by simpa using hb
    subst e
    exact I1.fpOk (Nat.le_refl _) (I1.hok.fresh (Nat.le_refl _))
  · subst e
    cases r1
    obtain ⟨its, rv, p, hz⟩ := I1.tuple hq
    refine wpAny_pyIter_tuple (show s1.heap.IsTuple a its.toArray from p) ?_
    refine ⟨s1.heap.objs.size, [s1.heap.objs.size], _, _, H1, rfl, I1.kept (t' := s1.toks) fun b o e => Heap.get?_push_of_some _ e, turn_tuple a _, ⟨_, Heap.get?_push_size _ rfl, rfl, rfl⟩, fun b hb => ?_, q⟩
    have e : b = s1.heap.objs.size := by simpa using hb
    subst e
    exact I1.fpOk (Nat.le_refl _) (I1.hok.fresh (Nat.le_refl _))
/-- for .. in xs: xs stands still -/
theorem vi_seq {f : Env → Out D} (ha : VE X W a f) : VI X W tg a (iSeq f) := PI_imp (pi_seq ha) fun σ H R ⟨B, S, env, sr, q⟩ => ⟨B, S, env, sr, (Post.bind q).imp fun d S1 H1 ex q1 v hv => by
  cases hv with
  | lst hs hd => exact .inl ⟨_, rfl, ⟨_, ex.sub.seq hs⟩, Post.now ex.sub q1 _ (walks_list (S := S1) hs hd)⟩
  | tup hs hd => exact .inr ⟨_, rfl, ⟨_, SqT.mono ex.sub hs⟩, Post.now ex.sub q1 _ (walks_tuple (S := S1) hs hd)⟩
  | _ => exact (show False from q1).elim⟩
/-- .. it may be the own list of a name -/
theorem vip_seq {f : Env → Out D} (ha : VP X W a f) : VIp X W tg a (iSeq f) := PI_imp (pi_seq ha) fun σ H R ⟨B, S, env, sr, q⟩ => ⟨B, S, env, sr, (Post.bind q).imp fun d S1 H1 ex q1 v hv => by
  cases d with
  | list ds =>
    obtain ⟨p, vs, rfl, hh, hd⟩ := hv.lst ex.sub
    exact .inl ⟨_, rfl, ⟨_, hh⟩, Post.now ex.sub q1 _ (walks_list (S := S1) hh hd)⟩
  | tuple ds =>
    obtain ⟨p, vs, rfl, _, hh, hd, _⟩ := hv.tup ex.sub
    exact .inr ⟨_, rfl, ⟨_, hh⟩, Post.now ex.sub q1 _ (walks_tuple (S := S1) hh hd)⟩
  | _ => exact (show False from q1).elim⟩

/-! ranges -/
def rangeL (lo : Int) (n : Nat) : List D := (List.range n).map fun (i : Nat) => .int (lo + (i : Int))
def rng1 : List D → Out (List D)
  | [.int j] => if -(2 ^ 62) ≤ j ∧ j < 2 ^ 62 then .ok (rangeL 0 j.toNat) else .bad
  | _ => .bad
def rng2 : List D → Out (List D)
  | [.int i, .int j] => if -(2 ^ 62) ≤ i ∧ i < 2 ^ 62 ∧ -(2 ^ 62) ≤ j ∧ j < 2 ^ 62 then .ok (rangeL i (j - i).toNat) else .bad
  | _ => .bad
def iRg (g : List D → Out (List D)) (f : Env → Out (List D)) : Env → Out (List D) := fun env => (f env).bind g
theorem walks_range {K : PySem.W.Frag} {S0 : Hp} (lo : Int) (n : Nat) : Walks K (Itr lo n) S0 S0 (rangeL lo n) := fun S H ss hs sh i => by
  refine ⟨fun d e => ?_, fun e => ?_⟩
  · unfold rangeL at e
    rw [List.getElem?_map] at e
    by_cases hi : i < n
    · rw [List.getElem?_range hi] at e
      cases e
      refine ⟨hi, fun x H' y => ?_⟩
      obtain ⟨rfl, rfl⟩ := y
      exact ⟨S, Ext.refl sh, .int _⟩
    · rw [List.getElem?_eq_none (by simpa using hi)] at e
      cases e
  · unfold rangeL at e
    simp at e
    exact Nat.le_of_eq e.symm
theorem vi_range1 {f : Env → Out (List D)} (hm : X.mg "range" = none) (ha : VAP X W [a] f) (hg : Gl X "range" := by rfl) (hs : starEach [a] X.env = [(false, eval a X.env)] := by rfl) : VI X W tg (.Call (.Name "range" p) [a] [] pos) (iRg rng1 f) :=
  PI_imp (pi_range1 hg hm ha hs) fun σ H R ⟨B, S, env, sr, q⟩ => ⟨B, S, env, sr, (Post.bind q).imp fun ds S1 H1 ex q1 vs h => by
    match ds, h, q1 with
    | [.int j], h, q1 =>
      obtain ⟨v, rfl, hv⟩ := h.one
      cases hv.int
      unfold rng1 at q1; dsimp only at q1
      split at q1
      · rename_i hz
        exact ⟨j, rfl, hz.1, hz.2, Post.now ex.sub q1 _ (walks_range _ _)⟩
      · exact (show False from q1).elim⟩
theorem vi_range2 {f : Env → Out (List D)} (hm : X.mg "range" = none) (ha : VAP X W [a, b] f) (hg : Gl X "range" := by rfl) (hs : starEach [a, b] X.env = [(false, eval a X.env), (false, eval b X.env)] := by rfl) (hs2 : starEach [b] X.env = [(false, eval b X.env)] := by rfl) :
    VI X W tg (.Call (.Name "range" p) [a, b] [] pos) (iRg rng2 f) :=
  PI_imp (pi_range2 hg hm ha hs hs2) fun σ H R ⟨B, S, env, sr, q⟩ => ⟨B, S, env, sr, (Post.bind q).imp fun ds S1 H1 ex q1 vs h => by
    match ds, h, q1 with
    | [.int i, .int j], h, q1 =>
      obtain ⟨v, v', rfl, hv, hv'⟩ := h.two
      cases hv.int; cases hv'.int
      unfold rng2 at q1; dsimp only at q1
      split at q1
      · rename_i hz
        exact ⟨i, j, rfl, hz, Post.now ex.sub q1 _ (walks_range _ _)⟩
      · exact (show False from q1).elim⟩
end
end VI

/-! VI 7: zip and enumerate over lists and tuples, mixed. -/
namespace VI
open PySem PySem.Spec PyProof.Rows L2

/-- a list (false) or a tuple (true) at a -/
def srcAt (K : PySem.W.Frag) (H : Hp) : Bool → Addr → List V → Prop
  | false, a, xs => SqL K H a xs
  | true, a, xs => SqT K H a xs
def srcHp (h : Heap) : Bool → Addr → Array Value → Prop
  | false, a, its => h.IsList a its
  | true, a, its => h.IsTuple a its
def srcIt (h : Heap) : Bool → Addr → Addr → Nat → Prop
  | false, it, a, i => h.IsListIter it a i
  | true, it, a, i => h.IsTupleIter it a i
def srcObj : Bool → Addr → Obj
  | false, a => { cls := .type "list_iterator", data := .fields #[.ref a, .int 0 0] }
  | true, a => { cls := .type "tuple_iterator", data := .fields #[.ref a, .int 0 0] }
theorem src_begins (k : Bool) (a : Addr) (its : Array Value) : Begins (.ref a) (srcObj k a) fun h => srcHp h k a its := by
  cases k
  · exact begins_list a its
  · exact begins_tuple a its
theorem src_draws {prog : Program} {w : World} {A : Around} (hh : A.handled = none) (k : Bool) (it a : Addr) (hne : a ≠ it) (its : Array Value) :
    Draws prog w A it [it, a] its.size (fun i v => its[i]? = some v) (fun i h => srcIt h k it a i ∧ srcHp h k a its) := by
  cases k
  · exact Draws.list hh it a hne its
  · exact Draws.tuple hh it a hne its
theorem src_it0 {h : Heap} {k : Bool} {it a : Addr} (e : h.get? it = some (srcObj k a)) : srcIt h k it a 0 := by
  cases k
  · exact ⟨_, e, rfl, rfl⟩
  · exact ⟨_, e, rfl, rfl⟩
theorem src_it_at {h h' : Heap} {k : Bool} {it a : Addr} {i : Nat} (e : srcIt h k it a i) (kk : ∀ o, h.get? it = some o → h'.get? it = some o) : srcIt h' k it a i := by
  cases k
  · exact Heap.IsListIter.at e kk
  · exact Heap.IsTupleIter.at e kk
theorem src_it_obj {h : Heap} {k : Bool} {it a : Addr} {i : Nat} (e : srcIt h k it a i) : ∃ o, h.get? it = some o ∧ ∀ v, o.data ≠ .cell v := by
  cases k
  · obtain ⟨o, e1, _, d⟩ := e; exact ⟨o, e1, fun v q => by rw [d] at q; cases q⟩
  · obtain ⟨o, e1, _, d⟩ := e; exact ⟨o, e1, fun v q => by rw [d] at q; cases q⟩
section
variable {X : Cx} {pins : List (Addr × Obj)} {σ : St} {H : Hp} {s : Shared}
theorem src_inv {k : Bool} {a : Addr} {xs : List V} (I : Inv X pins σ H s) (h : srcAt X.K H k a xs) : ∃ its : List Value, Vals xs its ∧ srcHp s.heap k a its.toArray ∧ a < s.heap.objs.size := by
  cases k
  · obtain ⟨its, r, p, _⟩ := I.list h
    exact ⟨its, r, p.isList, p.lt⟩
  · obtain ⟨its, r, p, _⟩ := I.tuple h
    obtain ⟨o, ho, q⟩ := p
    exact ⟨its, r, ⟨o, ho, q⟩, Heap.lt_size ho⟩
end
theorem srcAt.same {K : PySem.W.Frag} {H H' : Hp} {k : Bool} {a : Addr} {xs : List V} (e : Same H H') (h : srcAt K H k a xs) : srcAt K H' k a xs := by
  cases k
  · exact e.seq h
  · exact SqT.mono e h
theorem vals_get {xs : List V} {its : List Value} (h : Vals xs its) {i : Nat} {x : V} {u : Value} (hx : xs[i]? = some x) (hu : its.toArray[i]? = some u) : RelV x u := by
  obtain ⟨u', e, r⟩ := h.get hx
  rw [List.getElem?_toArray, e] at hu
  cases hu
  exact r
theorem vals_has {xs : List V} {its : List Value} (h : Vals xs its) {i : Nat} {u : Value} (hu : its.toArray[i]? = some u) : ∃ x, xs[i]? = some x ∧ RelV x u := by
  have hl := h.length
  rw [List.getElem?_toArray] at hu
  have hi : i < its.length := by
    rcases Nat.lt_or_ge i its.length with q | q
    · exact q
    · rw [List.getElem?_eq_none q] at hu; cases hu
  have hx : xs[i]? = some xs[i] := List.getElem?_eq_getElem (by omega)
  exact ⟨_, hx, vals_get h hx (by rw [List.getElem?_toArray]; exact hu)⟩

/-! ### zip of two -/
def Jz2 (K : PySem.W.Frag) (k1 : Bool) (a1 : Addr) (xs : List V) (k2 : Bool) (a2 : Addr) (ys : List V) : It :=
  ⟨fun i H => srcAt K H k1 a1 xs ∧ srcAt K H k2 a2 ys ∧ i < min xs.length ys.length,
   fun i H v H' => ∃ T x y, v = .ref T ∧ H T = none ∧ H' = upd H T (.tup [x, y]) ∧ xs[i]? = some x ∧ ys[i]? = some y,
   fun i H => srcAt K H k1 a1 xs ∧ srcAt K H k2 a2 ys ∧ i = min xs.length ys.length⟩
theorem turn_z2 {P : Program} {w : World} {K : PySem.W.Frag} {elts : List Expr} {kk : Nat} {tpos : Pos} {z TI TO i1 i2 a1 a2 : Addr} {k1 k2 : Bool} {xs ys : List V} (S : ZipSep2 z TI TO i1 i2 [i1, a1] [i2, a2]) (n1 : a1 ≠ i1) (n2 : a2 ≠ i2) :
    Turn P w K (.Tuple elts kk tpos) (Jz2 K k1 a1 xs k2 a2 ys) [z, TI, TO, i1, i2] z (fun i h => IsZip h z TI TO .none ∧ IsTupOf2 h TI (.ref i1) (.ref i2) ∧ (∃ x y, IsTupOf2 h TO x y) ∧ srcIt h k1 i1 a1 i ∧ srcIt h k2 i2 a2 i) where
  mem := by simp
  obj := fun i h st c hc => by
    obtain ⟨hz, hTI, ⟨x, y, hTO⟩, h1, h2⟩ := st
    have e' : c = z ∨ c = TI ∨ c = TO ∨ c = i1 ∨ c = i2 := by simpa using hc
    rcases e' with q | q | q | q | q
    · rw [q]; exact ⟨_, hz, fun v q => nomatch q⟩
    · rw [q]; exact ⟨_, hTI, fun v q => nomatch q⟩
    · rw [q]; exact ⟨_, hTO, fun v q => nomatch q⟩
    · rw [q]; exact src_it_obj h1
    · rw [q]; exact src_it_obj h2
  keep := fun i h h' st k => by
    obtain ⟨hz, hTI, ⟨x, y, hTO⟩, h1, h2⟩ := st
    exact ⟨k z (by simp) _ hz, k TI (by simp) _ hTI, ⟨x, y, k TO (by simp) _ hTO⟩, src_it_at h1 fun o q => k i1 (by simp) o q, src_it_at h2 fun o q => k i2 (by simp) o q⟩
  item := by
    intro X hP hw hK hc i pins s σ H E I hf st hg
    subst hP hw hK
    obtain ⟨hz, hTI, hTO, h1, h2⟩ := st
    obtain ⟨s1, s2, hi⟩ := hg
    obtain ⟨its, rv, p, _⟩ := src_inv I s1
    obtain ⟨its2, rv2, p2, _⟩ := src_inv I s2
    have l1 := rv.length
    have l2 := rv2.length
    have hh : X.A.in1.handled = none := I.ok.hd hc
    have W := GoesN.zip2 (prog := X.prog) (w := X.w) (A := X.A) (elts := elts) (x1 := kk) (pos := tpos) S (src_draws hh k1 i1 a1 n1 its.toArray) (src_draws hh k2 i2 a2 n2 its2.toArray)
    refine W.goes i s _ E (by rw [List.size_toArray, List.size_toArray, ← l1, ← l2]; exact hi) ⟨hz, hTI, hTO, ⟨h1, p⟩, h2, p2⟩ fun v h' tk hY st' hk htk => ?_
    obtain ⟨T, u, u2, rfl, hT, hu, hu2, hT2⟩ := hY
    obtain ⟨x, hx, rx⟩ := vals_has rv hu
    obtain ⟨y, hy, ry⟩ := vals_has rv2 hu2
    have new : ObjOk X.prog X.w (upd H T (.tup [x, y])) h' T (.tup [x, y]) := ⟨by show 2 ≤ sizeLine; decide, [u, u2], .cons rx (.cons ry .nil), hT2⟩
    have I1 : Inv X pins σ (upd H T (.tup [x, y])) { s with heap := h', toks := tk } :=
      I.turnedNew (ch := [z, TI, TO, i1, i2]) (fun c o hb q => hk c o (fun m => hb (by rcases List.mem_cons.mp m with rfl | m; simp; rcases List.mem_cons.mp m with rfl | m; simp; rcases List.mem_cons.mp m with rfl | m; simp; rcases List.mem_cons.mp m with rfl | m; simp; cases m)) q) hf hT new
    obtain ⟨g1, g2, g3, g4, g5⟩ := st'
    refine ⟨.ref T, _, I1, rfl, ⟨T, x, y, rfl, I.hok.fresh hT, rfl, hx, hy⟩, ⟨g1, g2, g3, g4.1, g5.1⟩, fun c hcm => ?_⟩
    have hlt : c < s.heap.objs.size := by
      have e' : c = z ∨ c = TI ∨ c = TO ∨ c = i1 ∨ c = i2 := by simpa using hcm
      obtain ⟨x0, y0, hTO⟩ := hTO
      rcases e' with q | q | q | q | q
      · rw [q]; exact Heap.lt_size hz
      · rw [q]; exact Heap.lt_size hTI
      · rw [q]; exact Heap.lt_size hTO
      · rw [q]; obtain ⟨_, e1, _⟩ := src_it_obj h1; exact Heap.lt_size e1
      · rw [q]; obtain ⟨_, e1, _⟩ := src_it_obj h2; exact Heap.lt_size e1
    rw [upd_ne (Nat.ne_of_lt (Nat.lt_of_lt_of_le hlt hT))]
    exact (hf c hcm).1
  done := by
    intro X hP hw hK hc i pins s σ H E I hf st hg
    subst hP hw hK
    obtain ⟨hz, hTI, hTO, h1, h2⟩ := st
    obtain ⟨s1, s2, hi⟩ := hg
    obtain ⟨its, rv, p, _⟩ := src_inv I s1
    obtain ⟨its2, rv2, p2, _⟩ := src_inv I s2
    have l1 := rv.length
    have l2 := rv2.length
    have hh : X.A.in1.handled = none := I.ok.hd hc
    have W := GoesN.zip2 (prog := X.prog) (w := X.w) (A := X.A) (elts := elts) (x1 := kk) (pos := tpos) S (src_draws hh k1 i1 a1 n1 its.toArray) (src_draws hh k2 i2 a2 n2 its2.toArray)
    refine W.stops s _ E ?_ fun h' tk hk htk => I.turnedL (ch := [z, TI, TO, i1, i2]) (fun c o hb q => hk c o (fun m => hb (by rcases List.mem_cons.mp m with rfl | m; simp; rcases List.mem_cons.mp m with rfl | m; simp; rcases List.mem_cons.mp m with rfl | m; simp; rcases List.mem_cons.mp m with rfl | m; simp; cases m)) q) hf
    have e : min its.toArray.size its2.toArray.size = i := by rw [List.size_toArray, List.size_toArray, ← l1, ← l2]; exact hi.symm
    rw [e]
    exact ⟨hz, hTI, hTO, ⟨h1, p⟩, h2, p2⟩
  self := fun A i s Q E st h => wpAny_pyIter_zip st.1 h
def iZ2 (K : PySem.W.Frag) (ta : TA) : TI := fun σ H R => ta σ H fun vs H1 => ∃ k1 a1 xs k2 a2 ys, vs = [.ref a1, .ref a2] ∧ srcAt K H1 k1 a1 xs ∧ srcAt K H1 k2 a2 ys ∧ R (Jz2 K k1 a1 xs k2 a2 ys) H1
theorem pi_z2 {X : Cx} {e e2 : Expr} {ta : TA} {p pos tpos : Pos} {elts : List Expr} {kk : Nat} (hg : Gl X "zip") (hm : X.mg "zip" = none) (ha : PA X [e, e2] ta)
    (hs : starEach [e, e2] X.env = (false, eval e X.env) :: starEach [e2] X.env := by rfl) (hpl : (backTo pos (starEach [e2] X.env)).any (·.1) = false := by rfl) :
    PI X (.Tuple elts kk tpos) (.Call (.Name "zip" p) [e, e2] [] pos) (iZ2 X.K ta) := by
  refine ⟨fun pins s σ H R I h => ?_⟩
  refine Call_ (ld_blt I hg hm PyProof.Rows.boot_zip (PyProof.Rows.callWith_type1 (thn (ha.run pos pins s σ H _ I h) fun us s1 ⟨vs, H1, I1, r1, q1⟩ => ?_) hs hpl))
  obtain ⟨k1, a1, xs, k2, a2, ys, ex, s1', s2', q⟩ := q1
  subst ex
  cases r1 with
  | cons r rr =>
    cases rr with
    | cons r' rr =>
      cases rr
      cases r
      cases r'
      obtain ⟨its, rv, p1, la⟩ := src_inv I1 s1'
      obtain ⟨its2, rv2, p2, lb⟩ := src_inv I1 s2'
      refine zip_begins2 (src_begins k1 a1 its.toArray) (src_begins k2 a2 its2.toArray) p1 p2 fun h' hz hTI hTO h1 h2 hsz hk => wpAny_pyIter_zip hz ?_
      have I2 : Inv X pins σ H1 { s1 with heap := h' } := I1.kept (t' := s1.toks) hk
      refine ⟨s1.heap.objs.size + 4, [s1.heap.objs.size + 4, s1.heap.objs.size + 2, s1.heap.objs.size + 3, s1.heap.objs.size, s1.heap.objs.size + 1], _, _, H1, rfl, I2,
        turn_z2 (zip_sep2 (N := s1.heap.objs.size) (fp1 := [a1]) (fp2 := [a2]) (fun b hb => by rw [List.mem_singleton.mp hb]; exact la) (fun b hb => by rw [List.mem_singleton.mp hb]; exact lb)) (Nat.ne_of_lt la) (Nat.ne_of_lt (Nat.lt_succ_of_lt lb)),
        ⟨hz, hTI, ⟨_, _, hTO⟩, src_it0 h1, src_it0 h2⟩, fun c hcm => ?_, q⟩
      have e' : c = s1.heap.objs.size + 4 ∨ c = s1.heap.objs.size + 2 ∨ c = s1.heap.objs.size + 3 ∨ c = s1.heap.objs.size ∨ c = s1.heap.objs.size + 1 := by simpa using hcm
      have hle : s1.heap.objs.size ≤ c := by
        rcases e' with z | z | z | z | z
        · rw [z]; exact Nat.le_add_right _ _
        · rw [z]; exact Nat.le_add_right _ _
        · rw [z]; exact Nat.le_add_right _ _
        · rw [z]; exact Nat.le_refl _
        · rw [z]; exact Nat.le_add_right _ _
      exact I1.fpOk hle (I1.hok.fresh hle)

/-! ### zip of three -/
def Jz3 (K : PySem.W.Frag) (k1 : Bool) (a1 : Addr) (xs : List V) (k2 : Bool) (a2 : Addr) (ys : List V) (k3 : Bool) (a3 : Addr) (zs : List V) : It :=
  ⟨fun i H => srcAt K H k1 a1 xs ∧ srcAt K H k2 a2 ys ∧ srcAt K H k3 a3 zs ∧ i < min (min xs.length ys.length) zs.length,
   fun i H v H' => ∃ T x y u, v = .ref T ∧ H T = none ∧ H' = upd H T (.tup [x, y, u]) ∧ xs[i]? = some x ∧ ys[i]? = some y ∧ zs[i]? = some u,
   fun i H => srcAt K H k1 a1 xs ∧ srcAt K H k2 a2 ys ∧ srcAt K H k3 a3 zs ∧ i = min (min xs.length ys.length) zs.length⟩
theorem turn_z3 {P : Program} {w : World} {K : PySem.W.Frag} {elts : List Expr} {kk : Nat} {tpos : Pos} {z TI TO i1 i2 i3 a1 a2 a3 : Addr} {k1 k2 k3 : Bool} {xs ys zs : List V} (S : ZipSep3 z TI TO i1 i2 i3 [i1, a1] [i2, a2] [i3, a3]) (n1 : a1 ≠ i1) (n2 : a2 ≠ i2) (n3 : a3 ≠ i3) :
    Turn P w K (.Tuple elts kk tpos) (Jz3 K k1 a1 xs k2 a2 ys k3 a3 zs) [z, TI, TO, i1, i2, i3] z (fun i h => IsZip h z TI TO .none ∧ IsTupOf3 h TI (.ref i1) (.ref i2) (.ref i3) ∧ (∃ x y u, IsTupOf3 h TO x y u) ∧ srcIt h k1 i1 a1 i ∧ srcIt h k2 i2 a2 i ∧ srcIt h k3 i3 a3 i) where
  mem := by simp
  obj := fun i h st c hc => by
    obtain ⟨hz, hTI, ⟨x, y, u, hTO⟩, h1, h2, h3⟩ := st
    have e' : c = z ∨ c = TI ∨ c = TO ∨ c = i1 ∨ c = i2 ∨ c = i3 := by simpa using hc
    rcases e' with q | q | q | q | q | q
    · rw [q]; exact ⟨_, hz, fun v q => nomatch q⟩
    · rw [q]; exact ⟨_, hTI, fun v q => nomatch q⟩
    · rw [q]; exact ⟨_, hTO, fun v q => nomatch q⟩
    · rw [q]; exact src_it_obj h1
    · rw [q]; exact src_it_obj h2
    · rw [q]; exact src_it_obj h3
  keep := fun i h h' st k => by
    obtain ⟨hz, hTI, ⟨x, y, u, hTO⟩, h1, h2, h3⟩ := st
    exact ⟨k z (by simp) _ hz, k TI (by simp) _ hTI, ⟨x, y, u, k TO (by simp) _ hTO⟩, src_it_at h1 fun o q => k i1 (by simp) o q, src_it_at h2 fun o q => k i2 (by simp) o q, src_it_at h3 fun o q => k i3 (by simp) o q⟩
  item := by
    intro X hP hw hK hc i pins s σ H E I hf st hg
    subst hP hw hK
    obtain ⟨hz, hTI, hTO, h1, h2, h3⟩ := st
    obtain ⟨s1, s2, s3, hi⟩ := hg
    obtain ⟨its, rv, p, _⟩ := src_inv I s1
    obtain ⟨its2, rv2, p2, _⟩ := src_inv I s2
    obtain ⟨its3, rv3, p3, _⟩ := src_inv I s3
    have l1 := rv.length
    have l2 := rv2.length
    have l3 := rv3.length
    have hh : X.A.in1.handled = none := I.ok.hd hc
    have W := GoesN.zip3 (prog := X.prog) (w := X.w) (A := X.A) (elts := elts) (x1 := kk) (pos := tpos) S (src_draws hh k1 i1 a1 n1 its.toArray) (src_draws hh k2 i2 a2 n2 its2.toArray) (src_draws hh k3 i3 a3 n3 its3.toArray)
    refine W.goes i s _ E (by rw [List.size_toArray, List.size_toArray, List.size_toArray, ← l1, ← l2, ← l3]; exact hi) ⟨hz, hTI, hTO, ⟨h1, p⟩, ⟨h2, p2⟩, h3, p3⟩ fun v h' tk hY st' hk htk => ?_
    obtain ⟨T, u, u2, u3, rfl, hT, hu, hu2, hu3, hT2⟩ := hY
    obtain ⟨x, hx, rx⟩ := vals_has rv hu
    obtain ⟨y, hy, ry⟩ := vals_has rv2 hu2
    obtain ⟨y3, hy3, ry3⟩ := vals_has rv3 hu3
    have new : ObjOk X.prog X.w (upd H T (.tup [x, y, y3])) h' T (.tup [x, y, y3]) := ⟨by show 3 ≤ sizeLine; decide, [u, u2, u3], .cons rx (.cons ry (.cons ry3 .nil)), hT2⟩
    have I1 : Inv X pins σ (upd H T (.tup [x, y, y3])) { s with heap := h', toks := tk } :=
      I.turnedNew (ch := [z, TI, TO, i1, i2, i3]) (fun c o hb q => hk c o (fun m => hb (by rcases List.mem_cons.mp m with rfl | m; simp; rcases List.mem_cons.mp m with rfl | m; simp; rcases List.mem_cons.mp m with rfl | m; simp; rcases List.mem_cons.mp m with rfl | m; simp; rcases List.mem_cons.mp m with rfl | m; simp; cases m)) q) hf hT new
    obtain ⟨g1, g2, g3, g4, g5, g6⟩ := st'
    refine ⟨.ref T, _, I1, rfl, ⟨T, x, y, y3, rfl, I.hok.fresh hT, rfl, hx, hy, hy3⟩, ⟨g1, g2, g3, g4.1, g5.1, g6.1⟩, fun c hcm => ?_⟩
    have hlt : c < s.heap.objs.size := by
      have e' : c = z ∨ c = TI ∨ c = TO ∨ c = i1 ∨ c = i2 ∨ c = i3 := by simpa using hcm
      obtain ⟨x0, y0, u0, hTO⟩ := hTO
      rcases e' with q | q | q | q | q | q
      · rw [q]; exact Heap.lt_size hz
      · rw [q]; exact Heap.lt_size hTI
      · rw [q]; exact Heap.lt_size hTO
      · rw [q]; obtain ⟨_, e1, _⟩ := src_it_obj h1; exact Heap.lt_size e1
      · rw [q]; obtain ⟨_, e1, _⟩ := src_it_obj h2; exact Heap.lt_size e1
      · rw [q]; obtain ⟨_, e1, _⟩ := src_it_obj h3; exact Heap.lt_size e1
    rw [upd_ne (Nat.ne_of_lt (Nat.lt_of_lt_of_le hlt hT))]
    exact (hf c hcm).1
  done := by
    intro X hP hw hK hc i pins s σ H E I hf st hg
    subst hP hw hK
    obtain ⟨hz, hTI, hTO, h1, h2, h3⟩ := st
    obtain ⟨s1, s2, s3, hi⟩ := hg
    obtain ⟨its, rv, p, _⟩ := src_inv I s1
    obtain ⟨its2, rv2, p2, _⟩ := src_inv I s2
    obtain ⟨its3, rv3, p3, _⟩ := src_inv I s3
    have l1 := rv.length
    have l2 := rv2.length
    have l3 := rv3.length
    have hh : X.A.in1.handled = none := I.ok.hd hc
    have W := GoesN.zip3 (prog := X.prog) (w := X.w) (A := X.A) (elts := elts) (x1 := kk) (pos := tpos) S (src_draws hh k1 i1 a1 n1 its.toArray) (src_draws hh k2 i2 a2 n2 its2.toArray) (src_draws hh k3 i3 a3 n3 its3.toArray)
    refine W.stops s _ E ?_ fun h' tk hk htk => I.turnedL (ch := [z, TI, TO, i1, i2, i3]) (fun c o hb q => hk c o (fun m => hb (by rcases List.mem_cons.mp m with rfl | m; simp; rcases List.mem_cons.mp m with rfl | m; simp; rcases List.mem_cons.mp m with rfl | m; simp; rcases List.mem_cons.mp m with rfl | m; simp; rcases List.mem_cons.mp m with rfl | m; simp; cases m)) q) hf
    have e : min (min its.toArray.size its2.toArray.size) its3.toArray.size = i := by rw [List.size_toArray, List.size_toArray, List.size_toArray, ← l1, ← l2, ← l3]; exact hi.symm
    rw [e]
    exact ⟨hz, hTI, hTO, ⟨h1, p⟩, ⟨h2, p2⟩, h3, p3⟩
  self := fun A i s Q E st h => wpAny_pyIter_zip st.1 h
def iZ3 (K : PySem.W.Frag) (ta : TA) : TI := fun σ H R => ta σ H fun vs H1 => ∃ k1 a1 xs k2 a2 ys k3 a3 zs, vs = [.ref a1, .ref a2, .ref a3] ∧ srcAt K H1 k1 a1 xs ∧ srcAt K H1 k2 a2 ys ∧ srcAt K H1 k3 a3 zs ∧ R (Jz3 K k1 a1 xs k2 a2 ys k3 a3 zs) H1
theorem pi_z3 {X : Cx} {e e2 e3 : Expr} {ta : TA} {p pos tpos : Pos} {elts : List Expr} {kk : Nat} (hg : Gl X "zip") (hm : X.mg "zip" = none) (ha : PA X [e, e2, e3] ta)
    (hs : starEach [e, e2, e3] X.env = (false, eval e X.env) :: starEach [e2, e3] X.env := by rfl) (hpl : (backTo pos (starEach [e2, e3] X.env)).any (·.1) = false := by rfl) :
    PI X (.Tuple elts kk tpos) (.Call (.Name "zip" p) [e, e2, e3] [] pos) (iZ3 X.K ta) := by
  refine ⟨fun pins s σ H R I h => ?_⟩
  refine Call_ (ld_blt I hg hm PyProof.Rows.boot_zip (PyProof.Rows.callWith_type1 (thn (ha.run pos pins s σ H _ I h) fun us s1 ⟨vs, H1, I1, r1, q1⟩ => ?_) hs hpl))
  obtain ⟨k1, a1, xs, k2, a2, ys, k3, a3, zs, ex, s1', s2', s3', q⟩ := q1
  subst ex
  cases r1 with
  | cons r rr =>
    cases rr with
    | cons r' rr =>
      cases rr with
      | cons r'' rr =>
        cases rr
        cases r
        cases r'
        cases r''
        obtain ⟨its, rv, p1, la⟩ := src_inv I1 s1'
        obtain ⟨its2, rv2, p2, lb⟩ := src_inv I1 s2'
        obtain ⟨its3, rv3, p3, lc⟩ := src_inv I1 s3'
        refine zip_begins3 (src_begins k1 a1 its.toArray) (src_begins k2 a2 its2.toArray) (src_begins k3 a3 its3.toArray) p1 p2 p3 fun h' hz hTI hTO h1 h2 h3 hsz hk => wpAny_pyIter_zip hz ?_
        have I2 : Inv X pins σ H1 { s1 with heap := h' } := I1.kept (t' := s1.toks) hk
        refine ⟨s1.heap.objs.size + 5, [s1.heap.objs.size + 5, s1.heap.objs.size + 3, s1.heap.objs.size + 4, s1.heap.objs.size, s1.heap.objs.size + 1, s1.heap.objs.size + 2], _, _, H1, rfl, I2,
          turn_z3 (zip_sep3 (N := s1.heap.objs.size) (fp1 := [a1]) (fp2 := [a2]) (fp3 := [a3]) (fun b hb => by rw [List.mem_singleton.mp hb]; exact la) (fun b hb => by rw [List.mem_singleton.mp hb]; exact lb) (fun b hb => by rw [List.mem_singleton.mp hb]; exact lc)) (Nat.ne_of_lt la) (Nat.ne_of_lt (Nat.lt_succ_of_lt lb)) (Nat.ne_of_lt (Nat.lt_succ_of_lt (Nat.lt_succ_of_lt lc))),
          ⟨hz, hTI, ⟨_, _, _, hTO⟩, src_it0 h1, src_it0 h2, src_it0 h3⟩, fun c hcm => ?_, q⟩
        have e' : c = s1.heap.objs.size + 5 ∨ c = s1.heap.objs.size + 3 ∨ c = s1.heap.objs.size + 4 ∨ c = s1.heap.objs.size ∨ c = s1.heap.objs.size + 1 ∨ c = s1.heap.objs.size + 2 := by simpa using hcm
        have hle : s1.heap.objs.size ≤ c := by
          rcases e' with z | z | z | z | z | z
          · rw [z]; exact Nat.le_add_right _ _
          · rw [z]; exact Nat.le_add_right _ _
          · rw [z]; exact Nat.le_add_right _ _
          · rw [z]; exact Nat.le_refl _
          · rw [z]; exact Nat.le_add_right _ _
          · rw [z]; exact Nat.le_add_right _ _
        exact I1.fpOk hle (I1.hok.fresh hle)

/-! ### enumerate -/
theorem meets_enumerate_new1 {v : Value} {o : Obj} {H : Heap → Prop} (B : Begins v o H) :
    Meets (Builtin.«enumerate.__new__» ⟨[.type "enumerate", v], []⟩) (fun _ R s => H s.heap ∧
      R (.ok (.ret (.ref (s.heap.push o).objs.size))) { s with heap := (s.heap.push o).push { cls := .type "enumerate", data := .fields #[.none, .bool false, .ref s.heap.objs.size, rawInt 0, .none, .none] } }) :=
  .of_wp fun prog w A R s h => by
    obtain ⟨hp, g, d, tk, os⟩ := s; obtain ⟨h1, h⟩ := h
    have hsub := sub_enumerate
    have q1 : ∀ {A' : Around} {E : Value → Shared → Prop} {Q : Value → Shared → Prop}, Q (.ref hp.objs.size) ⟨hp.push o, g, d, tk, os⟩ → wpAny (model prog w) A' (pyIter v) Q E ⟨hp, g, d, tk, os⟩ :=
      fun q => B.iter prog w _ _ ⟨hp, g, d, tk, os⟩ _ h1 q
    wp_walk using q1
    refine wpAny_stack_any fun st => wpAny_pure ?_
    split
    · rename_i c _ _ _ _ _
      cases (c == Value.type "enumerate")
      · wp_walk using q1
        exact ⟨_, rfl, h⟩
      · wp_walk using q1
        exact ⟨_, rfl, h⟩
    · wp_walk using q1
      exact ⟨_, rfl, h⟩
theorem enum_begins1 {prog : Program} {w : World} {A : Around} {E : Value → Shared → Prop} {s : Shared} {v : Value} {o : Obj} {H : Heap → Prop} {Q : Value → Shared → Prop} (B : Begins v o H) (h1 : H s.heap)
    (h : ∀ h', IsEnum h' (s.heap.objs.size + 1) s.heap.objs.size 0 .none → h'.get? s.heap.objs.size = some o → h'.objs.size = s.heap.objs.size + 2 →
      (∀ b o, s.heap.get? b = some o → h'.get? b = some o) → Q (.ref (s.heap.objs.size + 1)) { s with heap := h' }) :
    wpAny (model prog w) A (call (.type "enumerate") [v]) Q E s := by
  refine callType_new F.called_enumerate (by decide) (F.typeCall_enumerate_1 _) (F.newCall_enumerate_1 _) (fun obj => F.args_object_init_2 obj _) F.entry_enumerate_new
    (meets_enumerate_new1 B) ⟨h1, ?_⟩
  have hz : (s.heap.push o).objs.size = s.heap.objs.size + 1 := Heap.size_push ..
  show _ ∧ _
  rw [hz]
  have he : IsEnum ((s.heap.push o).push { cls := .type "enumerate", data := .fields #[.none, .bool false, .ref s.heap.objs.size, rawInt 0, .none, .none] }) (s.heap.objs.size + 1) s.heap.objs.size 0 .none := by
    have := Heap.get?_push_size (s.heap.push o) (o := { cls := .type "enumerate", data := .fields #[.none, .bool false, .ref s.heap.objs.size, rawInt 0, .none, .none] }) rfl
    rw [hz] at this; exact this
  refine ⟨⟨_, he, rfl⟩, h _ he (Heap.get?_push_of_some _ (Heap.get?_push_size _ B.free)) (by rw [Heap.size_push, hz]) fun b o x => Heap.get?_push_of_some _ (Heap.get?_push_of_some _ x)⟩
def Jen (K : PySem.W.Frag) (k1 : Bool) (a1 : Addr) (xs : List V) : It :=
  ⟨fun i H => srcAt K H k1 a1 xs ∧ i < xs.length,
   fun i H v H' => ∃ T x, v = .ref T ∧ H T = none ∧ H' = upd H T (.tup [.int (i : Nat), x]) ∧ xs[i]? = some x,
   fun i H => srcAt K H k1 a1 xs ∧ i = xs.length⟩
theorem turn_en {P : Program} {w : World} {K : PySem.W.Frag} {elts : List Expr} {kk : Nat} {tpos : Pos} {e i1 a1 : Addr} {k1 : Bool} {xs : List V} (n1 : a1 ≠ i1) (ne : e ≠ i1) (na : e ≠ a1) :
    Turn P w K (.Tuple elts kk tpos) (Jen K k1 a1 xs) [e, i1] e (fun i h => (∃ old, IsEnum h e i1 (0 + (i : Int)) old) ∧ srcIt h k1 i1 a1 i) where
  mem := by simp
  obj := fun i h st c hc => by
    obtain ⟨⟨old, he⟩, h1⟩ := st
    have e' : c = e ∨ c = i1 := by simpa using hc
    rcases e' with q | q
    · rw [q]; exact ⟨_, he, fun v q => nomatch q⟩
    · rw [q]; exact src_it_obj h1
  keep := fun i h h' st k => by
    obtain ⟨⟨old, he⟩, h1⟩ := st
    exact ⟨⟨old, k e (by simp) _ he⟩, src_it_at h1 fun o q => k i1 (by simp) o q⟩
  item := by
    intro X hP hw hK hc i pins s σ H E I hf st hg
    subst hP hw hK
    obtain ⟨he, h1⟩ := st
    obtain ⟨s1, hi⟩ := hg
    obtain ⟨its, rv, p, _⟩ := src_inv I s1
    have l1 := rv.length
    have hh : X.A.in1.handled = none := I.ok.hd hc
    have W := GoesN.enumFrom (prog := X.prog) (w := X.w) (A := X.A) (elts := elts) (x1 := kk) (pos := tpos) 0 (src_draws hh k1 i1 a1 n1 its.toArray) e ne (by simp [ne, na]) (by simp)
    refine W.goes i s _ E (by rw [List.size_toArray, ← l1]; exact hi) ⟨he, h1, p⟩ fun v h' tk hY st' hk htk => ?_
    obtain ⟨T, t, u, rfl, hT, hu, hT2⟩ := hY
    obtain ⟨x, hx, rx⟩ := vals_has rv hu
    have e0 : (0 : Int) + (i : Int) = (i : Int) := by omega
    rw [e0] at hT2
    have new : ObjOk X.prog X.w (upd H T (.tup [.int (i : Nat), x])) h' T (.tup [.int (i : Nat), x]) := ⟨by show 2 ≤ sizeLine; decide, [.int i t, u], .cons ⟨_, rfl⟩ (.cons rx .nil), hT2⟩
    have I1 : Inv X pins σ (upd H T (.tup [.int (i : Nat), x])) { s with heap := h', toks := tk } :=
      I.turnedNew (ch := [e, i1]) (fun c o hb q => hk c o hb q) hf hT new
    obtain ⟨g1, g2⟩ := st'
    refine ⟨.ref T, _, I1, rfl, ⟨T, x, rfl, I.hok.fresh hT, rfl, hx⟩, ⟨g1, g2.1⟩, fun c hcm => ?_⟩
    have hlt : c < s.heap.objs.size := by
      have e' : c = e ∨ c = i1 := by simpa using hcm
      obtain ⟨old, he⟩ := he
      rcases e' with q | q
      · rw [q]; exact Heap.lt_size he
      · rw [q]; obtain ⟨_, e1, _⟩ := src_it_obj h1; exact Heap.lt_size e1
    rw [upd_ne (Nat.ne_of_lt (Nat.lt_of_lt_of_le hlt hT))]
    exact (hf c hcm).1
  done := by
    intro X hP hw hK hc i pins s σ H E I hf st hg
    subst hP hw hK
    obtain ⟨he, h1⟩ := st
    obtain ⟨s1, hi⟩ := hg
    obtain ⟨its, rv, p, _⟩ := src_inv I s1
    have l1 := rv.length
    have hh : X.A.in1.handled = none := I.ok.hd hc
    have W := GoesN.enumFrom (prog := X.prog) (w := X.w) (A := X.A) (elts := elts) (x1 := kk) (pos := tpos) 0 (src_draws hh k1 i1 a1 n1 its.toArray) e ne (by simp [ne, na]) (by simp)
    refine W.stops s _ E ?_ fun h' tk hk htk => I.turnedL (ch := [e, i1]) (fun c o hb q => hk c o hb q) hf
    have q : its.toArray.size = i := by rw [List.size_toArray, ← l1]; exact hi.symm
    rw [q]
    exact ⟨he, h1, p⟩
  self := fun A i s Q E st h => let ⟨⟨_, he⟩, _⟩ := st; wpAny_pyIter_enum he h
def iEn (K : PySem.W.Frag) (ta : TA) : TI := fun σ H R => ta σ H fun vs H1 => ∃ k1 a1 xs, vs = [.ref a1] ∧ srcAt K H1 k1 a1 xs ∧ R (Jen K k1 a1 xs) H1
theorem pi_en {X : Cx} {e : Expr} {ta : TA} {p pos tpos : Pos} {elts : List Expr} {kk : Nat} (hg : Gl X "enumerate") (hm : X.mg "enumerate" = none) (ha : PA X [e] ta) (hs : starEach [e] X.env = [(false, eval e X.env)] := by rfl) :
    PI X (.Tuple elts kk tpos) (.Call (.Name "enumerate" p) [e] [] pos) (iEn X.K ta) := by
  refine ⟨fun pins s σ H R I h => ?_⟩
  refine Call_ (ld_blt I hg hm boot_enumerate (PyProof.Rows.callWith_type1 (thn (ha.run pos pins s σ H _ I h) fun us s1 ⟨vs, H1, I1, r1, q1⟩ => ?_) hs rfl))
  obtain ⟨k1, a, xs, ex, hq, q⟩ := q1
  subst ex
  cases r1 with
  | cons r rr =>
    cases rr
    cases r
    obtain ⟨its, rv, p', la⟩ := src_inv I1 hq
    refine enum_begins1 (src_begins k1 a its.toArray) p' fun h' he hit hsz hk => wpAny_pyIter_enum he ?_
    have I2 : Inv X pins σ H1 { s1 with heap := h' } := I1.kept (t' := s1.toks) hk
    refine ⟨s1.heap.objs.size + 1, [s1.heap.objs.size + 1, s1.heap.objs.size], _, _, H1, rfl, I2, turn_en (Nat.ne_of_lt la) (Nat.succ_ne_self _) (Nat.ne_of_gt (Nat.lt_succ_of_lt la)), ⟨⟨.none, he⟩, src_it0 hit⟩, fun b hb => ?_, q⟩
    have e' : b = s1.heap.objs.size + 1 ∨ b = s1.heap.objs.size := by simpa using hb
    have hle : s1.heap.objs.size ≤ b := by
      rcases e' with z | z
      · rw [z]; exact Nat.le_add_right _ _
      · rw [z]; exact Nat.le_refl _
    exact I1.fpOk hle (I1.hok.fresh hle)

/-! ### by values -/
def zip2L (l : List D) : Out (List D) := match l with
  | [a, b] => (itemsD a).bind fun xs => (itemsD b).bind fun ys => .ok (List.zipWith (fun x y => .tuple [x, y]) xs ys)
  | _ => .bad
def zip3L (l : List D) : Out (List D) := match l with
  | [a, b, c] => (itemsD a).bind fun xs => (itemsD b).bind fun ys => (itemsD c).bind fun zs => .ok (List.zipWith (fun x (p : D × D) => .tuple [x, p.1, p.2]) xs (ys.zip zs))
  | _ => .bad
def enumD (xs : List D) : List D := xs.mapIdx fun i x => .tuple [.int (i : Nat), x]
def enumL (l : List D) : Out (List D) := match l with
  | [a] => (itemsD a).bind fun xs => .ok (enumD xs)
  | _ => .bad
section
variable {K : PySem.W.Frag}
theorem tup_new {S H : Hp} {T : Addr} {vs : List V} {ds : List D} (sh : Same S H) (hT : H T = none) (h : DpAll K S vs ds) : ∃ S', Ext S H S' (upd H T (.tup vs)) ∧ Dp K S' (.ref T) (.tuple ds) := by
  have ex := Ext.laid (o := .tup vs) sh hT
  exact ⟨_, ex, .tup (.inl (.inl upd_same)) (DpAll.mono ex.ss h)⟩
theorem items_src {S H : Hp} {v : V} {d : D} {xs : List D} (s : Same S H) (h : DpP K S H v d) (e : itemsD d = .ok xs) : ∃ k a vs, v = .ref a ∧ srcAt K H k a vs ∧ DpAll K S vs xs := by
  cases d with
  | list ds =>
    cases e
    obtain ⟨a, vs, rfl, h1, h2⟩ := h.lst s
    exact ⟨false, a, vs, rfl, h1, h2⟩
  | tuple ds =>
    cases e
    obtain ⟨a, vs, rfl, _, h1, h2, _⟩ := h.tup s
    exact ⟨true, a, vs, rfl, h1, h2⟩
  | _ => cases e
theorem walks_z2 {S0 H0 : Hp} {k1 k2 : Bool} {a1 a2 : Addr} {vs ws : List V} {xs ys : List D} (s1 : srcAt K H0 k1 a1 vs) (s2 : srcAt K H0 k2 a2 ws) (d1 : DpAll K S0 vs xs) (d2 : DpAll K S0 ws ys) :
    Walks K (Jz2 K k1 a1 vs k2 a2 ws) S0 H0 (List.zipWith (fun x y => .tuple [x, y]) xs ys) := fun S H ss hs sh i => by
  have l1 := DpAll.length d1
  have l2 := DpAll.length d2
  refine ⟨fun d e => ?_, fun e => ?_⟩
  · rw [List.getElem?_zipWith] at e
    cases ex : xs[i]? with
    | none => rw [ex] at e; cases e
    | some x =>
      cases ey : ys[i]? with
      | none => rw [ex, ey] at e; cases e
      | some y =>
        rw [ex, ey] at e
        cases e
        obtain ⟨v, e1, dv⟩ := DpAll.get d1 ex
        obtain ⟨w, e2, dw⟩ := DpAll.get d2 ey
        have hx := (List.getElem?_eq_some_iff.mp ex).1
        have hy := (List.getElem?_eq_some_iff.mp ey).1
        refine ⟨⟨s1.same hs, s2.same hs, by omega⟩, fun x' H' yy => ?_⟩
        obtain ⟨T, v', w', rfl, hT, rfl, f1, f2⟩ := yy
        rw [e1] at f1; cases f1
        rw [e2] at f2; cases f2
        exact tup_new sh hT (.cons (Dp.mono ss dv) (.cons (Dp.mono ss dw) .nil))
  · exact ⟨s1.same hs, s2.same hs, by rw [e, List.length_zipWith, l1, l2]⟩
theorem walks_z3 {S0 H0 : Hp} {k1 k2 k3 : Bool} {a1 a2 a3 : Addr} {vs ws us : List V} {xs ys zs : List D} (s1 : srcAt K H0 k1 a1 vs) (s2 : srcAt K H0 k2 a2 ws) (s3 : srcAt K H0 k3 a3 us) (d1 : DpAll K S0 vs xs) (d2 : DpAll K S0 ws ys) (d3 : DpAll K S0 us zs) :
    Walks K (Jz3 K k1 a1 vs k2 a2 ws k3 a3 us) S0 H0 (List.zipWith (fun x (p : D × D) => .tuple [x, p.1, p.2]) xs (ys.zip zs)) := fun S H ss hs sh i => by
  have l1 := DpAll.length d1
  have l2 := DpAll.length d2
  have l3 := DpAll.length d3
  refine ⟨fun d e => ?_, fun e => ?_⟩
  · rw [List.getElem?_zipWith] at e
    have e0 : (ys.zip zs)[i]? = match ys[i]?, zs[i]? with
      | some y, some z => some (y, z)
      | _, _ => none := by
        show (List.zipWith Prod.mk ys zs)[i]? = _
        rw [List.getElem?_zipWith]
        cases ys[i]? <;> cases zs[i]? <;> rfl
    rw [e0] at e
    cases ex : xs[i]? with
    | none => rw [ex] at e; cases e
    | some x =>
      cases ey : ys[i]? with
      | none => rw [ex, ey] at e; cases e
      | some y =>
        cases ez : zs[i]? with
        | none => rw [ex, ey, ez] at e; cases e
        | some z =>
          rw [ex, ey, ez] at e
          cases e
          obtain ⟨v, e1, dv⟩ := DpAll.get d1 ex
          obtain ⟨w, e2, dw⟩ := DpAll.get d2 ey
          obtain ⟨u, e3, du⟩ := DpAll.get d3 ez
          have hx := (List.getElem?_eq_some_iff.mp ex).1
          have hy := (List.getElem?_eq_some_iff.mp ey).1
          have hz := (List.getElem?_eq_some_iff.mp ez).1
          refine ⟨⟨s1.same hs, s2.same hs, s3.same hs, by omega⟩, fun x' H' yy => ?_⟩
          obtain ⟨T, v', w', u', rfl, hT, rfl, f1, f2, f3⟩ := yy
          rw [e1] at f1; cases f1
          rw [e2] at f2; cases f2
          rw [e3] at f3; cases f3
          exact tup_new sh hT (.cons (Dp.mono ss dv) (.cons (Dp.mono ss dw) (.cons (Dp.mono ss du) .nil)))
  · exact ⟨s1.same hs, s2.same hs, s3.same hs, by rw [e, List.length_zipWith, List.length_zip, l1, l2, l3]; omega⟩
theorem walks_en {S0 H0 : Hp} {k1 : Bool} {a1 : Addr} {vs : List V} {xs : List D} (s1 : srcAt K H0 k1 a1 vs) (d1 : DpAll K S0 vs xs) : Walks K (Jen K k1 a1 vs) S0 H0 (enumD xs) := fun S H ss hs sh i => by
  have l1 := DpAll.length d1
  refine ⟨fun d e => ?_, fun e => ?_⟩
  · unfold enumD at e
    rw [List.getElem?_mapIdx] at e
    cases ex : xs[i]? with
    | none => rw [ex] at e; cases e
    | some x =>
      rw [ex] at e
      cases e
      obtain ⟨v, e1, dv⟩ := DpAll.get d1 ex
      have hx := (List.getElem?_eq_some_iff.mp ex).1
      refine ⟨⟨s1.same hs, by omega⟩, fun x' H' yy => ?_⟩
      obtain ⟨T, v', rfl, hT, rfl, f1⟩ := yy
      rw [e1] at f1; cases f1
      exact tup_new sh hT (.cons (.int _) (.cons (Dp.mono ss dv) .nil))
  · exact ⟨s1.same hs, by rw [e]; unfold enumD; rw [List.length_mapIdx, l1]⟩
end
section
variable {X : Cx} {W : WX} {a b c : Expr} {pos p tpos : Pos} {elts : List Expr} {kk : Nat}
theorem DpPs.one' {K : PySem.W.Frag} {S H : Hp} {vs : List V} {d : D} (h : DpPs K S H vs [d]) : ∃ v, vs = [v] ∧ DpP K S H v d := by
  cases h with
  | cons a t => cases t; exact ⟨_, rfl, a⟩
theorem DpPs.two' {K : PySem.W.Frag} {S H : Hp} {vs : List V} {d e : D} (h : DpPs K S H vs [d, e]) : ∃ v w, vs = [v, w] ∧ DpP K S H v d ∧ DpP K S H w e := by
  cases h with
  | cons a t => cases t with
    | cons b t => cases t; exact ⟨_, _, rfl, a, b⟩
theorem DpPs.three' {K : PySem.W.Frag} {S H : Hp} {vs : List V} {d e f : D} (h : DpPs K S H vs [d, e, f]) : ∃ v w u, vs = [v, w, u] ∧ DpP K S H v d ∧ DpP K S H w e ∧ DpP K S H u f := by
  cases h with
  | cons a t => cases t with
    | cons b t => cases t with
      | cons c t => cases t; exact ⟨_, _, _, rfl, a, b, c⟩
theorem vip_zip2 {f : Env → Out (List D)} (hm : X.mg "zip" = none) (ha : VAP X W [a, b] f) (hg : Gl X "zip" := by rfl)
    (hs : starEach [a, b] X.env = (false, eval a X.env) :: starEach [b] X.env := by rfl) (hpl : (backTo pos (starEach [b] X.env)).any (·.1) = false := by rfl) :
    VIp X W (.Tuple elts kk tpos) (.Call (.Name "zip" p) [a, b] [] pos) (iRg zip2L f) :=
  PI_imp (pi_z2 hg hm ha hs hpl) fun σ H R ⟨B, S, env, sr, q⟩ => ⟨B, S, env, sr, (Post.bind q).imp fun ds S1 H1 ex q1 vs h => by
    match ds, h, q1 with
    | [da, db], h, q1 =>
      obtain ⟨v, w, rfl, hv, hw⟩ := DpPs.two' h
      unfold zip2L at q1; dsimp only at q1
      cases e1 : itemsD da with
      | ok xs =>
        rw [e1] at q1
        cases e2 : itemsD db with
        | ok ys =>
          rw [e2] at q1
          obtain ⟨k1, a1, vs1, rfl, s1, d1⟩ := items_src ex.sub hv e1
          obtain ⟨k2, a2, vs2, rfl, s2, d2⟩ := items_src ex.sub hw e2
          exact ⟨k1, a1, vs1, k2, a2, vs2, rfl, s1, s2, Post.now ex.sub q1 _ (walks_z2 s1 s2 d1 d2)⟩
        | exc _ _ => cases db <;> cases e2
        | bad => rw [e2] at q1; exact (show False from q1).elim
      | exc _ _ => cases da <;> cases e1
      | bad => rw [e1] at q1; exact (show False from q1).elim⟩
theorem vip_zip3 {f : Env → Out (List D)} (hm : X.mg "zip" = none) (ha : VAP X W [a, b, c] f) (hg : Gl X "zip" := by rfl)
    (hs : starEach [a, b, c] X.env = (false, eval a X.env) :: starEach [b, c] X.env := by rfl) (hpl : (backTo pos (starEach [b, c] X.env)).any (·.1) = false := by rfl) :
    VIp X W (.Tuple elts kk tpos) (.Call (.Name "zip" p) [a, b, c] [] pos) (iRg zip3L f) :=
  PI_imp (pi_z3 hg hm ha hs hpl) fun σ H R ⟨B, S, env, sr, q⟩ => ⟨B, S, env, sr, (Post.bind q).imp fun ds S1 H1 ex q1 vs h => by
    match ds, h, q1 with
    | [da, db, dc], h, q1 =>
      obtain ⟨v, w, u, rfl, hv, hw, hu⟩ := DpPs.three' h
      unfold zip3L at q1; dsimp only at q1
      cases e1 : itemsD da with
      | ok xs =>
        rw [e1] at q1
        cases e2 : itemsD db with
        | ok ys =>
          rw [e2] at q1
          cases e3 : itemsD dc with
          | ok zs =>
            rw [e3] at q1
            obtain ⟨k1, a1, vs1, rfl, s1, d1⟩ := items_src ex.sub hv e1
            obtain ⟨k2, a2, vs2, rfl, s2, d2⟩ := items_src ex.sub hw e2
            obtain ⟨k3, a3, vs3, rfl, s3, d3⟩ := items_src ex.sub hu e3
            exact ⟨k1, a1, vs1, k2, a2, vs2, k3, a3, vs3, rfl, s1, s2, s3, Post.now ex.sub q1 _ (walks_z3 s1 s2 s3 d1 d2 d3)⟩
          | exc _ _ => cases dc <;> cases e3
          | bad => rw [e3] at q1; exact (show False from q1).elim
        | exc _ _ => cases db <;> cases e2
        | bad => rw [e2] at q1; exact (show False from q1).elim
      | exc _ _ => cases da <;> cases e1
      | bad => rw [e1] at q1; exact (show False from q1).elim⟩
theorem vip_enum {f : Env → Out (List D)} (hm : X.mg "enumerate" = none) (ha : VAP X W [a] f) (hg : Gl X "enumerate" := by rfl) (hs : starEach [a] X.env = [(false, eval a X.env)] := by rfl) :
    VIp X W (.Tuple elts kk tpos) (.Call (.Name "enumerate" p) [a] [] pos) (iRg enumL f) :=
  PI_imp (pi_en hg hm ha hs) fun σ H R ⟨B, S, env, sr, q⟩ => ⟨B, S, env, sr, (Post.bind q).imp fun ds S1 H1 ex q1 vs h => by
    match ds, h, q1 with
    | [da], h, q1 =>
      obtain ⟨v, rfl, hv⟩ := DpPs.one' h
      unfold enumL at q1; dsimp only at q1
      cases e1 : itemsD da with
      | ok xs =>
        rw [e1] at q1
        obtain ⟨k1, a1, vs1, rfl, s1, d1⟩ := items_src ex.sub hv e1
        exact ⟨k1, a1, vs1, rfl, s1, Post.now ex.sub q1 _ (walks_en s1 d1)⟩
      | exc _ _ => cases da <;> cases e1
      | bad => rw [e1] at q1; exact (show False from q1).elim⟩
theorem DpAll.one' {K : PySem.W.Frag} {H : Hp} {vs : List V} {d : D} (h : DpAll K H vs [d]) : ∃ v, vs = [v] ∧ Dp K H v d := by
  cases h with
  | cons a t => cases t; exact ⟨_, rfl, a⟩
theorem DpAll.two' {K : PySem.W.Frag} {H : Hp} {vs : List V} {d e : D} (h : DpAll K H vs [d, e]) : ∃ v w, vs = [v, w] ∧ Dp K H v d ∧ Dp K H w e := by
  cases h with
  | cons a t => cases t with
    | cons b t => cases t; exact ⟨_, _, rfl, a, b⟩
theorem DpAll.three' {K : PySem.W.Frag} {H : Hp} {vs : List V} {d e f : D} (h : DpAll K H vs [d, e, f]) : ∃ v w u, vs = [v, w, u] ∧ Dp K H v d ∧ Dp K H w e ∧ Dp K H u f := by
  cases h with
  | cons a t => cases t with
    | cons b t => cases t with
      | cons c t => cases t; exact ⟨_, _, _, rfl, a, b, c⟩
theorem vi_zip2 {f : Env → Out (List D)} (hm : X.mg "zip" = none) (ha : VA X W [a, b] f) (hg : Gl X "zip" := by rfl)
    (hs : starEach [a, b] X.env = (false, eval a X.env) :: starEach [b] X.env := by rfl) (hpl : (backTo pos (starEach [b] X.env)).any (·.1) = false := by rfl) :
    VI X W (.Tuple elts kk tpos) (.Call (.Name "zip" p) [a, b] [] pos) (iRg zip2L f) :=
  PI_imp (pi_z2 hg hm ha hs hpl) fun σ H R ⟨B, S, env, sr, q⟩ => ⟨B, S, env, sr, (Post.bind q).imp fun ds S1 H1 ex q1 vs h => by
    match ds, h, q1 with
    | [da, db], h, q1 =>
      obtain ⟨v, w, rfl, hv, hw⟩ := DpAll.two' h
      unfold zip2L at q1; dsimp only at q1
      cases e1 : itemsD da with
      | ok xs =>
        rw [e1] at q1
        cases e2 : itemsD db with
        | ok ys =>
          rw [e2] at q1
          obtain ⟨k1, a1, vs1, rfl, s1, d1⟩ := items_src (S := S1) (Same.refl S1) (Or.inl hv) e1
          obtain ⟨k2, a2, vs2, rfl, s2, d2⟩ := items_src (S := S1) (Same.refl S1) (Or.inl hw) e2
          exact ⟨k1, a1, vs1, k2, a2, vs2, rfl, s1.same ex.sub, s2.same ex.sub, Post.now ex.sub q1 _ (walks_z2 s1 s2 d1 d2)⟩
        | exc _ _ => cases db <;> cases e2
        | bad => rw [e2] at q1; exact (show False from q1).elim
      | exc _ _ => cases da <;> cases e1
      | bad => rw [e1] at q1; exact (show False from q1).elim⟩
theorem vi_zip3 {f : Env → Out (List D)} (hm : X.mg "zip" = none) (ha : VA X W [a, b, c] f) (hg : Gl X "zip" := by rfl)
    (hs : starEach [a, b, c] X.env = (false, eval a X.env) :: starEach [b, c] X.env := by rfl) (hpl : (backTo pos (starEach [b, c] X.env)).any (·.1) = false := by rfl) :
    VI X W (.Tuple elts kk tpos) (.Call (.Name "zip" p) [a, b, c] [] pos) (iRg zip3L f) :=
  PI_imp (pi_z3 hg hm ha hs hpl) fun σ H R ⟨B, S, env, sr, q⟩ => ⟨B, S, env, sr, (Post.bind q).imp fun ds S1 H1 ex q1 vs h => by
    match ds, h, q1 with
    | [da, db, dc], h, q1 =>
      obtain ⟨v, w, u, rfl, hv, hw, hu⟩ := DpAll.three' h
      unfold zip3L at q1; dsimp only at q1
      cases e1 : itemsD da with
      | ok xs =>
        rw [e1] at q1
        cases e2 : itemsD db with
        | ok ys =>
          rw [e2] at q1
          cases e3 : itemsD dc with
          | ok zs =>
            rw [e3] at q1
            obtain ⟨k1, a1, vs1, rfl, s1, d1⟩ := items_src (S := S1) (Same.refl S1) (Or.inl hv) e1
            obtain ⟨k2, a2, vs2, rfl, s2, d2⟩ := items_src (S := S1) (Same.refl S1) (Or.inl hw) e2
            obtain ⟨k3, a3, vs3, rfl, s3, d3⟩ := items_src (S := S1) (Same.refl S1) (Or.inl hu) e3
            exact ⟨k1, a1, vs1, k2, a2, vs2, k3, a3, vs3, rfl, s1.same ex.sub, s2.same ex.sub, s3.same ex.sub, Post.now ex.sub q1 _ (walks_z3 s1 s2 s3 d1 d2 d3)⟩
          | exc _ _ => cases dc <;> cases e3
          | bad => rw [e3] at q1; exact (show False from q1).elim
        | exc _ _ => cases db <;> cases e2
        | bad => rw [e2] at q1; exact (show False from q1).elim
      | exc _ _ => cases da <;> cases e1
      | bad => rw [e1] at q1; exact (show False from q1).elim⟩
theorem vi_enum {f : Env → Out (List D)} (hm : X.mg "enumerate" = none) (ha : VA X W [a] f) (hg : Gl X "enumerate" := by rfl) (hs : starEach [a] X.env = [(false, eval a X.env)] := by rfl) :
    VI X W (.Tuple elts kk tpos) (.Call (.Name "enumerate" p) [a] [] pos) (iRg enumL f) :=
  PI_imp (pi_en hg hm ha hs) fun σ H R ⟨B, S, env, sr, q⟩ => ⟨B, S, env, sr, (Post.bind q).imp fun ds S1 H1 ex q1 vs h => by
    match ds, h, q1 with
    | [da], h, q1 =>
      obtain ⟨v, rfl, hv⟩ := DpAll.one' h
      unfold enumL at q1; dsimp only at q1
      cases e1 : itemsD da with
      | ok xs =>
        rw [e1] at q1
        obtain ⟨k1, a1, vs1, rfl, s1, d1⟩ := items_src (S := S1) (Same.refl S1) (Or.inl hv) e1
        exact ⟨k1, a1, vs1, rfl, s1.same ex.sub, Post.now ex.sub q1 _ (walks_en s1 d1)⟩
      | exc _ _ => cases da <;> cases e1
      | bad => rw [e1] at q1; exact (show False from q1).elim⟩
end
end VI

/-! VI 8: list comprehensions. -/
namespace VI
open PySem PySem.Spec PyProof.Rows L2

/-- in a comprehension's block no exception is served -/
def qb {α β : Type} (o : Out α) (k : α → Out β) : Out β := match o with
  | .ok a => k a
  | _ => .bad
def wipeE (env : Env) : List Nat → Env
  | [] => env
  | v :: vs => (wipeE env vs).set v .un
def lcL (t : Tgt) (tt : Env → Out Bool) (te : Env → Out D) (env : Env) : List D → Out (List D)
  | [] => .ok []
  | d :: ds => qb (bindT t d env) fun env1 => qb (tt env1) fun b => if b then qb (te env1) fun y => qb (lcL t tt te env ds) fun ys => .ok (y :: ys) else lcL t tt te env ds
def fLc (it : Env → Out (List D)) (t : Tgt) (vs : List Nat) (tt : Env → Out Bool) (te : Env → Out D) : Env → Out (List D) := fun env => (it env).bind fun ds => qb (lcL t tt te (wipeE env vs) ds) fun ys => if ys.length ≤ sizeLine then .ok ys else .bad
/-- two clauses -/
def lcL2 (t : Tgt) (tt : Env → Out Bool) (it1 : Env → Out (List D)) (t1 : Tgt) (vs1 : List Nat) (tt1 : Env → Out Bool) (te : Env → Out D) (env : Env) : List D → Out (List D)
  | [] => .ok []
  | d :: ds => qb (bindT t d env) fun env1 => qb (tt env1) fun b => if b then qb (it1 env1) fun es => qb (lcL t1 tt1 te (wipeE env1 vs1) es) fun xs => qb (lcL2 t tt it1 t1 vs1 tt1 te env ds) fun ys => .ok (xs ++ ys) else lcL2 t tt it1 t1 vs1 tt1 te env ds
def fLc2 (it : Env → Out (List D)) (t : Tgt) (vs : List Nat) (tt : Env → Out Bool) (it1 : Env → Out (List D)) (t1 : Tgt) (vs1 : List Nat) (tt1 : Env → Out Bool) (te : Env → Out D) : Env → Out (List D) := fun env =>
  (it env).bind fun ds => qb (lcL2 t tt it1 t1 vs1 tt1 te (wipeE env vs) ds) fun ys => if ys.length ≤ sizeLine then .ok ys else .bad
def bYes : Env → Out Bool := fun _ => .ok true
abbrev W0 : WX := fun _ _ _ _ => False

theorem qb_ok {α β : Type} {o : Out α} {k : α → Out β} {b : β} (h : qb o k = .ok b) : ∃ a, o = .ok a ∧ k a = .ok b := by
  cases o with
  | ok a => exact ⟨a, rfl, h⟩
  | exc c p => cases h
  | bad => cases h
theorem wipe_get (σ : St) : ∀ (vs : List Nat) (i : Nat), (wipe σ vs)[i]? = if i ∈ vs then (if i < σ.length then some none else none) else σ[i]?
  | [], i => by simp [wipe]
  | v :: vs, i => by
    unfold wipe
    by_cases h : v = i
    · subst h
      rw [List.getElem?_set]
      simp [wipe_length]
    · rw [List.getElem?_set_ne h, wipe_get σ vs i]
      simp [Ne.symm h]
theorem wipe_off {σ σ' : St} {ix vs : List Nat} (o : Off ix (wipe σ vs) σ') (h : ∀ i ∈ ix, i ∈ vs) : wipe σ' vs = wipe σ vs := by
  apply List.ext_getElem?
  intro i
  rw [wipe_get, wipe_get]
  have hl : σ'.length = σ.length := by rw [o.1, wipe_length]
  rw [hl]
  by_cases hi : i ∈ vs
  · rw [if_pos hi, if_pos hi]
  · rw [if_neg hi, if_neg hi, o.2 i (fun z => hi (h i z)), wipe_get, if_neg hi]
theorem SR.wiped {K : PySem.W.Frag} {B S H : Hp} {env : Env} {σ : St} (r : SR K B S env σ H) : ∀ vs : List Nat, SR K B S (wipeE env vs) (wipe σ vs) H
  | [] => r
  | v :: vs => (SR.wiped r vs).setUn

section
variable {K : PySem.W.Frag} {mg : Str → Option Value}
/-- a clause's tests, by values -/
abbrev VTs (X : Cx) (W : WX) (ifs : List Expr) (f : Env → Out Bool) : Prop := PTs X ifs (tT X.K X.mg W f)
/-- the growth while the new list at D is filled -/
structure LcI (K : PySem.W.Frag) (S1 H1 : Hp) (D : Addr) (S H : Hp) (acc : List PyData) : Prop where
  ext : Ext S1 H1 S H
  st : S D = none
  at_ : ∃ vs, H D = some (.lst vs) ∧ DpAll K S vs acc
theorem LcI.grow {S1 H1 S H S' H' : Hp} {D : Addr} {acc : List PyData} (l : LcI K S1 H1 D S H acc) (e : Ext S H S' H') : LcI K S1 H1 D S' H' acc := by
  obtain ⟨vs, h1, h2⟩ := l.at_
  exact ⟨l.ext.trans e, (e.new D _ h1).trans l.st, vs, e.hh _ _ h1, DpAll.mono e.ss h2⟩
theorem LcI.app {S1 H1 S H : Hp} {D : Addr} {acc : List PyData} {vs : List V} {y : V} {d : PyData} (l : LcI K S1 H1 D S H acc) (hD : H1 D = none) (hv : H D = some (.lst vs)) (hy : Dp K S y d) : LcI K S1 H1 D S (upd H D (.lst (vs ++ [y]))) (acc ++ [d]) := by
  obtain ⟨vs', h1, h2⟩ := l.at_
  rw [hv] at h1
  cases h1
  refine ⟨⟨l.ext.ss, fun b o e => ?_, fun b o e => ?_, l.ext.new⟩, l.st, _, upd_same, DpAll.append h2 (.cons hy .nil)⟩
  · rw [upd_ne (ne_of_none e hD)]; exact l.ext.hh b o e
  · rw [upd_ne (ne_of_none e l.st)]; exact l.ext.sub b o e

theorem tT_of {W : WX} {f : Env → Out Bool} {b : Bool} {B S H : Hp} {env : Env} {σ : St} {Q : Bool → Hp → Prop} (r : SR K B S env σ H) (e : f env = .ok b) (h : ∀ S' H', Ext S H S' H' → Q b H') : tT K mg W f σ H Q := ⟨B, S, env, r, by rw [e]; exact h⟩
theorem tV_of {W : WX} {f : Env → Out D} {d : D} {B S H : Hp} {env : Env} {σ : St} {Q : VK} (r : SR K B S env σ H) (e : f env = .ok d) (h : ∀ S' H' v, Ext S H S' H' → Dp K S' v d → Q v H') : tV K mg W f σ H Q := ⟨B, S, env, r, by rw [e]; exact fun S' H' x v hv => h S' H' v x hv⟩
theorem tIp_of {W : WX} {f : Env → Out (List D)} {ds : List D} {B S H : Hp} {env : Env} {σ : St} {R : It → Hp → Prop} (r : SR K B S env σ H) (e : f env = .ok ds) (h : ∀ S' H' J, Ext S H S' H' → Walks K J S' H' ds → R J H') : tIp K mg W f σ H R := ⟨B, S, env, r, by rw [e]; exact fun S' H' x J w => h S' H' J x w⟩
theorem tG_of {t : Tgt} {B S H : Hp} {env env' : Env} {σ : St} {v : V} {d : D} {Q : St → Hp → Prop} (r : SR K B S env σ H) (hv : Dp K S v d) (e : bindT t d env = .ok env') (h : ∀ σ', Off t.ix σ σ' → SR K B S env' σ' H → Q σ' H) : tG K t v σ H Q := ⟨B, S, env, d, env', r, hv, e, h⟩


def NoD (D : Addr) (env : Env) (σ : St) : Prop := ∀ i, (sg env i).isOwn = true → σ.getD i none ≠ some (.ref D)
/-- what grew but the list at D -/
structure Car (K : PySem.W.Frag) (D : Addr) (S1 H1 S H : Hp) : Prop where
  gs : Same S1 S
  gro : ∀ b o, b ≠ D → H1 b = some o → H b = some o
  car : ∀ B env σ, NoD D env σ → SR K B S1 env σ H1 → SR K B S env σ H
theorem Car.refl {D : Addr} {S H : Hp} : Car K D S H S H := ⟨Same.refl _, fun _ _ _ e => e, fun _ _ _ _ r => r⟩
theorem Car.ext {D : Addr} {S1 H1 S H S' H' : Hp} (c : Car K D S1 H1 S H) (e : Ext S H S' H') : Car K D S1 H1 S' H' := ⟨c.gs.trans e.ss, fun b o n q => e.hh b o (c.gro b o n q), fun B env σ n r => (c.car B env σ n r).ext e⟩
theorem SR.updD {B S H : Hp} {env : Env} {σ : St} {D : Addr} {o : HO} (r : SR K B S env σ H) (n : NoD D env σ) (hs : S D = none) : SR K B S env σ (upd H D o) :=
  ⟨fun b u e => by rw [upd_ne (ne_of_none e hs)]; exact r.sub b u e, r.len, fun i => (r.rel i).other (a := D) (Same.refl _) (fun _ _ => rfl) (fun b nb => upd_ne nb) (n i), r.apart, r.fresh⟩
theorem Car.upd {D : Addr} {S1 H1 S H : Hp} {o : HO} (c : Car K D S1 H1 S H) (hs : S D = none) : Car K D S1 H1 S (upd H D o) :=
  ⟨c.gs, fun b u n q => by rw [upd_ne n]; exact c.gro b u n q, fun B env σ n r => (c.car B env σ n r).updD n hs⟩
theorem Car.trans {D : Addr} {S1 H1 S H S2 H2 : Hp} (c : Car K D S1 H1 S H) (d : Car K D S H S2 H2) : Car K D S1 H1 S2 H2 := ⟨c.gs.trans d.gs, fun b o n q => d.gro b o n (c.gro b o n q), fun B env σ n r => d.car B env σ n (c.car B env σ n r)⟩
theorem drop_cons {α : Type} {l : List α} {i : Nat} {d : α} (h : l[i]? = some d) : l.drop i = d :: l.drop (i + 1) := by
  obtain ⟨hi, e⟩ := List.getElem?_eq_some_iff.mp h
  rw [← e]
  exact List.drop_eq_getElem_cons hi
/-- the turns of a one-clause comprehension -/
theorem lc_turns {J : It} {t : Tgt} {tt : Env → Out Bool} {te : Env → Out D} {B Sw Hw S1 H1 : Hp} {env : Env} {σ : St} {ds : List D} {D : Addr} {vs : List Nat} {Fin : Hp → Prop} {pre ys : List PyData} {S0 H0 : Hp}
    (w : Walks K J Sw Hw ds) (hwD : Hw D = none) (hD0 : H0 D = none) (l0 : LcI K S0 H0 D S1 H1 pre) (sr : SR K B S1 env σ H1) (noD : NoD D env σ) (hs1 : Same Sw S1) (hs2 : Same Hw H1)
    (hl : lcL t tt te (wipeE env vs) ds = .ok ys) (hz : (pre ++ ys).length ≤ sizeLine) (hix : ∀ i ∈ t.ix, i ∈ vs) (fin : ∀ S H, LcI K S0 H0 D S H (pre ++ ys) → Car K D S1 H1 S H → Fin H) :
    ∃ W : Nat → Nat → Hp → Prop, (∃ m, W 0 m H1) ∧ ∀ i m H, W i m H →
      (J.stop i H ∧ Fin H) ∨ (J.go i H ∧ ∃ Nx : Hp → Prop, (∀ H', Nx H' → ∃ m', m' < m ∧ W (i + 1) m' H') ∧ ∀ x H', J.yld i H x H' → tG K t x (wipe σ vs) H' fun σ2 H2 => wipe σ2 vs = wipe σ vs ∧ tT K mg W0 tt σ2 H2 fun b H3 =>
        if b = true then tV K mg W0 te σ2 H3 fun y H4 => ∃ acc, H4 D = some (.lst acc) ∧ acc.length < sizeLine ∧ Nx (upd H4 D (.lst (acc ++ [y]))) else Nx H3) := by
  refine ⟨fun i m H => m = ds.length - i ∧ i ≤ ds.length ∧ ∃ S acc rest, LcI K S0 H0 D S H acc ∧ Car K D S1 H1 S H ∧ lcL t tt te (wipeE env vs) (ds.drop i) = .ok rest ∧ pre ++ ys = acc ++ rest,
    ⟨ds.length, by simp, Nat.zero_le _, S1, pre, ys, l0, .refl, by simpa using hl, rfl⟩, ?_⟩
  rintro i m H ⟨rfl, hi, S, acc, rest, l, c, hr, ha⟩
  have sS : Same Sw S := hs1.trans c.gs
  have sH : Same Hw H := fun b o e => c.gro b o (ne_of_none e hwD) (hs2 b o e)
  have wk := w S H sS sH l.ext.sub i
  rcases Nat.lt_or_ge i ds.length with hlt | hge
  · have hd : ds[i]? = some ds[i] := List.getElem?_eq_getElem hlt
    obtain ⟨go, yl⟩ := wk.1 _ hd
    rw [drop_cons hd] at hr
    unfold lcL at hr
    obtain ⟨env1, b1, hr⟩ := qb_ok hr
    obtain ⟨b, b2, hr⟩ := qb_ok hr
    refine .inr ⟨go, fun H' => ∃ S acc rest, LcI K S0 H0 D S H' acc ∧ Car K D S1 H1 S H' ∧ lcL t tt te (wipeE env vs) (ds.drop (i + 1)) = .ok rest ∧ pre ++ ys = acc ++ rest,
      fun H' ⟨S', acc', rest', q⟩ => ⟨ds.length - (i + 1), by omega, rfl, hlt, S', acc', rest', q⟩, fun x H' y => ?_⟩
    obtain ⟨S', ex, dx⟩ := yl x H' y
    have sr' := ((c.car B env σ noD sr).ext ex).wiped vs
    refine tG_of sr' dx b1 fun σ' off sr2 => ⟨wipe_off off hix, tT_of sr2 b2 fun S2 H2 ex2 => ?_⟩
    have exx := ex.trans ex2
    cases b with
    | false =>
      rw [if_neg Bool.false_ne_true]
      exact ⟨S2, acc, rest, l.grow exx, c.ext exx, hr, ha⟩
    | true =>
      rw [if_pos rfl] at hr ⊢
      obtain ⟨y, b3, hr⟩ := qb_ok hr
      obtain ⟨rest', b4, hr⟩ := qb_ok hr
      cases hr
      refine tV_of (sr2.ext ex2) b3 fun S3 H3 v ex3 hv => ?_
      have ex4 := exx.trans ex3
      have l3 := l.grow ex4
      obtain ⟨us, h1, h2⟩ := l3.at_
      refine ⟨us, h1, ?_, S3, acc ++ [y], rest', l3.app hD0 h1 hv, (c.ext ex4).upd l3.st, b4, by rw [ha]; simp⟩
      have := DpAll.length h2
      rw [ha] at hz
      simp at hz
      omega
  · have e : i = ds.length := by omega
    subst e
    rw [List.drop_length] at hr
    cases hr
    rw [List.append_nil] at ha
    exact .inl ⟨wk.2 rfl, fin S H (ha ▸ l) c⟩
theorem noD_of {B S H : Hp} {env : Env} {σ : St} {D : Addr} (r : SR K B S env σ H) (hD : H D = none) : NoD D env σ := fun i h e => by
  cases q : sg env i with
  | un => rw [q] at h; cases h
  | val d => rw [q] at h; cases h
  | exn a => rw [q] at h; cases h
  | own ds =>
    obtain ⟨a, vs, _, e2, _, _, h2, _⟩ := r.own q
    rw [e] at e2
    cases e2
    rw [hD] at h2
    cases h2
end
def onlyD (D : Addr) : Hp := fun a => if a = D then some (.lst []) else none
theorem SR.rebase {K : PySem.W.Frag} {B S H : Hp} {env : Env} {σ : St} {D : Addr} (r : SR K B S env σ H) (n : NoD D env σ) : SR K (onlyD D) S env σ H := ⟨r.sub, r.len, r.rel, r.apart, fun i a h e => by
  unfold onlyD
  rw [if_neg]
  intro z
  rw [z] at e
  exact n i h e⟩
section
variable {X : Cx} {W : WX} {elt tg iter tg1 iter1 : Expr} {ifs ifs1 : List Expr} {scope : Scope} {pos : Pos}
theorem vts_nil : VTs X W [] bYes := ⟨fun pins s σ H Q I ⟨B, S, env, sr, q⟩ => pts_nil.run pins s σ H Q I (Post.now (S := S) sr.sub q)⟩
theorem vts_one {c : Expr} {f : Env → Out Bool} (h : VT X W c f) : VTs X W [c] f := pts_one h
theorem lc_read {K : PySem.W.Frag} {mg : Str → Option Value} {it : Env → Out (List D)} {t : Tgt} {tt : Env → Out Bool} {te : Env → Out D} (own : List (Str × Nat)) (hix : ∀ i ∈ t.ix, i ∈ own.map (·.2)) :
    ∀ σ H Q, tF K mg W (fLc it t (own.map (·.2)) tt te) σ H Q → tLc (tIp K mg W it) (tG K t) (tT K mg W0 tt) (tV K mg W0 te) (own.map (·.2)) σ H Q := fun σ H Q ⟨B, S, env, sr, q⟩ => ⟨B, S, env, sr, (Post.bind q).imp fun ds S1 H1 ex q1 J w D hD => by
    cases e : lcL t tt te (wipeE env (own.map (·.2))) ds with
    | exc c p => rw [e] at q1; exact (show False from q1).elim
    | bad => rw [e] at q1; exact (show False from q1).elim
    | ok ys =>
      rw [e] at q1
      unfold qb at q1; dsimp only at q1
      by_cases hz : ys.length ≤ sizeLine
      · rw [if_pos hz] at q1
        have sD : S1 D = none := ex.sub.free hD
        have sr1 := sr.ext ex
        have nD := noD_of sr1 hD
        have exf := Ext.fresh (o := .lst []) ex.sub hD
        have l0 : LcI K S1 H1 D S1 (upd H1 D (.lst [])) [] := ⟨exf, sD, [], upd_same, .nil⟩
        refine lc_turns (mg := mg) (pre := []) w hD hD l0 (sr1.ext exf) nD (Same.refl _) exf.hh e hz hix fun S2 H2 l2 c2 => ?_
        obtain ⟨us, h1, h2⟩ := l2.at_
        exact q1 S2 H2 l2.ext D us (ex.hh.free hD) l2.st h1 h2
      · rw [if_neg hz] at q1; exact (show False from q1).elim⟩
/-- [elt for t in iter if ..] -/
theorem vf_lc {it : Env → Out (List D)} {t : Tgt} {tt : Env → Out Bool} {te : Env → Out D} (own : List (Str × Nat)) (hc : X.calm = true) (hN : X.N.Nodup) (hi : VIp X W tg iter it) (ok : blkC X.N X.env.scope scope own = true)
    (hg : ∀ (s : Shared) (H : Hp) (C : Addr) (cl : List (Str × Addr)) (fp : List Addr), VG (X.blk s H scope (compEnvC scope cl C X.env) fp) tg t)
    (ht : ∀ (s : Shared) (H : Hp) (C : Addr) (cl : List (Str × Addr)) (fp : List Addr), VTs (X.blk s H scope (compEnvC scope cl C X.env) fp) W0 ifs tt)
    (he : ∀ (s : Shared) (H : Hp) (C : Addr) (cl : List (Str × Addr)) (fp : List Addr), VE (X.blk s H scope (compEnvC scope cl C X.env) fp) W0 elt te)
    (hix : ∀ i ∈ t.ix, i ∈ own.map (·.2) := by decide) (hs : ∀ x, foldedSetIterable iter X.env x = pure x := by intro _; rfl) :
    VF X W (.ListComp elt [⟨tg, iter, ifs, 0⟩] scope pos) (fLc it t (own.map (·.2)) tt te) :=
  PE_imp (pe_lc hc hN hi (blkOk_by ok) hg ht he hs) (lc_read own hix)
theorem lc2_read {K : PySem.W.Frag} {mg : Str → Option Value} {it it1 : Env → Out (List D)} {t t1 : Tgt} {tt tt1 : Env → Out Bool} {te : Env → Out D} (own : List (Str × Nat)) (vs1 : List Nat) (hv : ∀ i ∈ vs1, i ∈ own.map (·.2)) (hix : ∀ i ∈ t.ix, i ∈ own.map (·.2)) (hix1 : ∀ i ∈ t1.ix, i ∈ vs1) :
    ∀ σ H Q, tF K mg W (fLc2 it t (own.map (·.2)) tt it1 t1 vs1 tt1 te) σ H Q → tLc2 (tIp K mg W it) (tG K t) (tT K mg W0 tt) (tI K mg W0 it1) (tG K t1) (tT K mg W0 tt1) (tV K mg W0 te) (own.map (·.2)) vs1 σ H Q := fun σ H Q ⟨B, S, env, sr, q⟩ => ⟨B, S, env, sr, (Post.bind q).imp fun ds S1 H1 ex q1 J w D hD => by
    cases e : lcL2 t tt it1 t1 vs1 tt1 te (wipeE env (own.map (·.2))) ds with
    | exc c p => rw [e] at q1; exact (show False from q1).elim
    | bad => rw [e] at q1; exact (show False from q1).elim
    | ok ys =>
      rw [e] at q1
      unfold qb at q1; dsimp only at q1
      by_cases hz : ys.length ≤ sizeLine
      · rw [if_pos hz] at q1
        have sD : S1 D = none := ex.sub.free hD
        have sr1 := sr.ext ex
        have nD := noD_of sr1 hD
        have exf := Ext.fresh (o := .lst []) ex.sub hD
        have l0 : LcI K S1 H1 D S1 (upd H1 D (.lst [])) [] := ⟨exf, sD, [], upd_same, .nil⟩
        refine ⟨fun i m H => m = ds.length - i ∧ i ≤ ds.length ∧ ∃ S acc rest, LcI K S1 H1 D S H acc ∧ Car K D S1 (upd H1 D (.lst [])) S H ∧ lcL2 t tt it1 t1 vs1 tt1 te (wipeE env (own.map (·.2))) (ds.drop i) = .ok rest ∧ ys = acc ++ rest,
          ⟨ds.length, by simp, Nat.zero_le _, S1, [], ys, l0, .refl, by simpa using e, rfl⟩, ?_⟩
        rintro i m H2 ⟨rfl, hi, S, acc, rest, l, c, hr, ha⟩
        have sH : Same H1 H2 := l.ext.hh
        have wk := w S H2 c.gs sH l.ext.sub i
        rcases Nat.lt_or_ge i ds.length with hlt | hge
        · have hd : ds[i]? = some ds[i] := List.getElem?_eq_getElem hlt
          obtain ⟨go, yl⟩ := wk.1 _ hd
          rw [drop_cons hd] at hr
          unfold lcL2 at hr
          obtain ⟨env1, b1, hr⟩ := qb_ok hr
          obtain ⟨b, b2, hr⟩ := qb_ok hr
          refine .inr ⟨go, fun H' => ∃ S acc rest, LcI K S1 H1 D S H' acc ∧ Car K D S1 (upd H1 D (.lst [])) S H' ∧ lcL2 t tt it1 t1 vs1 tt1 te (wipeE env (own.map (·.2))) (ds.drop (i + 1)) = .ok rest ∧ ys = acc ++ rest,
            fun H' ⟨S', acc', rest', q⟩ => ⟨ds.length - (i + 1), by omega, rfl, hlt, S', acc', rest', q⟩, fun x H' y => ?_⟩
          obtain ⟨S', ex', dx⟩ := yl x H' y
          have srU := (c.car B env σ nD (sr1.ext exf)).ext ex'
          have sr' := (srU.rebase nD).wiped (own.map (·.2))
          refine tG_of sr' dx b1 fun σ' off sr2 => ⟨wipe_off off hix, tT_of sr2 b2 fun S2 H2 ex2 => ?_⟩
          have exx := ex'.trans ex2
          cases b with
          | false =>
            rw [if_neg Bool.false_ne_true]
            exact ⟨S2, acc, rest, l.grow exx, c.ext exx, hr, ha⟩
          | true =>
            rw [if_pos rfl] at hr ⊢
            obtain ⟨es, b3, hr⟩ := qb_ok hr
            obtain ⟨xs, b4, hr⟩ := qb_ok hr
            obtain ⟨rest', b5, hr⟩ := qb_ok hr
            cases hr
            have sr3 := sr2.ext ex2
            refine ⟨_, S2, env1, sr3, ?_⟩
            rw [b3]
            intro S3 H3 ex3 J1 w1
            have l3 := l.grow (exx.trans ex3)
            have c3 := c.ext (exx.trans ex3)
            have nD1 : NoD D env1 σ' := fun j ho hj => by
              have fr := sr2.fresh j D ho hj
              unfold onlyD at fr
              rw [if_pos rfl] at fr
              cases fr
            refine lc_turns (mg := mg) (pre := acc) w1 (l3.st) hD l3 (sr3.ext ex3) nD1 (Same.refl _) (ex3.sub) b4 (by rw [ha] at hz; simp at hz ⊢; omega) hix1 fun S4 H4 l4 c4 => ?_
            exact ⟨S4, acc ++ xs, rest', l4, c3.trans c4, b5, by rw [ha]; simp⟩
        · have ei : i = ds.length := by omega
          subst ei
          rw [List.drop_length] at hr
          cases hr
          rw [List.append_nil] at ha
          subst ha
          obtain ⟨us, h1, h2⟩ := l.at_
          exact .inl ⟨wk.2 rfl, q1 S H2 l.ext D us (ex.hh.free hD) l.st h1 h2⟩
      · rw [if_neg hz] at q1; exact (show False from q1).elim⟩
/-- [elt for t in iter if .. for t1 in iter1 if ..] -/
theorem vf_lc2 {it it1 : Env → Out (List D)} {t t1 : Tgt} {tt tt1 : Env → Out Bool} {te : Env → Out D} (own : List (Str × Nat)) (vs1 : List Nat) (hc : X.calm = true) (hN : X.N.Nodup) (hi : VIp X W tg iter it) (ok : blkC X.N X.env.scope scope own = true)
    (hg : ∀ (s : Shared) (H : Hp) (C : Addr) (cl : List (Str × Addr)) (fp : List Addr), VG (X.blk s H scope (compEnvC scope cl C X.env) fp) tg t)
    (ht : ∀ (s : Shared) (H : Hp) (C : Addr) (cl : List (Str × Addr)) (fp : List Addr), VTs (X.blk s H scope (compEnvC scope cl C X.env) fp) W0 ifs tt)
    (hi1 : ∀ (s : Shared) (H : Hp) (C : Addr) (cl : List (Str × Addr)) (fp : List Addr), VI (X.blk s H scope (compEnvC scope cl C X.env) fp) W0 tg1 iter1 it1)
    (hg1 : ∀ (s : Shared) (H : Hp) (C : Addr) (cl : List (Str × Addr)) (fp : List Addr), VG (X.blk s H scope (compEnvC scope cl C X.env) fp) tg1 t1)
    (ht1 : ∀ (s : Shared) (H : Hp) (C : Addr) (cl : List (Str × Addr)) (fp : List Addr), VTs (X.blk s H scope (compEnvC scope cl C X.env) fp) W0 ifs1 tt1)
    (he : ∀ (s : Shared) (H : Hp) (C : Addr) (cl : List (Str × Addr)) (fp : List Addr), VE (X.blk s H scope (compEnvC scope cl C X.env) fp) W0 elt te)
    (hv : ∀ i ∈ vs1, i ∈ own.map (·.2) := by decide) (hix : ∀ i ∈ t.ix, i ∈ own.map (·.2) := by decide) (hix1 : ∀ i ∈ t1.ix, i ∈ vs1 := by decide) (hs : ∀ x, foldedSetIterable iter X.env x = pure x := by intro _; rfl) (hs1 : ∀ env x, foldedSetIterable iter1 env x = pure x := by intro _ _; rfl) :
    VF X W (.ListComp elt [⟨tg, iter, ifs, 0⟩, ⟨tg1, iter1, ifs1, 0⟩] scope pos) (fLc2 it t (own.map (·.2)) tt it1 t1 vs1 tt1 te) :=
  PE_imp (pe_lc2 (vs1 := vs1) (g := tG X.K t) (g1 := tG X.K t1) (tt := tT X.K X.mg W0 tt) (tt1 := tT X.K X.mg W0 tt1) (wi1 := tI X.K X.mg W0 it1) (te := tV X.K X.mg W0 te) hc hN hi (blkOk_by ok) hv hg ht hi1 hg1 ht1 he hs hs1) (lc2_read own vs1 hv hix hix1)
end
end VI

/-! VI 9: statements. -/
namespace VI
open PySem PySem.Spec PyProof.Rows L2

/-- how a statement ends -/
inductive Rs where
  | nx (env : Env)
  | rt (d : D)
  | rtF (ds : List D)
  | bk (env : Env)
  | ct (env : Env)
  | exc (c : Str) (p : Option D) (env : Env)
  | bad
def Out.toS {α : Type} (o : Out α) (env : Env) (k : α → Rs) : Rs := match o with
  | .ok a => k a
  | .exc c p => .exc c p env
  | .bad => .bad
@[simp] theorem Out.toS_ok {α : Type} (a : α) (env : Env) (k : α → Rs) : (Out.ok a).toS env k = k a := Eq.trans rfl rfl
def Rs.then (r : Rs) (g : Env → Rs) : Rs := match r with
  | .nx env => g env
  | r => r
@[simp] theorem Rs.then_nx (env : Env) (g : Env → Rs) : (Rs.nx env).then g = g env := Eq.trans rfl rfl

def PostS (K : PySem.W.Frag) (mg : Str → Option Value) (W : WX) (B S0 : Hp) (r : Rs) (E : Ends) : Prop := match r with
  | .nx env => ∀ S σ H, SR K B S env σ H → Ext S0 B S H → E.nx σ H
  | .rt d => ∀ S H v, Ext S0 B S H → Dp K S v d → E.rt v H
  | .rtF ds => ∀ S H p vs, Ext S0 B S H → B p = none → S p = none → H p = some (.lst vs) → DpAll K S vs ds → E.rt (.ref p) H
  | .bk env => ∀ S σ H, SR K B S env σ H → Ext S0 B S H → E.bk σ H
  | .ct env => ∀ S σ H, SR K B S env σ H → Ext S0 B S H → E.ct σ H
  | .exc c p env => ∀ S σ H, SR K B S env σ H → Ext S0 B S H → EW K mg W c p σ S H
  | .bad => False
def tS (K : PySem.W.Frag) (mg : Str → Option Value) (W : WX) (f : Env → Rs) : TS := fun E σ H => ∃ B S0 env S, SR K B S env σ H ∧ Ext S0 B S H ∧ PostS K mg W B S0 (f env) E
abbrev VS (X : Cx) (W : WX) (st : Stmt) (f : Env → Rs) : Prop := PS X st (tS X.K X.mg W f)
abbrev VSs (X : Cx) (W : WX) (st : List Stmt) (f : Env → Rs) : Prop := PSs X st (tS X.K X.mg W f)
section
variable {K : PySem.W.Frag} {mg : Str → Option Value} {W : WX} {B S0 S H : Hp} {env : Env} {σ : St} {α : Type} {E : Ends}
/-- an expression within a statement -/
theorem inS {o : Out α} {k : α → Rs} {R : α → Hp → Hp → Prop} (sr : SR K B S env σ H) (ex : Ext S0 B S H) (q : PostS K mg W B S0 (o.toS env k) E)
    (h : ∀ a S' H', Ext S H S' H' → SR K B S' env σ H' → Ext S0 B S' H' → PostS K mg W B S0 (k a) E → R a S' H') : Post K mg W σ S H o R := by
  cases o with
  | ok a => exact fun S' H' e => h a S' H' e (sr.ext e) (ex.trans e) q
  | exc c p => exact fun S' H' e => q S' σ H' (sr.ext e) (ex.trans e)
  | bad => exact q
theorem PostS.ends {r : Rs} {E E' : Ends} (q : PostS K mg W B S0 r E) (hn : ∀ env S σ H, SR K B S env σ H → Ext S0 B S H → r = .nx env → E.nx σ H → E'.nx σ H) (hr : ∀ v H, E.rt v H → E'.rt v H) (hb : ∀ σ H, E.bk σ H → E'.bk σ H) (hc : ∀ σ H, E.ct σ H → E'.ct σ H) : PostS K mg W B S0 r E' := by
  cases r with
  | nx env => exact fun S σ H a b => hn env S σ H a b rfl (q S σ H a b)
  | rt d => exact fun S H v a b => hr v H (q S H v a b)
  | rtF ds => exact fun S H p vs a b c d e => hr _ H (q S H p vs a b c d e)
  | bk env => exact fun S σ H a b => hb σ H (q S σ H a b)
  | ct env => exact fun S σ H a b => hc σ H (q S σ H a b)
  | exc c p env => exact q
  | bad => exact q
end

/-! ### the statements' semantics -/
def sNil : Env → Rs := fun env => .nx env
def sSeq (f g : Env → Rs) : Env → Rs := fun env => (f env).then g
def sSet (i : Nat) (f : Env → Out D) : Env → Rs := fun env => (f env).toS env fun d => .nx (env.set i (.val d))
def sOwn (i : Nat) (f : Env → Out (List D)) : Env → Rs := fun env => (f env).toS env fun ds => .nx (env.set i (.own ds))
def sDrop (f : Env → Out D) : Env → Rs := fun env => (f env).toS env fun _ => .nx env
def sRet (f : Env → Out D) : Env → Rs := fun env => (f env).toS env .rt
def sRetF (f : Env → Out (List D)) : Env → Rs := fun env => (f env).toS env .rtF
def ownS (i : Nat) (env : Env) (k : List D → Rs) : Rs := match sg env i with
  | .own ds => k ds
  | _ => .bad
def sRetO (i : Nat) : Env → Rs := fun env => ownS i env .rtF
def sRetN : Env → Rs := fun _ => .rt .none
def sIf (c : Env → Out Bool) (f g : Env → Rs) : Env → Rs := fun env => (c env).toS env fun b => if b then f env else g env
/-- a list of one's own is given away first -/
def sFrz (i : Nat) (f : Env → Rs) : Env → Rs := fun env => match sg env i with
  | .own ds => f (env.set i (.val (.list ds)))
  | _ => f env
/-- a turn's end -/
def Rs.turn (r : Rs) (k : Env → Rs) : Rs := match r with
  | .nx env => k env
  | .ct env => k env
  | .bk env => .nx env
  | r => r
def forS (t : Tgt) (f : Env → Rs) : List D → Env → Rs
  | [], env => .nx env
  | d :: ds, env => match bindT t d env with
    | .ok env1 => (f env1).turn (forS t f ds)
    | _ => .bad
def sFor (it : Env → Out (List D)) (t : Tgt) (f : Env → Rs) : Env → Rs := fun env => (it env).toS env fun ds => forS t f ds env
def whileS (c : Env → Out Bool) (f : Env → Rs) : Nat → Env → Rs
  | 0, _ => .bad
  | n + 1, env => (c env).toS env fun b => if b then (f env).turn (whileS c f n) else .nx env
def sWhile (n : Nat) (c : Env → Out Bool) (f : Env → Rs) : Env → Rs := whileS c f n
def sBk : Env → Rs := fun env => .bk env
def sCt : Env → Rs := fun env => .ct env
def sApp (i : Nat) (f : Env → Out D) : Env → Rs := fun env => ownS i env fun ds => (f env).toS env fun d => if ds.length < sizeLine then .nx (env.set i (.own (ds ++ [d]))) else .bad
def sExt (i : Nat) (f : Env → Out (List D)) : Env → Rs := fun env => ownS i env fun ds => (f env).toS env fun es => if ds.length + es.length ≤ sizeLine then .nx (env.set i (.own (ds ++ es))) else .bad
def ixD (n : Nat) : D → Option Nat
  | .int k => ixN n k
  | _ => none
def sPut (i : Nat) (fk fe : Env → Out D) : Env → Rs := fun env => (fe env).toS env fun d => ownS i env fun ds => (fk env).toS env fun k => match ixD ds.length k with
  | some j => .nx (env.set i (.own (ds.set j d)))
  | none => .bad
def augF : Operator → Option (Int → Int → Int)
  | .Add => some fun i j => i + j
  | .Sub => some fun i j => i - j
  | _ => none
def intD : D → Out Int
  | .int i => .ok i
  | _ => .bad
/-- xs[k] op= e, ints -/
def sPutA (g : Int → Int → Int) (i : Nat) (fk fe : Env → Out D) : Env → Rs := fun env => ownS i env fun ds => (fk env).toS env fun k => match ixD ds.length k with
  | some j => match ds[j]? with
    | some (.int z) => ((fe env).bind intD).toS env fun d => .nx (env.set i (.own (ds.set j (.int (g z d)))))
    | _ => .bad
  | none => .bad
/-- name op= e, ints -/
def sAug (g : Int → Int → Int) (i : Nat) (fe : Env → Out D) : Env → Rs := fun env => match sg env i with
  | .val (.int z) => ((fe env).bind intD).toS env fun d => .nx (env.set i (.val (.int (g z d))))
  | _ => .bad
/-- name = own.pop() -/
def sPop (j i : Nat) : Env → Rs := fun env => ownS i env fun ds => match ds[ds.length - 1]? with
  | some d => .nx ((env.set i (.own ds.dropLast)).set j (.val d))
  | none => .bad
def sPopX (i : Nat) : Env → Rs := fun env => ownS i env fun ds => match ds[ds.length - 1]? with
  | some _ => .nx (env.set i (.own ds.dropLast))
  | none => .bad
def popAt (ds : List D) : D → Option (D × List D)
  | .int k => if -(2 ^ 63) ≤ k ∧ k < 2 ^ 63 then match seqIndex? k ds.length with
    | some n => match ds[n]? with
      | some d => some (d, ds.eraseIdx n)
      | none => none
    | none => none
    else none
  | _ => none
def sPopAt (j i : Nat) (f : Env → Out D) : Env → Rs := fun env => ownS i env fun ds => (f env).toS env fun k => match popAt ds k with
  | some (d, r) => .nx ((env.set i (.own r)).set j (.val d))
  | none => .bad
def sTgt (t : Tgt) (f : Env → Out D) : Env → Rs := fun env => (f env).toS env fun d => match bindT t d env with
  | .ok env' => .nx env'
  | _ => .bad
def sPar (i j : Nat) (g : Env → Out (List D)) : Env → Rs := fun env => (g env).toS env fun ds => match ds with
  | [a, b] => .nx ((env.set i (.val a)).set j (.val b))
  | _ => .bad
def sRaise (c : Str) : Env → Rs := fun env => .exc c none env

section
variable {X : Cx} {W : WX} {e c : Expr} {st : Stmt} {rest body orelse : List Stmt} {pos p p2 : Pos} {f g : Env → Rs}
theorem vs_bad : VS X W st (fun _ => .bad) := ⟨fun _ _ _ _ _ _ ⟨_, _, _, _, _, _, q⟩ => (show False from q).elim⟩
theorem vss_bad : VSs X W rest (fun _ => .bad) := ⟨fun _ _ _ _ _ _ ⟨_, _, _, _, _, _, q⟩ => (show False from q).elim⟩
theorem vss_nil : VSs X W [] sNil := PSs_imp pss_nil fun E σ H ⟨B, S0, env, S, sr, ex, q⟩ => q S σ H sr ex
theorem vss_cons (h1 : VS X W st f) (h2 : VSs X W rest g) : VSs X W (st :: rest) (sSeq f g) := PSs_imp (pss_cons h1 h2) fun E σ H ⟨B, S0, env, S, sr, ex, q⟩ => ⟨B, S0, env, S, sr, ex, by
  unfold sSeq at q
  cases r : f env with
  | nx env1 => rw [r] at q; exact fun S1 σ1 H1 sr1 ex1 => ⟨B, S0, env1, S1, sr1, ex1, q⟩
  | rt d => rw [r] at q; exact q
  | rtF d => rw [r] at q; exact q
  | bk d => rw [r] at q; exact q
  | ct d => rw [r] at q; exact q
  | exc c p e => rw [r] at q; exact q
  | bad => rw [r] at q; exact q⟩
theorem vss_one (h1 : VS X W st f) : VSs X W [st] f := pss_one h1
theorem vs_pass : VS X W (.Pass pos) sNil := PS_imp ps_pass fun E σ H ⟨B, S0, env, S, sr, ex, q⟩ => q S σ H sr ex
theorem vs_doc {x j} : VS X W (.Expr (.Constant (.str x) j p) pos) sNil := PS_imp ps_doc fun E σ H ⟨B, S0, env, S, sr, ex, q⟩ => q S σ H sr ex
theorem vs_bk : VS X W (.Break pos) sBk := PS_imp ps_break fun E σ H ⟨B, S0, env, S, sr, ex, q⟩ => q S σ H sr ex
theorem vs_ct : VS X W (.Continue pos) sCt := PS_imp ps_continue fun E σ H ⟨B, S0, env, S, sr, ex, q⟩ => q S σ H sr ex
theorem vs_frz (i : Nat) (h : VS X W st f) : VS X W st (sFrz i f) := PS_imp h fun E σ H ⟨B, S0, env, S, sr, ex, q⟩ => by
  unfold sFrz at q
  split at q
  · rename_i ds hs
    obtain ⟨a, vs, _, hB, hS, hH, _, sr2⟩ := sr.freeze hs
    exact ⟨B, S0, _, _, sr2, Ext.settle sr.sub hH hS hB ex, q⟩
  · exact ⟨B, S0, env, S, sr, ex, q⟩
theorem vss_frz (i : Nat) (h : VSs X W rest f) : VSs X W rest (sFrz i f) := PSs_imp h fun E σ H ⟨B, S0, env, S, sr, ex, q⟩ => by
  unfold sFrz at q
  split at q
  · rename_i ds hs
    obtain ⟨a, vs, _, hB, hS, hH, _, sr2⟩ := sr.freeze hs
    exact ⟨B, S0, _, _, sr2, Ext.settle sr.sub hH hS hB ex, q⟩
  · exact ⟨B, S0, env, S, sr, ex, q⟩
theorem vs_drop {fe : Env → Out D} (he : VE X W e fe) (hs : swapsWith e none pos.line X.env = pure false := by rfl) : VS X W (.Expr e pos) (sDrop fe) :=
  PS_imp (ps_expr he hs) fun E σ H ⟨B, S0, env, S, sr, ex, q⟩ => ⟨B, S, env, sr, inS sr ex q fun a S' H' e' sr' ex' q' v hv => q' S' σ H' sr' ex'⟩
theorem vs_ret {fe : Env → Out D} (he : VE X W e fe) : VS X W (.Return (some e) pos) (sRet fe) :=
  PS_imp (ps_ret he) fun E σ H ⟨B, S0, env, S, sr, ex, q⟩ => ⟨B, S, env, sr, inS sr ex q fun a S' H' e' sr' ex' q' v hv => q' S' H' v ex' hv⟩
theorem vs_retF {fe : Env → Out (List D)} (he : VF X W e fe) : VS X W (.Return (some e) pos) (sRetF fe) :=
  PS_imp (ps_ret he) fun E σ H ⟨B, S0, env, S, sr, ex, q⟩ => ⟨B, S, env, sr, inS sr ex q fun a S' H' e' sr' ex' q' p' vs h1 h2 h3 h4 => q' S' H' p' vs ex' (ex.hh.free h1) h2 h3 h4⟩
theorem ownS_at {K : PySem.W.Frag} {mg : Str → Option Value} {B S0 : Hp} {E : Ends} {i : Nat} {env : Env} {k : List D → Rs} (q : PostS K mg W B S0 (ownS i env k) E) : ∃ ds, sg env i = .own ds ∧ PostS K mg W B S0 (k ds) E := by
  unfold ownS at q
  split at q
  · exact ⟨_, by assumption, q⟩
  · exact (show False from q).elim
theorem vs_retO (i : Nat) {x : Str} (hN : X.N[i]? = some x := by rfl) (hv : Vis X.env.scope x := by first | exact Or.inl rfl | exact Or.inr (Or.inl rfl) | exact Or.inr (Or.inr rfl)) (hd : (x == ("__debug__" : Str)) = false := by decide)
    (hcd : (x == ("__classdict__" : Str)) = false := by decide) : VS X W (.Return (some (.Name x p)) pos) (sRetO i) :=
  PS_imp (ps_ret (pe_var hN hv hd hcd)) fun E σ H ⟨B, S0, env, S, sr, ex, q⟩ => by
    obtain ⟨ds, hs, q⟩ := ownS_at q
    obtain ⟨a, vs, e1, e2, _, h1, h2, h3⟩ := sr.own hs
    exact ⟨_, e1, q S H a vs ex (sr.fresh i a (by rw [hs]; rfl) e2) h1 h2 h3⟩
theorem vs_retN : VS X W (.Return none pos) sRetN := PS_imp ps_retN fun E σ H ⟨B, S0, env, S, sr, ex, q⟩ => q S H _ ex .non
theorem vs_if {fc : Env → Out Bool} (hc : VT X W c fc) (ha : VSs X W body f) (hb : VSs X W orelse g) : VS X W (.If c body orelse pos) (sIf fc f g) :=
  PS_imp (ps_if hc ha hb) fun E σ H ⟨B, S0, env, S, sr, ex, q⟩ => ⟨B, S, env, sr, inS sr ex q fun b S' H' e' sr' ex' q' => by
    cases b with
    | true => rw [if_pos rfl] at q' ⊢; exact ⟨B, S0, env, S', sr', ex', q'⟩
    | false => rw [if_neg Bool.false_ne_true] at q' ⊢; exact ⟨B, S0, env, S', sr', ex', q'⟩⟩
theorem vs_set (i : Nat) {x : Str} {fe : Env → Out D} (nd : X.N.Nodup) (he : VE X W e fe) (hN : X.N[i]? = some x := by rfl) (hx : Loc X.env.scope x := by first | exact Or.inl rfl | exact Or.inr rfl) (hs : swapsWith e (some (.Name x p)) pos.line X.env = pure false := by rfl)
    (hf : X.fn x = true ∨ X.env.scope.names.lookup x = some .local := by first | exact .inl rfl | exact .inr rfl | assumption) : VS X W (.Assign [.Name x p] e pos) (sSet i fe) :=
  PS_imp (ps_set nd hN hx he hs hf) fun E σ H ⟨B, S0, env, S, sr, ex, q⟩ => ⟨B, S, env, sr, inS sr ex q fun d S' H' e' sr' ex' q' v hv => q' S' _ H' (sr'.setVal hv) ex'⟩
theorem own_new {K : PySem.W.Frag} {B S H S' H' : Hp} {env : Env} {σ : St} {i : Nat} {p : Addr} {vs : List V} {ds : List D} (sr : SR K B S env σ H) (sr' : SR K B S' env σ H') (hB : B p = none) (h0 : H p = none) (h1 : S' p = none) (h2 : H' p = some (.lst vs)) (h3 : DpAll K S' vs ds) : SR K B S' (env.set i (.own ds)) (σ.set i (some (.ref p))) H' :=
  sr'.setOwn h1 h2 h3 hB fun j _ hj e => noD_of sr h0 j hj e
theorem vs_own (i : Nat) {x : Str} {fe : Env → Out (List D)} (nd : X.N.Nodup) (he : VF X W e fe) (hN : X.N[i]? = some x := by rfl) (hx : Loc X.env.scope x := by first | exact Or.inl rfl | exact Or.inr rfl) (hs : swapsWith e (some (.Name x p)) pos.line X.env = pure false := by rfl)
    (hf : X.fn x = true ∨ X.env.scope.names.lookup x = some .local := by first | exact .inl rfl | exact .inr rfl | assumption) : VS X W (.Assign [.Name x p] e pos) (sOwn i fe) :=
  PS_imp (ps_set nd hN hx he hs hf) fun E σ H ⟨B, S0, env, S, sr, ex, q⟩ => ⟨B, S, env, sr, inS sr ex q fun ds S' H' e' sr' ex' q' p' vs h0 h1 h2 h3 => q' S' _ H' (own_new sr sr' (ex.hh.free h0) h0 h1 h2 h3) ex'⟩
theorem vs_tgt {tg : Expr} {t : Tgt} {fe : Env → Out D} (he : VE X W e fe) (hg : VG X tg t) (hs : swapsWithSole [tg] e pos.line X.env = pure false := by rfl) (hw : swappedStores [tg] e X.env = pure none := by rfl)
    (h1 : (assignEach [tg] X.env).map (·.2) = [assign tg X.env] := by rfl) : VS X W (.Assign [tg] e pos) (sTgt t fe) :=
  PS_imp (ps_asg he hg hs hw h1) fun E σ H ⟨B, S0, env, S, sr, ex, q⟩ => ⟨B, S, env, sr, inS sr ex q fun d S' H' e' sr' ex' q' v hv => by
    split at q'
    · rename_i env' eb
      exact ⟨B, S', env, d, env', sr', hv, eb, fun σ' _ sr2 => q' S' σ' H' sr2 ex'⟩
    · exact (show False from q').elim⟩
theorem vs_par (i j : Nat) {x y : Str} {a b : Expr} {px py pt : Pos} {kt k2 pt2} {ga : Env → Out (List D)} (hc : X.calm = true) (nd : X.N.Nodup) (ha : VA X W [a, b] ga) (hi : X.N[i]? = some x := by rfl) (hj : X.N[j]? = some y := by rfl) (hij : i ≠ j := by decide)
    (hx : X.env.scope.names.lookup x = some .local := by rfl) (hy : X.env.scope.names.lookup y = some .local := by rfl)
    (hw : swappedStores [.Tuple [.Name x px, .Name y py] kt pt] (.Tuple [a, b] k2 pt2) X.env = pure (some [x, y]) := by rfl)
    (hs : swapsWithSole [.Tuple [.Name x px, .Name y py] kt pt] (.Tuple [a, b] k2 pt2) pos.line X.env = pure false := by rfl) :
    VS X W (.Assign [.Tuple [.Name x px, .Name y py] kt pt] (.Tuple [a, b] k2 pt2) pos) (sPar i j ga) :=
  PS_imp (ps_par hc nd hi hj hij hx hy ha hw hs) fun E σ H ⟨B, S0, env, S, sr, ex, q⟩ => ⟨B, S, env, sr, inS sr ex q fun ds S' H' e' sr' ex' q' vs hv => by
    match ds, hv, q' with
    | [d1, d2], hv, q' =>
      obtain ⟨v, w, rfl, h1, h2⟩ := DpAll.two' hv
      exact ⟨v, w, rfl, q' S' _ H' ((sr'.setVal h1).setVal h2) ex'⟩
    | [], hv, q' => exact (show False from q').elim
    | [_], hv, q' => exact (show False from q').elim
    | _ :: _ :: _ :: _, hv, q' => exact (show False from q').elim⟩

/-! ### loops -/
theorem vs_for {tg iter : Expr} {it : Env → Out (List D)} {t : Tgt} (hp : PassesOwn (model X.prog X.w) X.A X.env X.xe) (hc : X.calm = true) (hi : VI X W tg iter it) (hg : VG X tg t) (hb : VSs X W body f)
    (hs : ∀ x, foldedSetIterable iter X.env x = pure x := by intro _; rfl) : VS X W (.For tg iter body [] pos) (sFor it t f) :=
  PS_imp (ps_for hp hc hi hg hb hs) fun E σ H ⟨B, S0, env, S, sr, ex, q⟩ => ⟨B, S, env, sr, inS sr ex q fun ds S1 H1 e1 sr1 ex1 q1 J w => by
    refine ⟨fun i m σ H => m = ds.length - i ∧ i ≤ ds.length ∧ ∃ env S, SR X.K B S env σ H ∧ Ext S0 B S H ∧ Same S1 S ∧ PostS X.K X.mg W B S0 (forS t f (ds.drop i) env) E, ⟨ds.length, by simp, Nat.zero_le _, env, S1, sr1, ex1, Same.refl _, by simpa using q1⟩, ?_⟩
    rintro i m σ2 H2 ⟨rfl, hi, env2, S2, sr2, ex2, s12, q2⟩
    have wk := w S2 H2 s12 (s12.trans sr2.sub) sr2.sub i
    rcases Nat.lt_or_ge i ds.length with hlt | hge
    · have hd : ds[i]? = some ds[i] := List.getElem?_eq_getElem hlt
      obtain ⟨go, yl⟩ := wk.1 _ hd
      rw [drop_cons hd] at q2
      unfold forS at q2
      refine .inr ⟨go, fun σ' H' => ∃ env S, SR X.K B S env σ' H' ∧ Ext S0 B S H' ∧ Same S1 S ∧ PostS X.K X.mg W B S0 (forS t f (ds.drop (i + 1)) env) E, fun σ' H' q' => ⟨ds.length - (i + 1), by omega, rfl, hlt, q'⟩, fun x H' y => ?_⟩
      obtain ⟨S', ex', dx⟩ := yl x H' y
      split at q2
      · rename_i env3 eb
        have sr3 := sr2.ext ex'
        refine ⟨B, S', env2, _, env3, sr3, dx, eb, fun σ3 _ sr4 => ?_⟩
        have base := ex2.trans ex'
        -- the body runs from here: what stands still now stands still
        refine ⟨B, S', env3, S', sr4, ⟨Same.refl _, base.hh, base.sub, fun _ _ _ => rfl⟩, ?_⟩
        have up : ∀ {Sx Hx : Hp}, Ext S' B Sx Hx → Ext S0 B Sx Hx ∧ Same S1 Sx := fun {Sx Hx} z => ⟨⟨base.ss.trans z.ss, z.hh, z.sub, fun a o e => (z.new a o e).trans (base.new a o e)⟩, s12.trans (ex'.ss.trans z.ss)⟩
        cases r : f env3 with
        | nx env4 => rw [r] at q2; exact fun S4 σ4 H4 sr5 z => ⟨env4, S4, sr5, (up z).1, (up z).2, q2⟩
        | ct env4 => rw [r] at q2; exact fun S4 σ4 H4 sr5 z => ⟨env4, S4, sr5, (up z).1, (up z).2, q2⟩
        | bk env4 => rw [r] at q2; exact fun S4 σ4 H4 sr5 z => q2 S4 σ4 H4 sr5 (up z).1
        | rt d => rw [r] at q2; exact fun S4 H4 v z => q2 S4 H4 v (up z).1
        | rtF d => rw [r] at q2; exact fun S4 H4 p vs z => q2 S4 H4 p vs (up z).1
        | exc c p env4 => rw [r] at q2; exact fun S4 σ4 H4 sr5 z => q2 S4 σ4 H4 sr5 (up z).1
        | bad => rw [r] at q2; exact q2
      · exact (show False from q2).elim
    · have e : i = ds.length := by omega
      subst e
      rw [List.drop_length] at q2
      exact .inl ⟨wk.2 rfl, q2 S2 σ2 H2 sr2 ex2⟩⟩
theorem vs_while {fc : Env → Out Bool} (n : Nat) (hp : PassesOwn (model X.prog X.w) X.A X.env X.xe) (hc : VT X W c fc) (hb : VSs X W body f) : VS X W (.While c body [] pos) (sWhile n fc f) :=
  PS_imp (ps_while hp hc hb) fun E σ H ⟨B, S0, env, S, sr, ex, q⟩ => by
    refine ⟨fun m σ H => ∃ env S, SR X.K B S env σ H ∧ Ext S0 B S H ∧ PostS X.K X.mg W B S0 (whileS fc f m env) E, ⟨n, env, S, sr, ex, q⟩, ?_⟩
    rintro m σ2 H2 ⟨env2, S2, sr2, ex2, q2⟩
    cases m with
    | zero => exact (show False from q2).elim
    | succ m =>
      unfold whileS at q2
      refine ⟨B, S2, env2, sr2, inS sr2 ex2 q2 fun b S' H' e' sr' ex' q' => ?_⟩
      cases b with
      | false => rw [if_neg Bool.false_ne_true] at q' ⊢; exact q' S' σ2 H' sr' ex'
      | true =>
        rw [if_pos rfl] at q' ⊢
        refine ⟨fun σ' H' => ∃ env S, SR X.K B S env σ' H' ∧ Ext S0 B S H' ∧ PostS X.K X.mg W B S0 (whileS fc f m env) E, fun σ' H' z => ⟨m, Nat.lt_succ_self m, z⟩, B, S0, env2, S', sr', ex', ?_⟩
        cases r : f env2 with
        | nx env4 => rw [r] at q'; exact fun S4 σ4 H4 sr5 z => ⟨env4, S4, sr5, z, q'⟩
        | ct env4 => rw [r] at q'; exact fun S4 σ4 H4 sr5 z => ⟨env4, S4, sr5, z, q'⟩
        | bk env4 => rw [r] at q'; exact q'
        | rt d => rw [r] at q'; exact q'
        | rtF d => rw [r] at q'; exact q'
        | exc c p env4 => rw [r] at q'; exact q'
        | bad => rw [r] at q'; exact q'
end
end VI

/-! VI 10: statements that write own lists; raise. -/
namespace VI
open PySem PySem.Spec PyProof.Rows L2

section
variable {X : Cx} {W : WX} {e c : Expr} {st : Stmt} {pos p p2 apos cpos : Pos}
theorem ext_write {B S0 S H : Hp} {a : Addr} {o : HO} (ex : Ext S0 B S H) (hB : B a = none) (hS : S a = none) : Ext S0 B S (upd H a o) :=
  ⟨ex.ss, fun b u e => by rw [upd_ne (ne_of_none e hB)]; exact ex.hh b u e, fun b u e => by rw [upd_ne (ne_of_none e hS)]; exact ex.sub b u e, ex.new⟩
/-- the own list of a name is written in a statement -/
theorem own_write {K : PySem.W.Frag} {B S0 S H : Hp} {env : Env} {σ : St} {i : Nat} {ds ds' : List D} {a : Addr} {vs' : List V} (sr : SR K B S env σ H) (ex : Ext S0 B S H) (hs : sg env i = .own ds) (ha : σ.getD i none = some (.ref a)) (h' : DpAll K S vs' ds') :
    SR K B S (env.set i (.own ds')) σ (upd H a (.lst vs')) ∧ Ext S0 B S (upd H a (.lst vs')) := by
  obtain ⟨a', vs, _, e2, _, h1, h2, _⟩ := sr.own hs
  rw [ha] at e2; cases e2
  exact ⟨sr.writeOwn hs ha h', ext_write ex (sr.fresh i a (by rw [hs]; rfl) ha) h1⟩
theorem own_same {K : PySem.W.Frag} {B S H S' H' : Hp} {env : Env} {σ : St} {i : Nat} {ds : List D} (sr : SR K B S env σ H) (hs : sg env i = .own ds) : ∃ a vs, σ[i]? = some (some (.ref a)) ∧ σ.getD i none = some (.ref a) ∧ H a = some (.lst vs) ∧ S a = none ∧ DpAll K S vs ds ∧ ∀ {S' H'}, Ext S H S' H' → H' a = some (.lst vs) ∧ S' a = none ∧ DpAll K S' vs ds := by
  obtain ⟨a, vs, e1, e2, _, h1, h2, h3⟩ := sr.own hs
  exact ⟨a, vs, e1, e2, h2, h1, h3, fun ex => ⟨ex.hh _ _ h2, (ex.new a _ h2).trans h1, DpAll.mono ex.ss h3⟩⟩
theorem tyL {K : PySem.W.Frag} {H : Hp} {a : Addr} {vs : List V} (h : H a = some (.lst vs)) : tyV K "list" (.ref a) H := .inl ⟨rfl, vs, SqL.of h⟩
variable {x : Str}
theorem post_one {K : PySem.W.Frag} {mg : Str → Option Value} {σ : St} {S H : Hp} {f : Env → Out D} {env : Env} {R : D → Hp → Hp → Prop} (q : Post K mg W σ S H (f env) R) : Post K mg W σ S H (aCons f aNil env) fun ds S' H' => ∃ d, ds = [d] ∧ R d S' H' := by
  unfold aCons
  cases h : f env with
  | ok d => rw [h] at q; exact fun S' H' e => ⟨d, rfl, q S' H' e⟩
  | exc c p => rw [h] at q; exact q
  | bad => rw [h] at q; exact q
/-- xs.append(e) -/
theorem vs_app (i : Nat) {fe : Env → Out D} (he : VE X W e fe) (hN : X.N[i]? = some x := by rfl) (hv : Vis X.env.scope x := by first | exact Or.inl rfl | exact Or.inr (Or.inl rfl) | exact Or.inr (Or.inr rfl)) (hd : (x == ("__debug__" : Str)) = false := by decide)
    (hcd : (x == ("__classdict__" : Str)) = false := by decide) (hbase : attributeBase (.Name x p) "append" X.env (eval (.Name x p) X.env) = eval (.Name x p) X.env := by rfl)
    (hfew : ((backTo cpos (starEach [e] X.env)).all (fun x => !x.1) && (backToKw cpos (keywordEach [] X.env)).all (fun x => x.1.isSome)
      && decide ([e].length + ([] : List Keyword).length + (if ([] : List Keyword).isEmpty then 0 else 1) < 30)) = true := by rfl)
    (hline : (apos.endLine == cpos.line) = true := by rfl) (hst : starEach [e] X.env = (false, eval e X.env) :: starEach [] X.env := by rfl) (hplain : (backTo cpos (starEach [] X.env)).any (·.1) = false := by rfl)
    (hs : swapsWith (.Call (.Attribute (.Name x p) "append" apos) [e] [] cpos) none pos.line X.env = pure false := by rfl) :
    VS X W (.Expr (.Call (.Attribute (.Name x p) "append" apos) [e] [] cpos) pos) (sApp i fe) :=
  PS_imp (ps_expr (pe_bm F.plainAttrs_list F.slot_list_append F.type_list_append mt_append (pe_var hN hv hd hcd) (va_cons he va_nil hst) hbase hfew hline hst hplain) hs) fun E σ H ⟨B, S0, env, S, sr, ex, q⟩ => by
    obtain ⟨ds, hs, q⟩ := ownS_at q
    obtain ⟨a, vs, e1, e2, h1, h2, h3, ke⟩ := own_same (S' := S) (H' := H) sr hs
    refine ⟨_, e1, tyL h1, ⟨B, S, env, sr, (post_one (inS sr ex q fun d S' H' e' sr' ex' q' => (⟨e', sr', ex', q'⟩ : Ext S H S' H' ∧ SR X.K B S' env σ H' ∧ Ext S0 B S' H' ∧ _))).imp fun dl S' H' _ ⟨d, hd, e', sr', ex', q'⟩ ws hws => ?_⟩⟩
    subst hd
    obtain ⟨w, rfl, hw⟩ := DpAll.one' hws
    obtain ⟨k1, k2, k3⟩ := ke e'
    by_cases hz : ds.length < sizeLine
    · rw [if_pos hz] at q'
      refine ⟨a, vs, w, rfl, rfl, k1, by rw [DpAll.length k3]; exact hz, ?_⟩
      obtain ⟨sr2, ex2⟩ := own_write sr' ex' hs e2 (DpAll.append k3 (.cons hw .nil))
      exact q' S' σ _ sr2 ex2
    · rw [if_neg hz] at q'; exact (show False from q').elim
/-- xs[k] = e -/
theorem vs_put (i : Nat) {k : Expr} {fe fk : Env → Out D} {px ps : Pos} (he : VE X W e fe) (hk : VE X W k fk) (hN : X.N[i]? = some x := by rfl) (hv : Vis X.env.scope x := by first | exact Or.inl rfl | exact Or.inr (Or.inl rfl) | exact Or.inr (Or.inr rfl)) (hd : (x == ("__debug__" : Str)) = false := by decide)
    (hcd : (x == ("__classdict__" : Str)) = false := by decide)
    (ha : ∀ v, assign (.Subscript (.Name x px) k ps) X.env v = (do
      let ov ← holding [v] (eval (.Name x px) X.env)
      let iv ← holding [v, ov] (eval k X.env)
      standAt ps
      holding [v, ov, iv] (setItem ov iv v)
      release [v, ov, iv] []) := by intro _; rfl)
    (hs : swapsWithSole [.Subscript (.Name x px) k ps] e pos.line X.env = pure false := by rfl) (hw : swappedStores [.Subscript (.Name x px) k ps] e X.env = pure none := by rfl)
    (h1 : (assignEach [.Subscript (.Name x px) k ps] X.env).map (·.2) = [assign (.Subscript (.Name x px) k ps) X.env] := by rfl) :
    VS X W (.Assign [.Subscript (.Name x px) k ps] e pos) (sPut i fk fe) :=
  PS_imp (ps_asg he (pg_sub (pe_var hN hv hd hcd) hk set_list ha) hs hw h1) fun E σ H ⟨B, S0, env, S, sr, ex, q⟩ => ⟨B, S, env, sr, inS sr ex q fun d S1 H1 e1 sr1 ex1 q1 v hv => by
    obtain ⟨ds, hs, q1⟩ := ownS_at q1
    obtain ⟨a, vs, a1, a2, b1, b2, b3, ke⟩ := own_same (S' := S1) (H' := H1) sr1 hs
    refine ⟨_, a1, B, S1, env, sr1, inS sr1 ex1 q1 fun kd S2 H2 e2 sr2 ex2 q2 kv hkv => ?_⟩
    obtain ⟨k1, k2, k3⟩ := ke e2
    unfold ixD at q2
    cases hkv with
    | int z =>
      dsimp only at q2
      split at q2
      · rename_i j hj
        refine ⟨a, vs, z, j, rfl, rfl, k1, by rw [DpAll.length k3]; exact hj, ?_⟩
        obtain ⟨sr3, ex3⟩ := own_write sr2 ex2 hs a2 (DpAll.set j (Dp.mono e2.ss hv) k3)
        exact q2 S2 σ _ sr3 ex3
      · exact (show False from q2).elim
    | _ => exact (show False from q2).elim⟩
theorem pget_list : PGet X (rIxL X.K) := by
  intro pins s σ H x y v u Q I rx ry h
  obtain ⟨p, xs, i, z, rfl, rfl, hq, he, q⟩ := h
  cases rx
  obtain ⟨t, rfl⟩ := ry
  obtain ⟨its, r, pl, hz⟩ := I.list hq
  obtain ⟨j, h1, h2, h3, h4, h5⟩ := atI_get he
  obtain ⟨w, ew, rw'⟩ := r.get h2
  have hl := r.length
  have hn := line63
  have fin : EP X pins σ Q w s := ⟨z, H, I, rw', q⟩
  by_cases h0 : 0 ≤ i
  · have hj : i.toNat = j := by
      rw [seqIndex_of h0 h5] at h1
      exact Option.some.inj h1
    exact wpAny_getItem_list pl.isList h0 (by omega) (by rw [hj]; simpa using ew) fin
  · have hj : (i + (its.toArray.size : Int)).toNat = j := by
      rw [seqIndex_neg (by omega) h4] at h1
      rw [List.size_toArray, ← hl]
      exact Option.some.inj h1
    exact wpAny_getItem_list_neg pl.isList (by omega) (by rw [List.size_toArray] <;> omega) (by omega) (by rw [hj]; simpa using ew) fin
theorem int_of {K : PySem.W.Frag} {mg : Str → Option Value} {B S0 S H : Hp} {σ : St} {env : Env} {E : Ends} {o : Out D} {k : Int → Rs} {R : D → Hp → Hp → Prop} (sr : SR K B S env σ H) (ex : Ext S0 B S H) (q : PostS K mg W B S0 ((o.bind intD).toS env k) E)
    (h : ∀ i S' H', Ext S H S' H' → SR K B S' env σ H' → Ext S0 B S' H' → PostS K mg W B S0 (k i) E → R (.int i) S' H') : Post K mg W σ S H o R := by
  cases o with
  | ok d =>
    cases d with
    | int i => exact fun S' H' e => h i S' H' e (sr.ext e) (ex.trans e) q
    | _ => exact (show False from q).elim
  | exc c p => exact fun S' H' e => q S' σ H' (sr.ext e) (ex.trans e)
  | bad => exact q
/-- xs[k] op= e -/
theorem vs_putA (i : Nat) {op : Operator} {g : Int → Int → Int} (ho : PIp X op (ipI g)) {k : Expr} {fe fk : Env → Out D} {px ps : Pos} (hk : VE X W k fk) (he : VE X W e fe) (hN : X.N[i]? = some x := by rfl) (hv : Vis X.env.scope x := by first | exact Or.inl rfl | exact Or.inr (Or.inl rfl) | exact Or.inr (Or.inr rfl)) (hd : (x == ("__debug__" : Str)) = false := by decide)
    (hcd : (x == ("__classdict__" : Str)) = false := by decide)
    (ha : ∀ ov iv new, augStore k ov iv new = (do holding [new, ov, iv] (setItem ov iv new); release [new, ov, iv] []; pure .next) := by intros; rfl) :
    VS X W (.AugAssign (.Subscript (.Name x px) k ps) op e pos) (sPutA g i fk fe) :=
  PS_imp (ps_augS (pe_var hN hv hd hcd) hk pget_list he ho set_list ha) fun E σ H ⟨B, S0, env, S, sr, ex, q⟩ => by
    obtain ⟨ds, hs, q⟩ := ownS_at q
    obtain ⟨a, vs, a1, a2, b1, b2, b3, ke⟩ := own_same (S' := S) (H' := H) sr hs
    refine ⟨_, a1, B, S, env, sr, inS sr ex q fun kd S2 H2 e2 sr2 ex2 q2 kv hkv => ?_⟩
    obtain ⟨k1, k2, k3⟩ := ke e2
    unfold ixD at q2
    cases hkv with
    | int z =>
      dsimp only at q2
      split at q2
      · rename_i j hj
        split at q2
        · rename_i y hy
          obtain ⟨v, ev, hvv⟩ := DpAll.get k3 hy
          cases hvv
          have hl := DpAll.length k3
          refine ⟨a, vs, z, .int y, rfl, rfl, SqL.of k1, by unfold atI; rw [hl, hj]; exact ev, B, S2, env, sr2, int_of sr2 ex2 q2 fun w S3 H3 e3 sr3 ex3 q3 v hv => ?_⟩
          cases hv
          refine ⟨y, w, rfl, rfl, ?_⟩
          obtain ⟨l1, l2, l3⟩ := ke (e2.trans e3)
          refine ⟨a, vs, z, j, rfl, rfl, l1, by rw [hl]; exact hj, ?_⟩
          obtain ⟨sr4, ex4⟩ := own_write sr3 ex3 hs a2 (DpAll.set j (.int (g y w)) l3)
          exact q3 S3 σ _ sr4 ex4
        · exact (show False from q2).elim
      · exact (show False from q2).elim
    | _ => exact (show False from q2).elim
/-- name op= e -/
theorem vs_aug (i : Nat) {op : Operator} {g : Int → Int → Int} (ho : PIp X op (ipI g)) {fe : Env → Out D} (nd : X.N.Nodup) (he : VE X W e fe) (hN : X.N[i]? = some x := by rfl) (hx : Loc X.env.scope x := by first | exact Or.inl rfl | exact Or.inr rfl)
    (hf : X.fn x = true ∨ X.env.scope.names.lookup x = some .local := by first | exact .inl rfl | exact .inr rfl | assumption) : VS X W (.AugAssign (.Name x p) op e pos) (sAug g i fe) :=
  PS_imp (ps_aug nd hN hx he ho hf) fun E σ H ⟨B, S0, env, S, sr, ex, q⟩ => by
    unfold sAug at q
    split at q
    · rename_i z hz
      obtain ⟨v, e1, _, dv⟩ := sr.val hz
      cases dv
      refine ⟨_, e1, B, S, env, sr, int_of sr ex q fun w S3 H3 e3 sr3 ex3 q3 v hv => ?_⟩
      cases hv
      exact ⟨z, w, rfl, rfl, q3 S3 _ H3 (sr3.setVal (.int _)) ex3⟩
    · exact (show False from q).elim
theorem DpAll.dropLast {K : PySem.W.Frag} {H : Hp} : ∀ {vs : List V} {ds : List D}, DpAll K H vs ds → DpAll K H vs.dropLast ds.dropLast
  | _, _, .nil => .nil
  | _, _, .cons _ .nil => .nil
  | _, _, .cons a (.cons b t) => .cons a (DpAll.dropLast (.cons b t))
/-- y = xs.pop() -/
theorem vs_pop (j i : Nat) {y : Str} {py : Pos} (nd : X.N.Nodup) (hij : i ≠ j := by decide) (hN : X.N[i]? = some x := by rfl) (hM : X.N[j]? = some y := by rfl) (hv : Vis X.env.scope x := by first | exact Or.inl rfl | exact Or.inr (Or.inl rfl) | exact Or.inr (Or.inr rfl)) (hd : (x == ("__debug__" : Str)) = false := by decide)
    (hcd : (x == ("__classdict__" : Str)) = false := by decide) (hbase : attributeBase (.Name x p) "pop" X.env (eval (.Name x p) X.env) = eval (.Name x p) X.env := by rfl) (hline : (apos.endLine == cpos.line) = true := by rfl)
    (hx : Loc X.env.scope y := by first | exact Or.inl rfl | exact Or.inr rfl) (hs : swapsWith (.Call (.Attribute (.Name x p) "pop" apos) [] [] cpos) (some (.Name y py)) pos.line X.env = pure false := by rfl)
    (hf : X.fn y = true ∨ X.env.scope.names.lookup y = some .local := by first | exact .inl rfl | exact .inr rfl | assumption) :
    VS X W (.Assign [.Name y py] (.Call (.Attribute (.Name x p) "pop" apos) [] [] cpos) pos) (sPop j i) :=
  PS_imp (ps_set nd hM hx (pe_bm0 F.plainAttrs_list F.slot_list_pop F.type_list_pop mt_pop (pe_var hN hv hd hcd) hbase hline) hs hf) fun E σ H ⟨B, S0, env, S, sr, ex, q⟩ => by
    obtain ⟨ds, hs, q⟩ := ownS_at q
    obtain ⟨a, vs, a1, a2, b1, b2, b3, ke⟩ := own_same (S' := S) (H' := H) sr hs
    split at q
    · rename_i d hd'
      obtain ⟨v, ev, hvv⟩ := DpAll.get b3 hd'
      obtain ⟨sr4, ex4⟩ := own_write sr ex hs a2 (DpAll.dropLast b3)
      refine ⟨_, a1, tyL b1, a, vs, v, rfl, rfl, b1, by rw [DpAll.length b3]; exact ev, ?_⟩
      exact q S _ _ (sr4.setVal hvv) ex4
    · exact (show False from q).elim
/-- xs.pop() -/
theorem vs_popX (i : Nat) (hN : X.N[i]? = some x := by rfl) (hv : Vis X.env.scope x := by first | exact Or.inl rfl | exact Or.inr (Or.inl rfl) | exact Or.inr (Or.inr rfl)) (hd : (x == ("__debug__" : Str)) = false := by decide)
    (hcd : (x == ("__classdict__" : Str)) = false := by decide) (hbase : attributeBase (.Name x p) "pop" X.env (eval (.Name x p) X.env) = eval (.Name x p) X.env := by rfl) (hline : (apos.endLine == cpos.line) = true := by rfl)
    (hs : swapsWith (.Call (.Attribute (.Name x p) "pop" apos) [] [] cpos) none pos.line X.env = pure false := by rfl) :
    VS X W (.Expr (.Call (.Attribute (.Name x p) "pop" apos) [] [] cpos) pos) (sPopX i) :=
  PS_imp (ps_expr (pe_bm0 F.plainAttrs_list F.slot_list_pop F.type_list_pop mt_pop (pe_var hN hv hd hcd) hbase hline) hs) fun E σ H ⟨B, S0, env, S, sr, ex, q⟩ => by
    obtain ⟨ds, hs, q⟩ := ownS_at q
    obtain ⟨a, vs, a1, a2, b1, b2, b3, ke⟩ := own_same (S' := S) (H' := H) sr hs
    split at q
    · rename_i d hd'
      obtain ⟨v, ev, hvv⟩ := DpAll.get b3 hd'
      obtain ⟨sr4, ex4⟩ := own_write sr ex hs a2 (DpAll.dropLast b3)
      exact ⟨_, a1, tyL b1, a, vs, v, rfl, rfl, b1, by rw [DpAll.length b3]; exact ev, q S _ _ sr4 ex4⟩
    · exact (show False from q).elim
/-- y = xs.pop(k) -/
theorem vs_popAt (j i : Nat) {y : Str} {py : Pos} {fe : Env → Out D} (nd : X.N.Nodup) (he : VE X W e fe) (hN : X.N[i]? = some x := by rfl) (hM : X.N[j]? = some y := by rfl) (hv : Vis X.env.scope x := by first | exact Or.inl rfl | exact Or.inr (Or.inl rfl) | exact Or.inr (Or.inr rfl)) (hd : (x == ("__debug__" : Str)) = false := by decide)
    (hcd : (x == ("__classdict__" : Str)) = false := by decide) (hbase : attributeBase (.Name x p) "pop" X.env (eval (.Name x p) X.env) = eval (.Name x p) X.env := by rfl)
    (hfew : ((backTo cpos (starEach [e] X.env)).all (fun x => !x.1) && (backToKw cpos (keywordEach [] X.env)).all (fun x => x.1.isSome)
      && decide ([e].length + ([] : List Keyword).length + (if ([] : List Keyword).isEmpty then 0 else 1) < 30)) = true := by rfl)
    (hline : (apos.endLine == cpos.line) = true := by rfl) (hst : starEach [e] X.env = (false, eval e X.env) :: starEach [] X.env := by rfl) (hplain : (backTo cpos (starEach [] X.env)).any (·.1) = false := by rfl)
    (hx : Loc X.env.scope y := by first | exact Or.inl rfl | exact Or.inr rfl) (hs : swapsWith (.Call (.Attribute (.Name x p) "pop" apos) [e] [] cpos) (some (.Name y py)) pos.line X.env = pure false := by rfl)
    (hf : X.fn y = true ∨ X.env.scope.names.lookup y = some .local := by first | exact .inl rfl | exact .inr rfl | assumption) :
    VS X W (.Assign [.Name y py] (.Call (.Attribute (.Name x p) "pop" apos) [e] [] cpos) pos) (sPopAt j i fe) :=
  PS_imp (ps_set nd hM hx (pe_bm F.plainAttrs_list F.slot_list_pop F.type_list_pop mt_popAt (pe_var hN hv hd hcd) (va_cons he va_nil hst) hbase hfew hline hst hplain) hs hf) fun E σ H ⟨B, S0, env, S, sr, ex, q⟩ => by
    obtain ⟨ds, hs, q⟩ := ownS_at q
    obtain ⟨a, vs, a1, a2, b1, b2, b3, ke⟩ := own_same (S' := S) (H' := H) sr hs
    refine ⟨_, a1, tyL b1, ⟨B, S, env, sr, (post_one (inS sr ex q fun d S' H' e' sr' ex' q' => (⟨e', sr', ex', q'⟩ : Ext S H S' H' ∧ SR X.K B S' env σ H' ∧ Ext S0 B S' H' ∧ _))).imp fun dl S' H' _ ⟨d, hd, e', sr', ex', q'⟩ ws hws => ?_⟩⟩
    subst hd
    obtain ⟨w, rfl, hw⟩ := DpAll.one' hws
    obtain ⟨k1, k2, k3⟩ := ke e'
    unfold popAt at q'
    cases hw with
    | int z =>
      dsimp only at q'
      split at q'
      · rename_i d r hd'
        split at hd'
        · rename_i hz
          split at hd'
          · rename_i n hn
            split at hd'
            · rename_i d' hd2
              cases hd'
              obtain ⟨v, ev, hvv⟩ := DpAll.get k3 hd2
              obtain ⟨sr4, ex4⟩ := own_write sr' ex' hs a2 (DpAll.eraseIdx n k3)
              exact ⟨a, vs, z, n, v, rfl, rfl, k1, hz.1, hz.2, by rw [DpAll.length k3]; exact hn, ev, q' S' _ _ (sr4.setVal hvv) ex4⟩
            · cases hd'
          · cases hd'
        · cases hd'
      · exact (show False from q').elim
    | _ => exact (show False from q').elim
/-- raise of an own class, its text a constant -/
theorem vs_raise {B newId initId : String} {bmB : List Value} {C : Addr} {m : Str} {j : Nat} (hc : X.calm = true) (tk : Takes X W) (F : ExcBaseFacts B newId initId bmB) (q : PySem.W.excIn X.K C bmB newId = true) (gC : X.mg x = some (.ref C)) (kC : PySem.W.keepIn X.K (.ref C) = true)
    (h1 : PySem.W.subIn X.K (.ref C) (.type "BaseException") = some true) (h2 : PySem.W.typeIn X.K (.ref C) = some (.type "type")) (hg : Gl X x := by rfl) (hdb : (x == ("__debug__" : Str)) = false := by decide) :
    VS X W (.Raise (some (.Call (.Name x p) [.Constant (.str m) j p2] [] cpos)) none pos) (sRaise x) :=
  PS_imp (ps_raise hc tk (pmk_own F q gC kC (raises_own h1 h2) hg hdb)) fun E σ H ⟨B, S0, env, S, sr, ex, q⟩ => q S σ H sr ex C gC
/-- name = [..] on one line -/
theorem vs_ownLc (i : Nat) {y : Str} {py : Pos} {elt tg iter : Expr} {ifs : List Expr} {scope : Scope} {it : Env → Out (List D)} {t : Tgt} {tt : Env → Out Bool} {te : Env → Out D} (own : List (Str × Nat)) (hc : X.calm = true) (hN : X.N.Nodup) (hi : VIp X W tg iter it) (ok : blkC X.N X.env.scope scope own = true)
    (hg : ∀ (s : Shared) (H : Hp) (C : Addr) (cl : List (Str × Addr)) (fp : List Addr), VG (X.blk s H scope (compEnvC scope cl C X.env) fp) tg t)
    (ht : ∀ (s : Shared) (H : Hp) (C : Addr) (cl : List (Str × Addr)) (fp : List Addr), VTs (X.blk s H scope (compEnvC scope cl C X.env) fp) W0 ifs tt)
    (he : ∀ (s : Shared) (H : Hp) (C : Addr) (cl : List (Str × Addr)) (fp : List Addr), VE (X.blk s H scope (compEnvC scope cl C X.env) fp) W0 elt te)
    (hy : X.N[i]? = some y := by rfl) (hyl : X.env.scope.names.lookup y = some .local := by rfl) (hsw : swapsWith (.ListComp elt [⟨tg, iter, ifs, 0⟩] scope p) (some (.Name y py)) pos.line X.env = pure true := by exact sw_true rfl rfl rfl (by decide +kernel))
    (hix : ∀ i ∈ t.ix, i ∈ own.map (·.2) := by decide) (hs : ∀ x, foldedSetIterable iter X.env x = pure x := by intro _; rfl) :
    VS X W (.Assign [.Name y py] (.ListComp elt [⟨tg, iter, ifs, 0⟩] scope p) pos) (sOwn i (fLc it t (own.map (·.2)) tt te)) :=
  PS_imp (ps_setLc hc hN hy hyl hsw hi (blkOk_by ok) hg ht he hs) fun E σ H ⟨B, S0, env, S, sr, ex, q⟩ => lc_read own hix σ H _ ⟨B, S, env, sr, inS sr ex q fun ds S' H' e' sr' ex' q' p' vs h0 h1 h2 h3 => q' S' _ H' (own_new sr sr' (ex.hh.free h0) h0 h1 h2 h3) ex'⟩
theorem vs_ownLc2 (i : Nat) {y : Str} {py : Pos} {elt tg iter tg1 iter1 : Expr} {ifs ifs1 : List Expr} {scope : Scope} {it it1 : Env → Out (List D)} {t t1 : Tgt} {tt tt1 : Env → Out Bool} {te : Env → Out D} (own : List (Str × Nat)) (vs1 : List Nat) (hc : X.calm = true) (hN : X.N.Nodup) (hi : VIp X W tg iter it) (ok : blkC X.N X.env.scope scope own = true)
    (hg : ∀ (s : Shared) (H : Hp) (C : Addr) (cl : List (Str × Addr)) (fp : List Addr), VG (X.blk s H scope (compEnvC scope cl C X.env) fp) tg t)
    (ht : ∀ (s : Shared) (H : Hp) (C : Addr) (cl : List (Str × Addr)) (fp : List Addr), VTs (X.blk s H scope (compEnvC scope cl C X.env) fp) W0 ifs tt)
    (hi1 : ∀ (s : Shared) (H : Hp) (C : Addr) (cl : List (Str × Addr)) (fp : List Addr), VI (X.blk s H scope (compEnvC scope cl C X.env) fp) W0 tg1 iter1 it1)
    (hg1 : ∀ (s : Shared) (H : Hp) (C : Addr) (cl : List (Str × Addr)) (fp : List Addr), VG (X.blk s H scope (compEnvC scope cl C X.env) fp) tg1 t1)
    (ht1 : ∀ (s : Shared) (H : Hp) (C : Addr) (cl : List (Str × Addr)) (fp : List Addr), VTs (X.blk s H scope (compEnvC scope cl C X.env) fp) W0 ifs1 tt1)
    (he : ∀ (s : Shared) (H : Hp) (C : Addr) (cl : List (Str × Addr)) (fp : List Addr), VE (X.blk s H scope (compEnvC scope cl C X.env) fp) W0 elt te)
    (hy : X.N[i]? = some y := by rfl) (hyl : X.env.scope.names.lookup y = some .local := by rfl) (hsw : swapsWith (.ListComp elt [⟨tg, iter, ifs, 0⟩, ⟨tg1, iter1, ifs1, 0⟩] scope p) (some (.Name y py)) pos.line X.env = pure true := by exact sw_true rfl rfl rfl (by decide +kernel))
    (hv : ∀ i ∈ vs1, i ∈ own.map (·.2) := by decide) (hix : ∀ i ∈ t.ix, i ∈ own.map (·.2) := by decide) (hix1 : ∀ i ∈ t1.ix, i ∈ vs1 := by decide) (hs : ∀ x, foldedSetIterable iter X.env x = pure x := by intro _; rfl) (hs1 : ∀ env x, foldedSetIterable iter1 env x = pure x := by intro _ _; rfl) :
    VS X W (.Assign [.Name y py] (.ListComp elt [⟨tg, iter, ifs, 0⟩, ⟨tg1, iter1, ifs1, 0⟩] scope p) pos) (sOwn i (fLc2 it t (own.map (·.2)) tt it1 t1 vs1 tt1 te)) :=
  PS_imp (ps_setLc2 (vs1 := vs1) (g := tG X.K t) (g1 := tG X.K t1) (tt := tT X.K X.mg W0 tt) (tt1 := tT X.K X.mg W0 tt1) (wi1 := tI X.K X.mg W0 it1) (te := tV X.K X.mg W0 te) hc hN hy hyl hsw hi (blkOk_by ok) hv hg ht hi1 hg1 ht1 he hs hs1) fun E σ H ⟨B, S0, env, S, sr, ex, q⟩ =>
    lc2_read own vs1 hv hix hix1 σ H _ ⟨B, S, env, sr, inS sr ex q fun ds S' H' e' sr' ex' q' p' vs h0 h1 h2 h3 => q' S' _ H' (own_new sr sr' (ex.hh.free h0) h0 h1 h2 h3) ex'⟩
end
end VI

/-! VI 11: defs: their promises, their calls. -/
namespace VI
open PySem PySem.Spec PyProof.Rows L2

/-- what a def's body gives -/
def retD : Rs → Out D
  | .rt d => .ok d
  | .nx _ => .ok .none
  | .exc c p _ => .exc c p
  | _ => .bad
def retF : Rs → Out (List D)
  | .rtF ds => .ok ds
  | .exc c p _ => .exc c p
  | _ => .bad
def env0 (m : Nat) (ds : List D) : Env := ds.map .val ++ List.replicate m .un
abbrev WD (E : XK) : WX := fun cls d _ H => E cls d H
def spV (K : PySem.W.Frag) (mg : Str → Option Value) (n : Nat) (F : List D → Out D) : Sp := fun vs H Q E => ∃ ds S, Same S H ∧ DpAll K S vs ds ∧ ds.length = n ∧ Post K mg (WD E) [] S H (F ds) fun d S' H' => ∀ v, Dp K S' v d → Q v H'
def spF (K : PySem.W.Frag) (mg : Str → Option Value) (n : Nat) (F : List D → Out (List D)) : Sp := fun vs H Q E => ∃ ds S, Same S H ∧ DpAll K S vs ds ∧ ds.length = n ∧ Post K mg (WD E) [] S H (F ds) fun rs S' H' => ∀ p us, H p = none → S' p = none → H' p = some (.lst us) → DpAll K S' us rs → Q (.ref p) H'

theorem EW.chg {K : PySem.W.Frag} {mg : Str → Option Value} {W W' : WX} {c : Str} {p : Option D} {σ σ' : St} {S H : Hp} (h : EW K mg W c p σ S H) (hW : ∀ cls d, W cls d σ H → W' cls d σ' H) : EW K mg W' c p σ' S H := fun C hC => by
  have q := h C hC
  cases p with
  | none => exact hW _ _ q
  | some d => exact fun dx v h1 h2 => hW _ _ (q dx v h1 h2)
theorem Post.chg {α : Type} {K : PySem.W.Frag} {mg : Str → Option Value} {W W' : WX} {σ σ' : St} {S H : Hp} {o : Out α} {R : α → Hp → Hp → Prop} (h : Post K mg W σ S H o R) (hW : ∀ cls d H, W cls d σ H → W' cls d σ' H) : Post K mg W' σ' S H o R := by
  cases o with
  | ok a => exact h
  | exc c p => exact fun S' H' e => (h S' H' e).chg fun cls d => hW cls d H'
  | bad => exact h
theorem sg_env0 {m : Nat} {ds : List D} {i : Nat} : sg (env0 m ds) i = match ds[i]? with
    | some d => .val d
    | none => .un := by
  unfold sg env0
  rw [List.getD_eq_getElem?_getD]
  rcases Nat.lt_or_ge i ds.length with h | h
  · rw [List.getElem?_append_left (by simpa using h), List.getElem?_map, List.getElem?_eq_getElem h]; rfl
  · rw [List.getElem?_append_right (by simpa using h), List.getElem?_replicate, List.getElem?_eq_none h]
    split <;> rfl
theorem start_sr {K : PySem.W.Frag} {S H : Hp} {N : List Str} {m : Nat} {vs : List V} {ds : List D} (s : Same S H) (h : DpAll K S vs ds) (hm : ds.length + m = N.length) : SR K H S (env0 m ds) (L2.start N vs) H := by
  have hl := DpAll.length h
  have no : ∀ i, (sg (env0 m ds) i).isOwn = true → False := fun i z => by
    rw [sg_env0] at z
    split at z <;> cases z
  refine ⟨s, ?_, fun i => ?_, fun i j a z => (no i z).elim, fun i a z => (no i z).elim⟩
  · unfold env0 L2.start; simp; omega
  · rw [sg_env0]
    cases e : ds[i]? with
    | none => trivial
    | some d =>
      obtain ⟨v, e1, hv⟩ := DpAll.get h e
      have hi := (List.getElem?_eq_some_iff.mp e1).1
      have : (L2.start N vs).getD i none = some v := by
        unfold L2.start
        rw [List.getD_eq_getElem?_getD, List.getElem?_append_left (by simpa using hi), List.getElem?_map, e1]; rfl
      rw [this]
      exact hv
section
variable {P : Program} {w : World} {K : PySem.W.Frag} {mg : Str → Option Value} {base : Heap} {x qual : Str} {st : Stmt} {f : Addr} {fd : FuncData} {N ps : List Str} {k : Nat} {body : Env → Rs}
/-- THE RULE for a def that gives data -/
theorem fn_v (Fn : Fun K x qual st f fd) (Sc : FnScope N ps (defScope st)) (m : Nat) (hm : ps.length + m = N.length)
    (hbody : ∀ (cdv : Value) (A : Around) (outer : List PySem.Env) (s : Shared) (H : Hp) (E : XK), Room k (A.deeper (envOfC qual (defScope st) s.heap.objs.size f cdv)) →
      VSs (cxOf (L2.CX P w) P w K mg base N qual (defScope st) f cdv A outer s H E) (WD E) (defBody st) body) :
    FnOk P w K mg base (L2.CX P w) (k + 1) f fd ps (spV K mg ps.length fun ds => retD (body (env0 m ds))) := by
  refine Fn.okX Sc (fun vs H Q E h => by obtain ⟨ds, S, _, hd, hl, _⟩ := h; rw [DpAll.length hd, hl]) fun cdv A outer s H vs Q E hr h => ?_
  obtain ⟨ds, S, hs, hd, hl, q⟩ := h
  refine ⟨_, hbody cdv A outer s H E hr, H, S, env0 m ds, S, start_sr hs hd (by rw [hl]; exact hm), Ext.refl hs, ?_⟩
  show PostS K mg (WD E) H S (body (env0 m ds)) _
  dsimp only at q
  cases r : body (env0 m ds) with
  | nx env => rw [r] at q; exact fun S' σ H' _ ex => q S' H' ex _ .non
  | rt d => rw [r] at q; exact fun S' H' v ex hv => q S' H' ex v hv
  | rtF d => rw [r] at q; exact (show False from q).elim
  | bk env => rw [r] at q; exact (show False from q).elim
  | ct env => rw [r] at q; exact (show False from q).elim
  | exc c p env => rw [r] at q; exact fun S' σ H' _ ex => (q S' H' ex).chg fun _ _ z => z
  | bad => rw [r] at q; exact q
/-- .. a new list -/
theorem fn_f (Fn : Fun K x qual st f fd) (Sc : FnScope N ps (defScope st)) (m : Nat) (hm : ps.length + m = N.length)
    (hbody : ∀ (cdv : Value) (A : Around) (outer : List PySem.Env) (s : Shared) (H : Hp) (E : XK), Room k (A.deeper (envOfC qual (defScope st) s.heap.objs.size f cdv)) →
      VSs (cxOf (L2.CX P w) P w K mg base N qual (defScope st) f cdv A outer s H E) (WD E) (defBody st) body) :
    FnOk P w K mg base (L2.CX P w) (k + 1) f fd ps (spF K mg ps.length fun ds => retF (body (env0 m ds))) := by
  refine Fn.okX Sc (fun vs H Q E h => by obtain ⟨ds, S, _, hd, hl, _⟩ := h; rw [DpAll.length hd, hl]) fun cdv A outer s H vs Q E hr h => ?_
  obtain ⟨ds, S, hs, hd, hl, q⟩ := h
  refine ⟨_, hbody cdv A outer s H E hr, H, S, env0 m ds, S, start_sr hs hd (by rw [hl]; exact hm), Ext.refl hs, ?_⟩
  show PostS K mg (WD E) H S (body (env0 m ds)) _
  dsimp only at q
  cases r : body (env0 m ds) with
  | rtF d => rw [r] at q; exact fun S' H' p us ex h0 h1 h2 h3 => q S' H' ex p us h0 h1 h2 h3
  | nx env => rw [r] at q; exact (show False from q).elim
  | rt d => rw [r] at q; exact (show False from q).elim
  | bk env => rw [r] at q; exact (show False from q).elim
  | ct env => rw [r] at q; exact (show False from q).elim
  | exc c p env => rw [r] at q; exact fun S' σ H' _ ex => (q S' H' ex).chg fun _ _ z => z
  | bad => rw [r] at q; exact q
end

/-! ### calls -/
def eFn (n : Nat) (F : List D → Out D) (g : Env → Out (List D)) : Env → Out D := fun env => (g env).bind fun ds => if ds.length = n then F ds else .bad
def fFn (n : Nat) (F : List D → Out (List D)) (g : Env → Out (List D)) : Env → Out (List D) := fun env => (g env).bind fun ds => if ds.length = n then F ds else .bad
mutual
/-- no list within -/
def lf : D → Bool
  | .list _ => false
  | .dict _ => false
  | .tuple ds => lfs ds
  | _ => true
def lfs : List D → Bool
  | [] => true
  | d :: ds => lf d && lfs ds
end
def onlyLf (o : Out D) : Out D := match o with
  | .ok d => if lf d then .ok d else .bad
  | .exc c none => .exc c none
  | _ => .bad
def onlyLfs (o : Out (List D)) : Out (List D) := match o with
  | .ok d => if lfs d then .ok d else .bad
  | .exc c none => .exc c none
  | _ => .bad
def eFnP (n : Nat) (F : List D → Out D) (g : Env → Out (List D)) : Env → Out D := fun env => (g env).bind fun ds => if ds.length = n then onlyLf (F ds) else .bad
def fFnP (n : Nat) (F : List D → Out (List D)) (g : Env → Out (List D)) : Env → Out (List D) := fun env => (g env).bind fun ds => if ds.length = n then onlyLfs (F ds) else .bad
def lstOf (o : Option HO) : Option HO := match o with
  | some (.lst vs) => some (.lst vs)
  | _ => none
theorem lstOf_some {o : Option HO} {u : HO} (h : lstOf o = some u) : o = some u ∧ ∃ vs, u = .lst vs := by
  unfold lstOf at h
  split at h
  · cases h; exact ⟨rfl, _, rfl⟩
  · cases h
/-- every list counts as standing still -/
def withL (S H : Hp) : Hp := fun b => match S b with
  | some o => some o
  | none => lstOf (H b)
/-- .. and no more -/
def lessL (S H S' : Hp) : Hp := fun b => match S b with
  | some _ => S' b
  | none => match lstOf (H b) with
    | some _ => none
    | none => S' b
section
variable {K : PySem.W.Frag} {S H S' H' : Hp}
theorem withL_sub (s : Same S H) : Same (withL S H) H := fun b o e => by
  unfold withL at e
  split at e
  · rename_i u hu; cases e; exact s b _ hu
  · exact (lstOf_some e).1
theorem withL_same : Same S (withL S H) := fun b o e => by unfold withL; rw [e]
theorem lessL_ext (s : Same S H) (e : Ext (withL S H) H S' H') : Ext S H (lessL S H S') H' := by
  refine ⟨fun b o q => ?_, e.hh, fun b o q => ?_, fun b o q => ?_⟩
  · unfold lessL; rw [q]; exact e.ss b o (withL_same b o q)
  · unfold lessL at q
    split at q
    · exact e.sub b o q
    · split at q
      · cases q
      · exact e.sub b o q
  · have n := e.new b o q
    unfold lessL
    unfold withL at n
    cases hS : S b with
    | some u => rw [hS] at n; exact n
    | none =>
      rw [hS] at n
      dsimp only at n ⊢
      cases hl : lstOf (H b) with
      | some u => rfl
      | none => rw [hl] at n; exact n
theorem lessL_at {b : Addr} {o : HO} (e : Ext (withL S H) H S' H') (h : S' b = some o) (hn : ∀ vs, o ≠ .lst vs) : lessL S H S' b = some o := by
  unfold lessL
  cases hS : S b with
  | some u => exact h
  | none =>
    dsimp only
    cases hl : lstOf (H b) with
    | none => exact h
    | some u =>
      obtain ⟨_, vs, rfl⟩ := lstOf_some hl
      have : withL S H b = some (.lst vs) := by unfold withL; rw [hS]; exact hl
      have := e.ss b _ this
      rw [h] at this
      cases this
      exact absurd rfl (hn vs)
mutual
theorem Dp.less (e : Ext (withL S H) H S' H') : ∀ {d : D} {v : V}, lf d = true → Dp K S' v d → Dp K (lessL S H S') v d
  | .none, _, _, h => by cases h; exact .non
  | .bool b, _, _, h => by cases h; exact .bl b
  | .int i, _, _, h => by cases h; exact .int i
  | .str x, _, _, h => by cases h; exact .str x
  | .list ds, _, l, _ => by cases l
  | .tuple ds, _, l, h => by
    cases h with
    | tup hs ha =>
      refine .tup ?_ (DpAll.less e l ha)
      rcases hs with (h | ⟨o, h⟩) | h
      · exact .inl (.inl (lessL_at e h fun vs z => nomatch z))
      · exact .inl (.inr ⟨o, lessL_at e h fun vs z => nomatch z⟩)
      · exact .inr h
  | .dict _, _, l, _ => by cases l
theorem DpAll.less (e : Ext (withL S H) H S' H') : ∀ {ds : List D} {vs : List V}, lfs ds = true → DpAll K S' vs ds → DpAll K (lessL S H S') vs ds
  | [], _, _, h => by cases h; exact .nil
  | d :: ds, _, l, h => by
    unfold lfs at l
    rw [Bool.and_eq_true] at l
    cases h with
    | cons a b => exact .cons (Dp.less e l.1 a) (DpAll.less e l.2 b)
end
theorem DpP.with {v : V} {d : D} (s : Same S H) (h : DpP K S H v d) : Dp K (withL S H) v d := by
  rcases h with h | ⟨a, vs, ds, rfl, rfl, h3, h4⟩
  · exact Dp.mono withL_same h
  · refine .lst ?_ (DpAll.mono withL_same h4)
    cases hs : S a with
    | none => exact SqL.of (by unfold withL; rw [hs]; dsimp only; rw [h3]; rfl)
    | some o =>
      have := s a o hs
      rw [h3] at this
      cases this
      exact SqL.of (by unfold withL; rw [hs])
theorem DpPs.with (s : Same S H) : ∀ {vs : List V} {ds : List D}, DpPs K S H vs ds → DpAll K (withL S H) vs ds
  | _, _, .nil => .nil
  | _, _, .cons a t => .cons (DpP.with s a) (DpPs.with s t)
end
section
variable {X : Cx} {W : WX} {e : Expr} {es : List Expr} {p pos : Pos} {x : Str} {f : Addr} {fd : FuncData} {ps : List Str} {n k : Nat} {F : List D → Out D} {FF : List D → Out (List D)} {g : Env → Out (List D)}
theorem ve_call (FO : FnOk X.prog X.w X.K X.mg X.base (L2.CX X.prog X.w) k f fd ps (spV X.K X.mg n F)) (hr : Room k X.A) (hm : X.mg x = some (.ref f)) (hk : PySem.W.keepIn X.K (.ref f) = true) (hb : Binds X.K fd ps []) (tk : Takes X W) (ha : VA X W (e :: es) g)
    (hg : Gl X x := by rfl) (hdb : (x == ("__debug__" : Str)) = false := by decide) (he : starEach (e :: es) X.env = (false, eval e X.env) :: starEach es X.env := by rfl) (hpl : (backTo pos (starEach es X.env)).any (·.1) = false := by rfl) :
    VE X W (.Call (.Name x p) (e :: es) [] pos) (eFn n F g) :=
  PE_imp (pe_callS FO hr hg hm hk hb (passAt tk) ha hdb he hpl) fun σ H Q ⟨B, S, env, sr, q⟩ => ⟨B, S, env, sr, (Post.bind q).imp fun ds S1 H1 ex q1 vs hv => by
    by_cases hz : ds.length = n
    · rw [if_pos hz] at q1
      exact ⟨ds, S1, ex.sub, hv, hz, q1.chg fun _ _ _ z => z⟩
    · rw [if_neg hz] at q1; exact (show False from q1).elim⟩
theorem vf_call (FO : FnOk X.prog X.w X.K X.mg X.base (L2.CX X.prog X.w) k f fd ps (spF X.K X.mg n FF)) (hr : Room k X.A) (hm : X.mg x = some (.ref f)) (hk : PySem.W.keepIn X.K (.ref f) = true) (hb : Binds X.K fd ps []) (tk : Takes X W) (ha : VA X W (e :: es) g)
    (hg : Gl X x := by rfl) (hdb : (x == ("__debug__" : Str)) = false := by decide) (he : starEach (e :: es) X.env = (false, eval e X.env) :: starEach es X.env := by rfl) (hpl : (backTo pos (starEach es X.env)).any (·.1) = false := by rfl) :
    VF X W (.Call (.Name x p) (e :: es) [] pos) (fFn n FF g) :=
  PE_imp (pe_callS FO hr hg hm hk hb (passAt tk) ha hdb he hpl) fun σ H Q ⟨B, S, env, sr, q⟩ => ⟨B, S, env, sr, (Post.bind q).imp fun ds S1 H1 ex q1 vs hv => by
    by_cases hz : ds.length = n
    · rw [if_pos hz] at q1
      exact ⟨ds, S1, ex.sub, hv, hz, (q1.chg fun _ _ _ z => z).imp fun rs S' H' ex' q2 p us h0 => q2 p us (ex.hh.free h0)⟩
    · rw [if_neg hz] at q1; exact (show False from q1).elim⟩
theorem ve_callP (FO : FnOk X.prog X.w X.K X.mg X.base (L2.CX X.prog X.w) k f fd ps (spV X.K X.mg n F)) (hr : Room k X.A) (hm : X.mg x = some (.ref f)) (hk : PySem.W.keepIn X.K (.ref f) = true) (hb : Binds X.K fd ps []) (tk : Takes X W) (ha : VAP X W (e :: es) g)
    (hg : Gl X x := by rfl) (hdb : (x == ("__debug__" : Str)) = false := by decide) (he : starEach (e :: es) X.env = (false, eval e X.env) :: starEach es X.env := by rfl) (hpl : (backTo pos (starEach es X.env)).any (·.1) = false := by rfl) :
    VE X W (.Call (.Name x p) (e :: es) [] pos) (eFnP n F g) :=
  PE_imp (pe_callS FO hr hg hm hk hb (passAt tk) ha hdb he hpl) fun σ H Q ⟨B, S, env, sr, q⟩ => ⟨B, S, env, sr, (Post.bind q).imp fun ds S1 H1 ex q1 vs hv => by
    by_cases hz : ds.length = n
    · rw [if_pos hz] at q1
      refine ⟨ds, withL S1 H1, withL_sub ex.sub, hv.with ex.sub, hz, ?_⟩
      cases o : F ds with
      | ok d =>
        rw [o] at q1
        unfold onlyLf at q1
        dsimp only at q1
        by_cases hd : lf d = true
        · rw [if_pos hd] at q1
          exact fun S' H' ex' v hv => q1 _ _ (lessL_ext ex.sub ex') v (Dp.less ex' hd hv)
        · rw [if_neg hd] at q1; exact (show False from q1).elim
      | exc c p =>
        rw [o] at q1
        cases p with
        | none =>
          intro S' H' ex' C hC
          exact q1 _ _ (lessL_ext ex.sub ex') C hC
        | some d => exact (show False from q1).elim
      | bad => rw [o] at q1; exact (show False from q1).elim
    · rw [if_neg hz] at q1; exact (show False from q1).elim⟩
theorem vf_callP (FO : FnOk X.prog X.w X.K X.mg X.base (L2.CX X.prog X.w) k f fd ps (spF X.K X.mg n FF)) (hr : Room k X.A) (hm : X.mg x = some (.ref f)) (hk : PySem.W.keepIn X.K (.ref f) = true) (hb : Binds X.K fd ps []) (tk : Takes X W) (ha : VAP X W (e :: es) g)
    (hg : Gl X x := by rfl) (hdb : (x == ("__debug__" : Str)) = false := by decide) (he : starEach (e :: es) X.env = (false, eval e X.env) :: starEach es X.env := by rfl) (hpl : (backTo pos (starEach es X.env)).any (·.1) = false := by rfl) :
    VF X W (.Call (.Name x p) (e :: es) [] pos) (fFnP n FF g) :=
  PE_imp (pe_callS FO hr hg hm hk hb (passAt tk) ha hdb he hpl) fun σ H Q ⟨B, S, env, sr, q⟩ => ⟨B, S, env, sr, (Post.bind q).imp fun ds S1 H1 ex q1 vs hv => by
    by_cases hz : ds.length = n
    · rw [if_pos hz] at q1
      refine ⟨ds, withL S1 H1, withL_sub ex.sub, hv.with ex.sub, hz, ?_⟩
      cases o : FF ds with
      | ok rs =>
        rw [o] at q1
        unfold onlyLfs at q1
        dsimp only at q1
        by_cases hd : lfs rs = true
        · rw [if_pos hd] at q1
          intro S' H' ex' p us h0 h1 h2 h3
          have hp : lessL S1 H1 S' p = none := by
            unfold lessL
            split
            · exact h1
            · split
              · rfl
              · exact h1
          exact q1 _ _ (lessL_ext ex.sub ex') p us (ex.hh.free h0) hp h2 (DpAll.less ex' hd h3)
        · rw [if_neg hd] at q1; exact (show False from q1).elim
      | exc c p =>
        rw [o] at q1
        cases p with
        | none =>
          intro S' H' ex' C hC
          exact q1 _ _ (lessL_ext ex.sub ex') C hC
        | some d => exact (show False from q1).elim
      | bad => rw [o] at q1; exact (show False from q1).elim
    · rw [if_neg hz] at q1; exact (show False from q1).elim⟩
end
end VI

/-! VI 12: what a module's names hold. -/
namespace VI
open PySem PySem.Spec PyProof.Rows L2

structure FunG (K : PySem.W.Frag) (mg : Str → Option Value) (x : Str) (st : Stmt) (ps : List Str) : Prop where
  ex : ∃ f fd, mg x = some (.ref f) ∧ Fun K x x st f fd ∧ Binds K fd ps []
structure FnV (P : Program) (w : World) (K : PySem.W.Frag) (mg : Str → Option Value) (base : Heap) (k : Nat) (x : Str) (ps : List Str) (n : Nat) (F : List D → Out D) : Prop where
  ex : ∃ f fd, mg x = some (.ref f) ∧ PySem.W.keepIn K (.ref f) = true ∧ Binds K fd ps [] ∧ FnOk P w K mg base (L2.CX P w) k f fd ps (spV K mg n F)
structure FnF (P : Program) (w : World) (K : PySem.W.Frag) (mg : Str → Option Value) (base : Heap) (k : Nat) (x : Str) (ps : List Str) (n : Nat) (F : List D → Out (List D)) : Prop where
  ex : ∃ f fd, mg x = some (.ref f) ∧ PySem.W.keepIn K (.ref f) = true ∧ Binds K fd ps [] ∧ FnOk P w K mg base (L2.CX P w) k f fd ps (spF K mg n F)
structure GInt (mg : Str → Option Value) (x : Str) (i : Int) : Prop where
  ex : ∃ t, mg x = some (.int i t)
structure GStr (mg : Str → Option Value) (x : Str) (y : Str) : Prop where
  ex : ∃ t, mg x = some (.str y t)
abbrev excTail : List Value := [.type "ValueError", .type "Exception", .type "BaseException", .type "object"]
structure ExcG (K : PySem.W.Frag) (mg : Str → Option Value) (x : Str) : Prop where
  ex : ∃ C, mg x = some (.ref C) ∧ PySem.W.excIn K C excTail "ValueError.__new__" = true ∧ PySem.W.keepIn K (.ref C) = true ∧ PySem.W.subIn K (.ref C) (.type "BaseException") = some true ∧ PySem.W.typeIn K (.ref C) = some (.type "type")
section
variable {P : Program} {w : World} {K : PySem.W.Frag} {mg : Str → Option Value} {base : Heap} {x : Str} {st : Stmt} {ps N : List Str} {k : Nat} {body : Env → Rs}
theorem mk_fnv (G : FunG K mg x st ps) (Sc : FnScope N ps (defScope st)) (m : Nat) (hm : ps.length + m = N.length)
    (hbody : ∀ (f : Addr) (cdv : Value) (A : Around) (outer : List PySem.Env) (s : Shared) (H : Hp) (E : XK), Room k (A.deeper (envOfC x (defScope st) s.heap.objs.size f cdv)) →
      VSs (cxOf (L2.CX P w) P w K mg base N x (defScope st) f cdv A outer s H E) (WD E) (defBody st) body) : FnV P w K mg base (k + 1) x ps ps.length fun ds => retD (body (env0 m ds)) := by
  obtain ⟨f, fd, h1, h2, h3⟩ := G.ex
  exact ⟨f, fd, h1, h2.kp, h3, fn_v h2 Sc m hm (hbody f)⟩
theorem mk_fnf (G : FunG K mg x st ps) (Sc : FnScope N ps (defScope st)) (m : Nat) (hm : ps.length + m = N.length)
    (hbody : ∀ (f : Addr) (cdv : Value) (A : Around) (outer : List PySem.Env) (s : Shared) (H : Hp) (E : XK), Room k (A.deeper (envOfC x (defScope st) s.heap.objs.size f cdv)) →
      VSs (cxOf (L2.CX P w) P w K mg base N x (defScope st) f cdv A outer s H E) (WD E) (defBody st) body) : FnF P w K mg base (k + 1) x ps ps.length fun ds => retF (body (env0 m ds)) := by
  obtain ⟨f, fd, h1, h2, h3⟩ := G.ex
  exact ⟨f, fd, h1, h2.kp, h3, fn_f h2 Sc m hm (hbody f)⟩
theorem FnV.sem {n : Nat} {F F' : List D → Out D} (h : FnV P w K mg base k x ps n F) (e : F = F') : FnV P w K mg base k x ps n F' := e ▸ h
theorem fung {f : Addr} {od an : Option Addr} {sl : Array (Option Value)} {oc kV dc pm cd ct : Value} {h : Heap} (X : K.In h) (G : h.Ns mainGlobals mg) (a : PySem.W.nsIn K mainGlobals x = some (some (.ref f)))
    (l : K.lookup f = some ⟨oc, od, .func (PySem.W.fnOf x x (defArgs st) (defBody st) (defScope st) .none kV dc pm an cd ct), sl⟩) (c : PySem.W.codeIn K cd x = true) (k : PySem.W.keepIn K (.ref f) = true)
    (b : ∀ (kV doc pm : Value) (an : Option Addr) (cdv ct : Value) (us : List Value), us.length = ps.length → bindArgs (PySem.W.fnOf x x (defArgs st) (defBody st) (defScope st) .none kV doc pm an cdv ct) ⟨us, []⟩ = pure (ps.zip us)) : FunG K mg x st ps :=
  have F := fun_mk (st := st) l c k
  ⟨f, _, PySem.W.mg_of X G a, F, F.binds b⟩
theorem gint {h : Heap} {i : Int} {t : Tok} (X : K.In h) (G : h.Ns mainGlobals mg) (a : PySem.W.nsIn K mainGlobals x = some (some (.int i t))) : GInt mg x i := ⟨t, PySem.W.mg_of X G a⟩
theorem gstr {h : Heap} {y : Str} {t : Tok} (X : K.In h) (G : h.Ns mainGlobals mg) (a : PySem.W.nsIn K mainGlobals x = some (some (.str y t))) : GStr mg x y := ⟨t, PySem.W.mg_of X G a⟩
theorem excg {h : Heap} {C : Addr} (X : K.In h) (G : h.Ns mainGlobals mg) (a : PySem.W.nsIn K mainGlobals x = some (some (.ref C))) (q : PySem.W.excIn K C excTail "ValueError.__new__" = true) (kC : PySem.W.keepIn K (.ref C) = true)
    (h1 : PySem.W.subIn K (.ref C) (.type "BaseException") = some true) (h2 : PySem.W.typeIn K (.ref C) = some (.type "type")) : ExcG K mg x := ⟨C, PySem.W.mg_of X G a, q, kC, h1, h2⟩
end
section
variable {X : Cx} {W : WX} {e : Expr} {es : List Expr} {p p2 pos cpos : Pos} {x : Str} {ps : List Str} {n k : Nat} {F : List D → Out D} {FF : List D → Out (List D)} {g : Env → Out (List D)}
theorem ve_cn {i : Int} (h : GInt X.mg x i) (hg : Gl X x := by rfl) (hd : (x == ("__debug__" : Str)) = false := by decide) : VE X W (.Name x pos) (eC (.int i)) := by
  obtain ⟨t, h⟩ := h.ex
  exact ve_gint h hg hd
theorem ve_cs {y : Str} (h : GStr X.mg x y) (hg : Gl X x := by rfl) (hd : (x == ("__debug__" : Str)) = false := by decide) : VE X W (.Name x pos) (eC (.str y)) := by
  obtain ⟨t, h⟩ := h.ex
  exact ve_gstr h hg hd
theorem ve_fn (h : FnV X.prog X.w X.K X.mg X.base k x ps n F) (hr : Room k X.A) (tk : Takes X W) (ha : VA X W (e :: es) g) (hg : Gl X x := by rfl) (hdb : (x == ("__debug__" : Str)) = false := by decide)
    (he : starEach (e :: es) X.env = (false, eval e X.env) :: starEach es X.env := by rfl) (hpl : (backTo pos (starEach es X.env)).any (·.1) = false := by rfl) : VE X W (.Call (.Name x p) (e :: es) [] pos) (eFn n F g) := by
  obtain ⟨f, fd, hm, hk, hb, FO⟩ := h.ex
  exact ve_call FO hr hm hk hb tk ha hg hdb he hpl
theorem ve_fnP (h : FnV X.prog X.w X.K X.mg X.base k x ps n F) (hr : Room k X.A) (tk : Takes X W) (ha : VAP X W (e :: es) g) (hg : Gl X x := by rfl) (hdb : (x == ("__debug__" : Str)) = false := by decide)
    (he : starEach (e :: es) X.env = (false, eval e X.env) :: starEach es X.env := by rfl) (hpl : (backTo pos (starEach es X.env)).any (·.1) = false := by rfl) : VE X W (.Call (.Name x p) (e :: es) [] pos) (eFnP n F g) := by
  obtain ⟨f, fd, hm, hk, hb, FO⟩ := h.ex
  exact ve_callP FO hr hm hk hb tk ha hg hdb he hpl
theorem vf_fn (h : FnF X.prog X.w X.K X.mg X.base k x ps n FF) (hr : Room k X.A) (tk : Takes X W) (ha : VA X W (e :: es) g) (hg : Gl X x := by rfl) (hdb : (x == ("__debug__" : Str)) = false := by decide)
    (he : starEach (e :: es) X.env = (false, eval e X.env) :: starEach es X.env := by rfl) (hpl : (backTo pos (starEach es X.env)).any (·.1) = false := by rfl) : VF X W (.Call (.Name x p) (e :: es) [] pos) (fFn n FF g) := by
  obtain ⟨f, fd, hm, hk, hb, FO⟩ := h.ex
  exact vf_call FO hr hm hk hb tk ha hg hdb he hpl
theorem vf_fnP (h : FnF X.prog X.w X.K X.mg X.base k x ps n FF) (hr : Room k X.A) (tk : Takes X W) (ha : VAP X W (e :: es) g) (hg : Gl X x := by rfl) (hdb : (x == ("__debug__" : Str)) = false := by decide)
    (he : starEach (e :: es) X.env = (false, eval e X.env) :: starEach es X.env := by rfl) (hpl : (backTo pos (starEach es X.env)).any (·.1) = false := by rfl) : VF X W (.Call (.Name x p) (e :: es) [] pos) (fFnP n FF g) := by
  obtain ⟨f, fd, hm, hk, hb, FO⟩ := h.ex
  exact vf_callP FO hr hm hk hb tk ha hg hdb he hpl
theorem vs_rse {m : Str} {j : Nat} (h : ExcG X.K X.mg x) (hc : X.calm = true) (tk : Takes X W) (hg : Gl X x := by rfl) (hdb : (x == ("__debug__" : Str)) = false := by decide) :
    VS X W (.Raise (some (.Call (.Name x p) [.Constant (.str m) j p2] [] cpos)) none pos) (sRaise x) := by
  obtain ⟨C, h1, h2, h3, h4, h5⟩ := h.ex
  exact vs_raise hc tk PySem.F.excBase_ValueError h2 h1 h3 h4 h5 hg hdb
/-- what is not read -/
theorem ve_bad : VE X W e (fun _ => .bad) := ⟨fun _ _ _ _ _ _ ⟨_, _, _, _, q⟩ => (show False from q).elim⟩
theorem vf_bad : VF X W e (fun _ => .bad) := ⟨fun _ _ _ _ _ _ ⟨_, _, _, _, q⟩ => (show False from q).elim⟩
theorem vt_bad : VT X W e (fun _ => .bad) := ⟨fun _ _ _ _ _ _ ⟨_, _, _, _, q⟩ => (show False from q).elim⟩
theorem vi_bad {tg : Expr} : VI X W tg e (fun _ => .bad) := ⟨fun _ _ _ _ _ _ ⟨_, _, _, _, q⟩ => (show False from q).elim⟩
theorem vg_bad {tg : Expr} : VG X tg (.tp .nil) ∨ True := .inr trivial
end
end VI

/-! VI 13: try .. except X as n, several clauses. -/
namespace VI
open PySem PySem.Spec PyProof.Rows L2

/-- what the clauses 'except x as n' wish of an exception of the body, one after the other -/
def wManyAs (K : PySem.W.Frag) (Wout : WX) (D : Ends) : List (Value × Nat × (Addr → Value → Option Addr → TS)) → WX
  | [] => Wout
  | (c, i, ts) :: r => fun cls d σ H => ∃ b, PySem.W.exmOne K cls c = some b ∧ (b = true → ∀ a, H a = none → ts a cls d { nx := fun σ' H' => D.nx (σ'.set i none) H', rt := D.rt, bk := fun σ' H' => D.bk (σ'.set i none) H', ct := fun σ' H' => D.ct (σ'.set i none) H' } (σ.set i (some (.ref a))) H) ∧
      (b = false → wManyAs K Wout D r cls d σ H)
inductive HdsAs (X : Cx) : List ExceptHandler → List (Value × Nat × (Addr → Value → Option Addr → TS)) → Prop
  | nil : HdsAs X [] []
  | cons {x n : Str} {c : Value} {i : Nat} {ts : Addr → Value → Option Addr → TS} {b₀ : Stmt} {suite : List Stmt} {np pos' : Pos} {hds : List ExceptHandler} {l : List (Value × Nat × (Addr → Value → Option Addr → TS))} (hc : Names X x c)
      (hi : X.N[i]? = some n) (hln : X.env.kindOf n = some .local)
      (hsu : ∀ (a : Addr) (oe : Obj) (cls : Value) (d : Option Addr) (pn : List (Addr × Obj)), Zc cls d oe → (∃ vs, oe.data = .fields vs) → PSs (X.suite a ((a, oe) :: pn)) (b₀ :: suite) (ts a cls d)) (r : HdsAs X hds l) :
      HdsAs X (.ExceptHandler (some (.Name x np)) (some n) (b₀ :: suite) pos' :: hds) ((c, i, ts) :: l)
section
variable {X : Cx} {body : List Stmt} {h₀ : ExceptHandler} {hds : List ExceptHandler} {l : List (Value × Nat × (Addr → Value → Option Addr → TS))} {pos : Pos} {tb : WX → TS} {Wout : WX}
theorem ps_try_manyAs (hs : X.stack = X.env :: X.outer) (hf : X.env.frame = some X.env.locals) (hN : X.N.Nodup) (tk : Takes X Wout)
    (hb : ∀ (W : WX) (pn : List (Addr × Obj)) (xe : Value → Shared → Prop), Takes (X.tr pn xe) W → PassesOwn (model X.prog X.w) X.A X.env xe → PSs (X.tr pn xe) body (tb W))
    (hh : HdsAs X (h₀ :: hds) l) : PS X (.Try body (h₀ :: hds) [] [] pos) (fun D σ H => tb (wManyAs X.K Wout D l) D σ H) := by
  refine ⟨fun pins s σ H D I h => ?_⟩
  have ok := I.ok
  have hfr : X.A.frames = some (X.env :: X.outer) := by rw [ok.frames, hs]
  refine wpAny_Try_except ?_
  refine wpAny_mono ((hb (wManyAs X.K Wout D l) (X.pn ++ pins) (fun e s₁ => wpAny (model X.prog X.w) X.A (noteFrame e X.env) (fun _ s₂ => wpAny (model X.prog X.w) X.A (setFlight e none) (fun _ s₃ =>
    wpAny (model X.prog X.w) X.A (handleBy e X.env (h₀ :: hds)) (SP X pins D) X.xe s₃) X.xe s₂) X.xe s₁) (fun u s' xx => ?_) PassesOwn.looking).run [] s σ H D (I.toTry _) h) (fun f s1 hsp => ?_) (fun e s1 he => he)
  · obtain ⟨a, B, sI, pins', σ', H', cls, d, rfl, J', nb, up, sky, na, os, ag, w⟩ := xx
    have J : Inv X pins σ' H' sI := J'.ofTry ok
    have sky' : Sky B (X.env :: X.outer) a (Zc cls d) X.env.locals s'.heap := by rw [← hs]; exact sky
    show wpAny (model X.prog X.w) X.A (noteFrame (.ref a) X.env) _ _ _
    refine Sky.land Zc.steady hfr hf sky' fun h3 fl3 up3 => ?_
    have J3 : Inv X pins σ' H' { s' with heap := h3 } := J.landed nb fl3.1 (up.trans up3) os ag
    obtain ⟨oe3, vs3, he3, hz3, hd3⟩ := fl3.there
    have notFr : ∀ {h : Heap} {o : Obj} {vs : Array Value}, h.FunFrames B (X.env :: X.outer) → h.get? a = some o → o.data = .fields vs → a ∉ frs (X.env :: X.outer) := fun {h o vs} ff e dd hm => by
      obtain ⟨_, o', e', hnf⟩ := ff.mem hm
      rw [e] at e'; cases e'
      exact hnf _ dd
    have nfr := notFr fl3.2.2.1 he3 hd3
    have nL : a ≠ X.env.locals := fun z => nfr (List.mem_filterMap.mpr ⟨X.env, List.mem_cons_self, by rw [hf, z]⟩)
    have nF : a ∉ X.fs := fun hm => by
      obtain ⟨e, he, q⟩ := List.mem_filterMap.mp hm
      exact nfr (List.mem_filterMap.mpr ⟨e, List.mem_cons_of_mem _ he, q⟩)
    have S3 := J3.suite he3 hd3 na nL nF
    have go : ∀ {hds' : List ExceptHandler} {l' : List (Value × Nat × (Addr → Value → Option Addr → TS))}, HdsAs X hds' l' → wManyAs X.K Wout D l' cls d σ' H' →
        wpAny (model X.prog X.w) X.A (handleBy (.ref a) X.env hds') (SP X pins D) X.xe { s' with heap := h3 } := by
      intro hds' l' hk
      induction hk with
      | nil =>
        intro w
        refine wpAny_handleBy_nil ?_
        obtain ⟨k1, k2, k3, oe, vs, T, oT, ts', he, hz, hd, h1, hr⟩ := id fl3
        unfold PySem.passOn
        refine wpAny_bind (wpAny_field he hd h1 ?_)
        rw [if_neg (show ¬ ((Value.ref T == Value.none) = true) from by simp)]
        have fin : wpAny (model X.prog X.w) X.A (setFlight (.ref a) X.env.frame) (fun _ s4 => wpAny (model X.prog X.w) X.A (throw (.ref a) : Sem Flow) (SP X pins D) X.xe s4) X.xe { s' with heap := h3 } := by
          rw [hf]
          refine HandSPX.setFlight_upZ fl3 fun h4 hh4 up4 => wpAny_throw (tk _ _ ?_)
          exact ⟨a, B, sI, pins, σ', H', cls, d, rfl, J, nb, (up.trans up3).trans up4, .inr (.inr (by rw [hs]; exact hh4)), na, os, ag, w⟩
        first
          | exact wpAny_bind (wpAny_pure (wpAny_bind fin))
          | exact wpAny_bind fin
      | @cons x n c i ts b₀ suite np pos' hds2 l2 hc hi hln hsu r ih =>
        intro w
        obtain ⟨b, hb1, hyes, hno⟩ := w
        have hloc : Loc X.env.scope n := .inl hln
        refine wpAny_handleBy_cons (codeAny_handlers_test ?_) (by intro q; cases q)
        have LT : PySem.W.Looks (model X.prog X.w) h3 (typeOf (.ref a)) cls := fun A Q E s k q => wpAny_typeOf_ref (k _ _ he3) (by rw [hz3.1]; exact q)
        have LM := PySem.W.exm_one (M := model X.prog X.w) (J3.kIn) LT hb1
        have test : ∀ {Q : Value → Shared → Prop} {E : Value → Shared → Prop}, Q c { s' with heap := h3 } → wpAny (model X.prog X.w) (X.A.mark (some (.ref a))) (eval (.Name x np) X.env) Q E { s' with heap := h3 } := fun {Q E} q => by
          obtain ⟨hg, hdbg, hm | ⟨hm, hv, hnn⟩⟩ := hc
          · exact ld_glob (X := X.suite a ((a, oe3) :: (X.pn ++ pins))) S3 hg hm q hdbg
          · exact ld_blt (X := X.suite a ((a, oe3) :: (X.pn ++ pins))) S3 hg hm hv q hnn hdbg
        refine test (LM.here ?_)
        cases b with
        | true =>
          refine codeAny_handlers_suite_as ?_
          refine HandSPX.lands_againZ fl3 fun h4 fl4 up4 => ?_
          have J4 : Inv X pins σ' H' { s' with heap := h4 } := J.landed nb fl4.1 ((up.trans up3).trans up4) os ag
          obtain ⟨oe4, vs4, he4, hz4, hd4⟩ := fl4.there
          have S4 := J4.suite he4 hd4 na nL nF
          refine store_ok (X := X.suite a ((a, oe4) :: (X.pn ++ pins))) (v := .ref a) S4 hN hi hloc rfl (fun s5 S5 => ?_) (.inr hln)
          refine wpAny_mono ((hsu a oe4 cls d (X.pn ++ pins) hz4 ⟨_, hd4⟩).run [] s5 _ H' _ S5 (hyes rfl a na)) (fun f s6 hsp => ?_) (fun _ _ z => False.elim z)
          have end_ : ∀ {σ6 : St} {H6 : Hp} {Q : Shared → Prop}, Inv (X.suite a ((a, oe4) :: (X.pn ++ pins))) [] σ6 H6 s6 → (∀ s7, Inv X pins (σ6.set i none) H6 s7 → Q s7) →
              wpAny (model X.prog X.w) X.A (do bindName X.env n .none; unbindBehindTheSuite X.env n pos') (fun _ s7 => Q s7) X.xe s6 := fun {σ6 H6 Q} S6 hq => gone_ok (S6.unsuite ok) hN hi hln hq
          cases f with
          | next =>
            obtain ⟨σ6, H6, S6, q6⟩ := hsp
            exact end_ S6 fun s7 J7 => ⟨_, _, J7, q6⟩
          | brk =>
            obtain ⟨σ6, H6, S6, q6⟩ := hsp
            exact end_ S6 fun s7 J7 => ⟨_, _, J7, q6⟩
          | cont =>
            obtain ⟨σ6, H6, S6, q6⟩ := hsp
            exact end_ S6 fun s7 J7 => ⟨_, _, J7, q6⟩
          | ret u =>
            obtain ⟨v6, σ6, H6, S6, r6, q6⟩ := hsp
            exact end_ S6 fun s7 J7 => ⟨_, _, _, J7, r6, q6⟩
        | false =>
          show wpAny _ X.A (handleBy (.ref a) X.env hds2) _ _ _
          exact ih (hno rfl)
    exact go hh w
  · cases f with
    | next =>
      obtain ⟨σ', H', J', q⟩ := hsp
      exact wpAny_execs_nil ⟨σ', H', J'.ofTry ok, q⟩
    | brk =>
      obtain ⟨σ', H', J', q⟩ := hsp
      exact ⟨σ', H', J'.ofTry ok, q⟩
    | cont =>
      obtain ⟨σ', H', J', q⟩ := hsp
      exact ⟨σ', H', J'.ofTry ok, q⟩
    | ret u =>
      obtain ⟨v, σ', H', J', r, q⟩ := hsp
      exact ⟨v, σ', H', J'.ofTry ok, r, q⟩
end

/-! ### by values -/
/-- the classes of a module's errors: each under its base alone -/
def subX (c h : Str) : Bool := c == h || h == "DoorError"
structure Hd where
  cls : Str
  i : Nat
  g : Addr → Str → Option D → Env → Rs
def closeT (i : Nat) : Rs → Rs
  | .nx env => .nx (env.set i .un)
  | .bk env => .bk (env.set i .un)
  | .ct env => .ct (env.set i .un)
  | .exc _ _ _ => .bad
  | r => r
open Classical in
/-- .. whatever the address is -/
noncomputable def allA (F : Addr → Rs) : Rs := if h : ∃ r, ∀ a, F a = r then h.choose else .bad
theorem allA_eq {F : Addr → Rs} {r : Rs} (h : ∀ a, F a = r) : allA F = r := by
  unfold allA
  have hx : ∃ r, ∀ a, F a = r := ⟨r, h⟩
  rw [dif_pos hx]
  exact (hx.choose_spec 0).symm.trans (h 0)
theorem allA_at {F : Addr → Rs} (h : allA F ≠ .bad) (a : Addr) : F a = allA F := by
  unfold allA at h ⊢
  by_cases hx : ∃ r, ∀ a, F a = r
  · rw [dif_pos hx]; exact hx.choose_spec a
  · rw [dif_neg hx] at h; exact absurd rfl h
noncomputable def hdRun (c : Str) (p : Option D) (env : Env) : List Hd → Rs
  | [] => .exc c p env
  | h :: r => if subX c h.cls then allA fun a => closeT h.i (h.g a c p (env.set h.i (.exn a))) else hdRun c p env r
/-- known: the classes whose facts are known; errors that carry nothing -/
noncomputable def sTry (known : List Str) (f : Env → Rs) (hs : List Hd) : Env → Rs := fun env => match f env with
  | .exc c none env' => if c ∈ known then hdRun c none env' hs else .bad
  | .exc _ _ _ => .bad
  | r => r
theorem sTry_exc {known : List Str} {f : Env → Rs} {hs : List Hd} {env env' : Env} {c : Str} (e : f env = .exc c none env') (h : c ∈ known) : sTry known f hs env = hdRun c none env' hs := by unfold sTry; rw [e]; exact if_pos h
theorem hdRun_yes {c : Str} {env : Env} {h : Hd} {r : List Hd} {x : Rs} (e : subX c h.cls = true) (hx : ∀ a, closeT h.i (h.g a c none (env.set h.i (.exn a))) = x) : hdRun c none env (h :: r) = x := by
  unfold hdRun
  rw [if_pos e]
  exact allA_eq hx
theorem hdRun_no {c : Str} {env : Env} {h : Hd} {r : List Hd} (e : subX c h.cls = false) : hdRun c none env (h :: r) = hdRun c none env r := by
  conv => lhs; unfold hdRun
  rw [if_neg (by rw [e]; exact Bool.false_ne_true)]
/-- what is known of the classes c and h -/
structure ExcR (K : PySem.W.Frag) (mg : Str → Option Value) (c h : Str) : Prop where
  ex : ∃ C D, mg c = some (.ref C) ∧ mg h = some (.ref D) ∧ PySem.W.exmOne K (.ref C) (.ref D) = some (subX c h) ∧ PySem.W.kitOne K (.ref C) (.ref D) = some (subX c h)
structure ExcK (K : PySem.W.Frag) (mg : Str → Option Value) (c : Str) : Prop where
  ex : ∃ C, mg c = some (.ref C) ∧ ExcC K C
section
variable {X : Cx} {Wout : WX}
inductive HdsV (X : Cx) (known : List Str) : List ExceptHandler → List Hd → Prop
  | nil : HdsV X known [] []
  | cons {x n : Str} {i : Nat} {g : Addr → Str → Option D → Env → Rs} {b₀ : Stmt} {suite : List Stmt} {np pos' : Pos} {hds : List ExceptHandler} {l : List Hd} (hg : Gl X x) (hdb : (x == ("__debug__" : Str)) = false)
      (hi : X.N[i]? = some n) (hln : X.env.kindOf n = some .local)
      (hsu : ∀ (a : Addr) (oe : Obj) (C : Addr) (pn : List (Addr × Obj)) (c : Str), c ∈ known → X.mg c = some (.ref C) → Zc (.ref C) none oe → (∃ vs, oe.data = .fields vs) →
        VSs (X.suite a ((a, oe) :: pn)) W0 (b₀ :: suite) (g a c none)) (r : HdsV X known hds l) :
      HdsV X known (.ExceptHandler (some (.Name x np)) (some n) (b₀ :: suite) pos' :: hds) (⟨x, i, g⟩ :: l)
/-- the suite's wish -/
def tsX (K : PySem.W.Frag) (mg : Str → Option Value) (known : List Str) (g : Addr → Str → Option D → Env → Rs) (a : Addr) (cls : Value) (d : Option Addr) : TS := fun E σ H => ∃ c C, c ∈ known ∧ cls = .ref C ∧ mg c = some (.ref C) ∧ d = none ∧ tS K mg W0 (g a c none) E σ H
theorem closeT_post {K : PySem.W.Frag} {mg : Str → Option Value} {B S0 : Hp} {i : Nat} {r : Rs} {E : Ends} (q : PostS K mg Wout B S0 (closeT i r) E) :
    PostS K mg W0 B S0 r { nx := fun σ' H' => E.nx (σ'.set i none) H', rt := E.rt, bk := fun σ' H' => E.bk (σ'.set i none) H', ct := fun σ' H' => E.ct (σ'.set i none) H' } := by
  cases r with
  | nx env => exact fun S σ H sr ex => q S _ H sr.setUn ex
  | bk env => exact fun S σ H sr ex => q S _ H sr.setUn ex
  | ct env => exact fun S σ H sr ex => q S _ H sr.setUn ex
  | rt d => exact q
  | rtF d => exact q
  | exc c p env => exact (show False from q).elim
  | bad => exact (show False from q).elim
theorem hdsV_as {known : List Str} {hds : List ExceptHandler} {l : List Hd} (h : HdsV X known hds l) (h0 : ∃ c, c ∈ known) (hk : ∀ c ∈ known, ∀ h ∈ l, ExcR X.K X.mg c h.cls) : ∃ l', HdsAs X hds l' ∧
    ∀ (E : Ends) (c : Str) (C : Addr) (B S0 S : Hp) (env : Env) (σ : St) (H : Hp), c ∈ known → X.mg c = some (.ref C) → SR X.K B S env σ H → Ext S0 B S H →
      PostS X.K X.mg Wout B S0 (hdRun c none env l) E → wManyAs X.K Wout E l' (.ref C) none σ H := by
  induction h with
  | nil => exact ⟨[], .nil, fun E c C B S0 S env σ H hc hm sr ex q => q S σ H sr ex C hm⟩
  | @cons x n i g b₀ suite np pos' hds l hg hdb hi hln hsu r ih =>
    obtain ⟨l', h1, h2⟩ := ih fun c hc h hh => hk c hc h (List.mem_cons_of_mem _ hh)
    obtain ⟨c0, hc0⟩ := h0
    obtain ⟨_, D, _, hD, _, _⟩ := (hk c0 hc0 _ List.mem_cons_self).ex
    refine ⟨(.ref D, i, tsX X.K X.mg known g) :: l', .cons ⟨hg, hdb, .inl hD⟩ hi hln (fun a oe cls d pn hz hf => ⟨fun pins s σ H E I ⟨c, C, hc, e1, hm, e2, t⟩ => ?_⟩) h1, fun E c C B S0 S env σ H hc hm sr ex q => ?_⟩
    · subst e1 e2
      exact (hsu a oe C pn c hc hm hz hf).run pins s σ H E I t
    · obtain ⟨C', D', hm', hD', ee, _⟩ := (hk c hc _ List.mem_cons_self).ex
      rw [hm] at hm'; cases hm'
      rw [hD] at hD'; cases hD'
      refine ⟨_, ee, fun hb a ha => ⟨c, C, hc, rfl, hm, rfl, B, S0, env.set i (.exn a), S, sr.set_any (fun _ => rfl) (fun z => by cases z), ex, ?_⟩, fun hb => ?_⟩
      · unfold hdRun at q
        rw [if_pos hb] at q
        have nb : (allA fun a => closeT i (g a c none (env.set i (.exn a)))) ≠ .bad := fun z => by
          dsimp only at q
          rw [z] at q
          exact q
        have e := allA_at nb a
        refine closeT_post (Wout := Wout) ?_
        rw [e]
        exact q
      · rw [hdRun_no hb] at q
        exact h2 E c C B S0 S env σ H hc hm sr ex q
theorem vs_try {known : List Str} {h₀ : ExceptHandler} {hds : List ExceptHandler} {l : List Hd} {body : List Stmt} {f : Env → Rs} {pos : Pos} (hs : X.stack = X.env :: X.outer) (hf : X.env.frame = some X.env.locals) (nd : X.N.Nodup) (tk : Takes X Wout)
    (hb : ∀ (W : WX) (pn : List (Addr × Obj)) (xe : Value → Shared → Prop), Takes (X.tr pn xe) W → PassesOwn (model X.prog X.w) X.A X.env xe → VSs (X.tr pn xe) W body f)
    (hh : HdsV X known (h₀ :: hds) l) (h0 : ∃ c, c ∈ known) (hk : ∀ c ∈ known, ∀ h ∈ l, ExcR X.K X.mg c h.cls) : VS X Wout (.Try body (h₀ :: hds) [] [] pos) (sTry known f l) := by
  obtain ⟨l', a1, a2⟩ := hdsV_as (Wout := Wout) hh h0 hk
  refine PS_imp (ps_try_manyAs (tb := fun W => tS X.K X.mg W f) (Wout := Wout) hs hf nd tk hb a1) fun E σ H ⟨B, S0, env, S, sr, ex, q⟩ => ⟨B, S0, env, S, sr, ex, ?_⟩
  unfold sTry at q
  cases r : f env with
  | nx env => rw [r] at q; exact q
  | rt d => rw [r] at q; exact q
  | rtF d => rw [r] at q; exact q
  | bk env => rw [r] at q; exact q
  | ct env => rw [r] at q; exact q
  | bad => rw [r] at q; exact q
  | exc c p env' =>
    rw [r] at q
    cases p with
    | some d => exact (show False from q).elim
    | none =>
      dsimp only at q
      by_cases hc : c ∈ known
      · rw [if_pos hc] at q
        exact fun S' σ' H' sr' ex' C hC => a2 E c C B S0 S' env' σ' H' hc hC sr' ex' q
      · rw [if_neg hc] at q; exact (show False from q).elim
/-- isinstance(e, h), e the exception of the suite -/
def eIsE (i : Nat) (a : Addr) (b : Bool) : Env → Out D := fun env => match sg env i with
  | .exn a' => if a' = a then .ok (.bool b) else .bad
  | _ => .bad
theorem ve_isE {W : WX} (i : Nat) {a C : Addr} {oe : Obj} {pn : List (Addr × Obj)} {c x h : Str} {p p1 p2 pos : Pos} (hm : X.mg "isinstance" = none) (hz : Zc (.ref C) none oe) (hf : ∃ vs, oe.data = .fields vs) (hC : X.mg c = some (.ref C)) (hk : ExcK X.K X.mg c) (hr : ExcR X.K X.mg c h)
    (hN : X.N[i]? = some x := by rfl) (hv : Vis X.env.scope x := by first | exact Or.inl rfl | exact Or.inr (Or.inl rfl) | exact Or.inr (Or.inr rfl)) (hd : (x == ("__debug__" : Str)) = false := by decide)
    (hcd : (x == ("__classdict__" : Str)) = false := by decide) (hg : Gl X "isinstance" := by rfl) (hgh : Gl X h := by rfl) (hdh : (h == ("__debug__" : Str)) = false := by decide)
    (he : starEach [.Name x p1, .Name h p2] X.env = (false, eval (.Name x p1) X.env) :: starEach [.Name h p2] X.env := by rfl) (hs2 : starEach [.Name h p2] X.env = (false, eval (.Name h p2) X.env) :: starEach [] X.env := by rfl) (hpl : (backTo pos (starEach [.Name h p2] X.env)).any (·.1) = false := by rfl) :
    VE (X.suite a ((a, oe) :: pn)) W (.Call (.Name "isinstance" p) [.Name x p1, .Name h p2] [] pos) (eIsE i a (subX c h)) := by
  obtain ⟨C', D, h1, h2, _, h4⟩ := hr.ex
  rw [hC] at h1; cases h1
  obtain ⟨C', h5, h6⟩ := hk.ex
  rw [hC] at h5; cases h5
  have args : PA (X.suite a ((a, oe) :: pn)) [.Name x p1, .Name h p2] _ := pa_cons (pe_var (X := X.suite a ((a, oe) :: pn)) hN hv hd hcd) (pa_cons (pe_glob (X := X.suite a ((a, oe) :: pn)) (v := .ref D) hgh h2 rfl hdh) pa_nil hs2) he
  refine PE_imp (pe_callB (call_isE h6 hz hf) hg hm boot_isinstance args) fun σ H Q ⟨B, S, env, sr, q⟩ => ?_
  unfold eIsE at q
  split at q
  · rename_i a' hs
    by_cases ha : a' = a
    · subst ha
      rw [if_pos rfl] at q
      have rl := sr.rel i
      rw [hs] at rl
      have hi : i < σ.length := by
        have := sg_lt (env := env) (i := i) (by rw [hs]; intro z; cases z)
        rw [sr.len] at this; exact this
      refine ⟨_, some_getD hi rl, .ref D, .ref D, _, rfl, fun u hu => hu, h4, ?_⟩
      exact Post.now sr.sub q _ (.bl _)
    · rw [if_neg ha] at q; exact (show False from q).elim
  · exact (show False from q).elim
end
end VI

/-! VI 14: the facts of error classes; the law's end. -/
namespace VI
open PySem PySem.Spec PyProof.Rows L2
section
variable {K : PySem.W.Frag} {mg : Str → Option Value}
theorem kit_of_exm {C D : Addr} {b : Bool} (e : PySem.W.exmOne K (.ref C) (.ref D) = some b) (s : PySem.W.subIn K (.ref C) (.ref D) = some b) (ss : PySem.W.subIn K (.ref C) (.ref C) = some true) : PySem.W.kitOne K (.ref C) (.ref D) = some b := by
  unfold PySem.W.exmOne at e
  split at e
  · unfold PySem.W.kitOne
    split
    · rename_i h
      have h' : (Value.ref C) = .ref D := eq_of_beq h
      cases h'
      rw [ss] at s
      exact s
    · exact e
  · cases e
theorem excr_mk {c h : Str} {C D : Addr} (mc : mg c = some (.ref C)) (mh : mg h = some (.ref D)) (h1 : PySem.W.subIn K (.ref D) (.type "BaseException") = some true) (hd : PySem.W.hasDictIn K D = true) (ht : PySem.W.typeIn K (.ref D) = some (.type "type"))
    (s : PySem.W.subIn K (.ref C) (.ref D) = some (subX c h)) (ss : PySem.W.subIn K (.ref C) (.ref C) = some true) : ExcR K mg c h :=
  have e := PySem.W.exm_ref h1 hd ht s
  ⟨C, D, mc, mh, e, kit_of_exm e s ss⟩
theorem hk_of {known hcls : List Str} (R : ∀ c ∈ known, ∀ h ∈ hcls, ExcR K mg c h) (l : List Hd) (e : ((l.map (·.cls)).all fun x => decide (x ∈ hcls)) = true) : ∀ c ∈ known, ∀ h ∈ l, ExcR K mg c h.cls := fun c hc h hh =>
  R c hc h.cls (of_decide_eq_true (List.all_eq_true.mp e h.cls (List.mem_map.mpr ⟨h, hh, rfl⟩)))
/-- what the law is to give -/
def spLaw (K : PySem.W.Frag) : Sp := fun vs H Q _ => ∃ (a : Addr) (ns : List Int), vs = [.ref a] ∧ SqL K H a (ns.map V.int) ∧ ns.length ≤ 63 ∧ ∀ H', Q (.bl true) H'
theorem law_end {P : Program} {w : World} {base : Heap} {k : Nat} {f : Addr} {fd : FuncData} {x : Str} {F : List D → Out D} (h : FnOk P w K mg base (L2.CX P w) k f fd [x] (spV K mg 1 F))
    (hF : ∀ ns : List Int, ns.length ≤ 63 → F [.list (ns.map .int)] = .ok (.bool true)) : FnOk P w K mg base (L2.CX P w) k f fd [x] (spLaw K) := h.imp fun vs H Q E ⟨a, ns, e, hS, hl, q⟩ => by
  subst e
  refine ⟨[.list (ns.map .int)], H, Same.refl _, .cons (.lst hS (DpAll.ints ns)) .nil, rfl, ?_⟩
  rw [hF ns hl]
  intro S' H' _ v hv
  cases hv
  exact q H'
theorem walk {l : PySem.W.OpenLaw} {k : Nat} {q : Program} {loose : List Str} {XP : (Str → Option Value) → Heap → Prop} {YP : World → Heap → Prop} {d : DefRec} {K : Params → PySem.W.Frag} (hn : l.most = some 63) (hdf : d.params.defaults = []) (hr : Room k callerA)
    (hY : ∀ (w : World) (h : Heap), YP w h → (K w.params).In h)
    (F : ∀ (w : World) (mg : Str → Option Value) (fa : Addr) (h : Heap), (K w.params).In h → h.Ns mainGlobals mg → mg d.name = some (.ref fa) →
      ∃ fd : FuncData, (∀ (s : Shared) (u : Value), BindsTo s fd ⟨[u], []⟩ [("_law_script", u)]) ∧ ∀ base : Heap, (K w.params).In base → base.Ns mainGlobals mg → FnOk l.prog w (K w.params) mg base (L2.CX l.prog w) k fa fd ["_law_script"] (spLaw (K w.params))) :
    PySem.W.WalkO q loose XP YP l.row.toRowW d [] (fun f vs => PySem.call f vs) :=
  L2.walk_of (n := 63) (k := k) (x := "_law_script") (CX := fun w => L2.CX l.prog w) (sp := fun w => spLaw (K w.params)) hn (by decide) hdf hr hY F (fun _ _ a ns hl _ hS => ⟨a, ns, rfl, hS, hl, fun _ => rfl⟩) fun _ _ _ _ _ h => by
    obtain ⟨_, _, _, _, _, _, _, _, _, _, _, _, z⟩ := h
    exact z.elim
end
end VI

/-! VI 15: an instance whose __init__ raises. -/
namespace VI
open PySem PySem.Spec PyProof.Rows L2
/-- the promise of an __init__ that raises: self is not looked at -/
def spX (K : PySem.W.Frag) (mg : Str → Option Value) (n : Nat) (F : List D → Out D) : Sp := fun vs H Q E => ∃ v vs' ds S, vs = v :: vs' ∧ Same S H ∧ DpAll K S vs' ds ∧ ds.length = n ∧ Post K mg (WD E) [] S H (F ds) fun _ _ _ => False
section
variable {P : Program} {w : World} {K : PySem.W.Frag} {mg : Str → Option Value} {base : Heap} {x qual : Str} {st : Stmt} {f : Addr} {fd : FuncData} {N ps : List Str} {k : Nat} {body : Env → Rs}
theorem start_srX {S H : Hp} {m : Nat} {v : V} {vs : List V} {ds : List D} (s : Same S H) (h : DpAll K S vs ds) (hm : ds.length + 1 + m = N.length) : SR K H S (.un :: env0 m ds) (L2.start N (v :: vs)) H := by
  have hl := DpAll.length h
  have no : ∀ i, (sg (.un :: env0 m ds) i).isOwn = true → False := fun i z => by
    cases i with
    | zero => cases z
    | succ i =>
      have z' : (sg (env0 m ds) i).isOwn = true := z
      rw [sg_env0] at z'
      split at z' <;> cases z'
  refine ⟨s, ?_, fun i => ?_, fun i j a z => (no i z).elim, fun i a z => (no i z).elim⟩
  · unfold env0 L2.start; simp; omega
  · cases i with
    | zero => trivial
    | succ i =>
      show SlotOk K S H (sg (env0 m ds) i) _
      rw [sg_env0]
      cases e : ds[i]? with
      | none => trivial
      | some d =>
        obtain ⟨u, e1, hv⟩ := DpAll.get h e
        have hi := (List.getElem?_eq_some_iff.mp e1).1
        have : (L2.start N (v :: vs)).getD (i + 1) none = some u := by
          unfold L2.start
          rw [List.getD_eq_getElem?_getD, List.getElem?_append_left (by simpa using hi), List.getElem?_map, List.getElem?_cons_succ, e1]; rfl
        rw [this]
        exact hv
theorem fn_x (Fn : Fun K x qual st f fd) (Sc : FnScope N ps (defScope st)) (m n : Nat) (hn : ps.length = n + 1) (hm : ps.length + m = N.length)
    (hbody : ∀ (cdv : Value) (A : Around) (outer : List PySem.Env) (s : Shared) (H : Hp) (E : XK), Room k (A.deeper (envOfC qual (defScope st) s.heap.objs.size f cdv)) →
      VSs (cxOf (L2.CX P w) P w K mg base N qual (defScope st) f cdv A outer s H E) (WD E) (defBody st) body) :
    FnOk P w K mg base (L2.CX P w) (k + 1) f fd ps (spX K mg n fun ds => retD (body (.un :: env0 m ds))) := by
  refine Fn.okX Sc (fun vs H Q E h => by obtain ⟨v, vs', ds, S, e, _, hd, hl, _⟩ := h; rw [e, List.length_cons, DpAll.length hd, hl, hn]) fun cdv A outer s H vs Q E hr h => ?_
  obtain ⟨v, vs', ds, S, e, hs, hd, hl, q⟩ := h
  subst e
  refine ⟨_, hbody cdv A outer s H E hr, H, S, .un :: env0 m ds, S, start_srX hs hd (by rw [hl]; omega), Ext.refl hs, ?_⟩
  show PostS K mg (WD E) H S (body (.un :: env0 m ds)) _
  dsimp only at q
  cases r : body (.un :: env0 m ds) with
  | exc c p env => rw [r] at q; exact fun S' σ H' _ ex => (q S' H' ex).chg fun _ _ z => z
  | nx env => rw [r] at q; exact (q S H (Ext.refl hs)).elim
  | rt d => rw [r] at q; exact (q S H (Ext.refl hs)).elim
  | rtF d => rw [r] at q; exact (show False from q).elim
  | bk env => rw [r] at q; exact (show False from q).elim
  | ct env => rw [r] at q; exact (show False from q).elim
  | bad => rw [r] at q; exact (show False from q).elim
end
section
variable {X : Cx} {W : WX} {e : Expr} {es : List Expr} {p pos : Pos} {x : Str} {C f : Addr} {fd : FuncData} {ps : List Str} {n k : Nat} {F : List D → Out D} {g : Env → Out (List D)} {sp : Sp} {E : XK}
theorem run_mkX {pins : List (Addr × Obj)} {σ : St} {H : Hp} {s : Shared} {Q : VK} {us : List Value} {vs : List V} (M : Mk X.K C f) (FO : FnOk X.prog X.w X.K X.mg X.base (L2.CX X.prog X.w) k f fd ps sp) (hr : Room (k + 1) X.A) (hb : Binds X.K fd ps [])
    (hx : PassesAt (L2.CX X.prog X.w) X σ E) (I : Inv X pins σ H s) (r : Vals vs us) (h : ∀ x dx, H x = none → H dx = none → dx ≠ x → sp (.ref x :: vs) (upd (upd H dx (.own x)) x (.ins C dx [])) (fun _ _ => False) E) :
    wpAny (model X.prog X.w) X.A (call (.ref C) us) (EP X pins σ Q) X.xe s := by
  have hq := h _ _ (I.hok.fresh (Nat.le_succ _)) (I.hok.fresh (Nat.le_refl _)) (Nat.ne_of_lt (Nat.lt_succ_self s.heap.objs.size))
  have I2 := Inv.made (C := C) I
  have r2 : Vals (V.ref (s.heap.objs.size + 1) :: vs) (Value.ref (s.heap.objs.size + 1) :: us) := .cons rfl r
  have hl : ((Value.ref (s.heap.objs.size + 1) :: us) ++ []).length = ps.length := by rw [List.append_nil, ← r2.length]; exact FO.len _ _ _ _ hq
  have bd := hb _ (Value.ref (s.heap.objs.size + 1) :: us) I2.kIn hl
  rw [List.append_nil] at bd
  have go := FO.run _ X.stack _ _ ⟨Value.ref (s.heap.objs.size + 1) :: us, []⟩ _ _ _ E (hr.make C us []) (I2.env0.make C us []) bd r2 hq
  refine wpAny_call (make_map (f := f) I.kIn M.makes M.init (beq_iff_eq.mp M.fn) (codeAny_mono go fun t s' ht => ?_))
  match t, ht with
  | .error e, ht => exact hx pins _ _ e s' I2 ht
  | .ok (.ret u), ht => obtain ⟨_, _, _, _, z⟩ := I2.after ht; exact z.elim
  | .ok .next, ht => exact ht.elim
  | .ok .brk, ht => exact ht.elim
  | .ok .cont, ht => exact ht.elim
def eMkX (n : Nat) (F : List D → Out D) (g : Env → Out (List D)) : Env → Out D := fun env => (g env).bind fun ds => if ds.length = n then (F ds).bind fun _ => .bad else .bad
structure ClsX (P : Program) (w : World) (K : PySem.W.Frag) (mg : Str → Option Value) (base : Heap) (k : Nat) (x : Str) (ps : List Str) (n : Nat) (F : List D → Out D) : Prop where
  ex : ∃ C f fd, mg x = some (.ref C) ∧ Mk K C f ∧ Binds K fd ps [] ∧ FnOk P w K mg base (L2.CX P w) k f fd ps (spX K mg n F)
/-- C(..), where its __init__ raises -/
theorem ve_mkX (h : ClsX X.prog X.w X.K X.mg X.base k x ps n F) (hr : Room (k + 1) X.A) (tk : Takes X W) (ha : VA X W (e :: es) g) (hg : Gl X x := by rfl) (hdb : (x == ("__debug__" : Str)) = false := by decide)
    (he : starEach (e :: es) X.env = (false, eval e X.env) :: starEach es X.env := by rfl) (hpl : (backTo pos (starEach es X.env)).any (·.1) = false := by rfl) :
    VE X W (.Call (.Name x p) (e :: es) [] pos) (eMkX n F g) := by
  obtain ⟨C, f, fd, hm, M, hb, FO⟩ := h.ex
  refine ⟨fun pins s σ H Q I ⟨B, S, env, sr, q⟩ => ?_⟩
  refine wpAny_Call_Name_kw (ld_glob I hg hm ?_ hdb)
  refine PySem.W.callWith_K (h₀ := X.base) I.ok.mod.kin M.kp (thn (ha.run pos pins s σ H (fun vs H1 => ∀ x dx, H1 x = none → H1 dx = none → dx ≠ x → spX X.K X.mg n F (.ref x :: vs) (upd (upd H1 dx (.own x)) x (.ins C dx [])) (fun _ _ => False) (WE W σ)) I ⟨B, S, env, sr, (Post.bind q).imp fun ds S1 H1 ex q1 vs hv y dx hy hdx hne => ?_⟩) fun us s1 ⟨vs, H1, I1, r, q⟩ => ⟨I1.kIn, run_mkX M FO hr hb (passAt tk σ) I1 r q⟩) he hpl
  by_cases hz : ds.length = n
  · rw [if_pos hz] at q1
    have sub2 : Same S1 (upd (upd H1 dx (.own y)) y (.ins C dx [])) := fun b o eb => by
      have := ex.sub b o eb
      rw [upd_ne (ne_of_none this hy), upd_ne (ne_of_none this hdx)]; exact this
    have hh2 : Same H1 (upd (upd H1 dx (.own y)) y (.ins C dx [])) := fun b o eb => by
      rw [upd_ne (ne_of_none eb hy), upd_ne (ne_of_none eb hdx)]; exact eb
    refine ⟨_, vs, ds, S1, rfl, sub2, hv, hz, ?_⟩
    cases o : F ds with
    | ok d => rw [o] at q1; exact (show False from q1).elim
    | bad => rw [o] at q1; exact q1
    | exc c p =>
      rw [o] at q1
      exact fun S' H' e' => ((show ∀ S' H', Ext S1 H1 S' H' → EW X.K X.mg W c p σ S' H' from q1) S' H' ⟨e'.ss, hh2.trans e'.hh, e'.sub, fun a o ha => e'.new a o (hh2 a o ha)⟩).chg fun _ _ z => z
  · rw [if_neg hz] at q1; exact (show False from q1).elim
end
end VI

/-! VI 16: sorted(xs) of a list or a tuple of alike data. -/
namespace VI
open PySem PySem.Spec PyProof.Rows L2

section
variable {prog : Program} {w : World} {A : Around} {E : Value → Shared → Prop} {s : Shared}
theorem collect_tuple {l : Addr} {vs : List Value} {Q : List Value → Shared → Prop} (hl : s.heap.IsTuple l vs.toArray)
    (h : Q vs { s with heap := (s.heap.push (seqObj "list" #[] 0)).update s.heap.objs.size (Obj.mapSeq (· ++ vs.toArray)) }) (hsz : vs.length ≤ sizeLine) :
    wpAny (model prog w) A (collect (.ref l)) Q E s := by
  obtain ⟨o, ho, hc, n, hd⟩ := id hl
  unfold collect
  refine wpAny_bind (wpAny_runValue (codeAny_builtin entry_proto_collect' ?_))
  show wpAny _ _ (do again (.builtin "list.__iadd__" ⟨[← newList [], .ref l], []⟩)) _ _ s
  refine wpAny_bind (wpAny_newList (wpAny_pure ⟨Code.quiet_builtin _ (by decide +kernel), codeAny_builtin entry_list_iadd' ?_⟩))
  show wpAny _ _ (Builtin.List.listExtendWith (.ref s.heap.objs.size) (.ref l) (.ref s.heap.objs.size)) _ _ { s with heap := s.heap.push (seqObj "list" #[] 0) }
  unfold Builtin.List.listExtendWith
  have ho' : (s.heap.push (seqObj "list" #[] 0)).get? l = some o := Heap.get?_push_of_some _ ho
  refine wpAny_bind (wpAny_typeOf (T := "tuple") ⟨o, ho', hc⟩ ?_)
  have ht : (Value.type "tuple" == Value.type "tuple") = true := by rfl
  rw [if_pos (by rw [ht]; simp)]
  refine wpAny_bind (listItems_at ho' hd ?_)
  refine wpAny_bind (listItems_at (xs := #[]) (n := 0) (Heap.get?_push_size _ rfl) rfl ?_)
  rw [if_neg (by simp)]
  refine wpAny_bind (listUpdate_at (xs := #[]) (n := 0) (Heap.get?_push_size _ rfl) rfl ?_ (Nat.zero_le _) (by show (#[] ++ vs.toArray).size ≤ sizeLine + 1; simp only [Array.size_append, List.size_toArray, List.length_nil]; omega))
  refine wpAny_pure ?_
  show wpAny (model prog w) A (do
      let o ← load s.heap.objs.size
      match o.data with
      | .seq xs _ => pure xs.toList
      | _ => unsupported "internal:collect") Q E { s with heap := (s.heap.push (seqObj "list" #[] 0)).update s.heap.objs.size (Obj.mapSeq (· ++ vs.toArray)) }
  refine wpAny_bind (wpAny_load (get?_update_seq (Heap.get?_push_size _ rfl) _) ?_)
  show wpAny _ _ (pure ((#[] : Array Value) ++ vs.toArray).toList) Q E _
  rw [show ((#[] : Array Value) ++ vs.toArray).toList = vs by simp]
  exact wpAny_pure h
theorem sorted_src {l : Addr} {vs : List Value} {κ : PyProof.Rows.KeyKind} {Q : Value → Shared → Prop}
    (hcol : ∀ {Q : List Value → Shared → Prop}, Q vs { s with heap := (s.heap.push (seqObj "list" #[] 0)).update s.heap.objs.size (Obj.mapSeq (· ++ vs.toArray)) } → wpAny (model prog w) A.in1 (collect (.ref l)) Q E s)
    (S : PySem.W.SortsAt prog w A.in1.in1 { s with heap := PySem.W.sortingHeap (PySem.W.copyHeap s.heap vs) (s.heap.objs.size + 1) vs } κ vs) (hL : vs.length ≤ sizeLine)
    (h : Q (.ref (s.heap.objs.size + 1)) { s with heap := sortedAll s.heap vs (PySem.W.sortVals κ false vs vs).toArray }) : wpAny (model prog w) A (call (.builtin "sorted") [.ref l]) Q E s := by
  refine PyProof.Rows.call_function_entry_kw kind_sorted plain_sorted entry_sorted (args_sorted1 _) ?_
  unfold Builtin.«sorted»
  refine wpAny_bind (m := checkCount "sorted" 1 1 _) (wpAny_pure ?_)
  refine wpAny_bind (hcol ?_)
  refine wpAny_bind (wpAny_newList ?_ hL)
  have hsz : ((s.heap.push (seqObj "list" #[] 0)).update s.heap.objs.size (Obj.mapSeq (· ++ vs.toArray))).objs.size = s.heap.objs.size + 1 := by
    rw [Heap.size_update, size_push']
  show wpAny _ _ _ _ _ { s with heap := PySem.W.copyHeap s.heap vs }
  rw [hsz]
  refine wpAny_bind (wpAny_holding (wpAny_call_entry_kw slot_list_sort ⟨_, PySem.W.copyHeap_at s.heap vs, rfl⟩ entry_list_sort ?body (args_list_sort _)))
  case body =>
    show wpAny (model prog w) A.in1.in1 (Builtin.«list.sort» ⟨[.ref (s.heap.objs.size + 1)], []⟩) _ _ _
    exact PySem.W.list_sort_vals (s := { s with heap := PySem.W.copyHeap s.heap vs }) (PySem.W.copyHeap_at s.heap vs) S hL ⟨_, rfl, wpAny_pure ⟨_, rfl, h⟩⟩
end
/-! alike and sortable data, asked plainly -/
def sortOK (ds : List D) : Bool := alikeB ds && sortableB ds && ds.all fun d => decide (d.depth ≤ 60)
def sortedO (ds : List D) : Out (List D) := if sortOK ds = true then .ok (sortD ds) else .bad
def sortedF : List D → Out (List D)
  | [.list ds] => sortedO ds
  | [.tuple ds] => sortedO ds
  | _ => .bad
theorem alike_of {ds : List D} (h : alikeB ds = true) : PySem.W.AllAlike ds := fun d hd d' hd' => List.all_eq_true.mp (List.all_eq_true.mp h d hd) d' hd'
theorem sortable_of {ds : List D} (h : sortableB ds = true) : PySem.W.Sortable ds := by
  rcases Bool.or_eq_true_iff.mp h with h | h
  · refine .inl fun d hd => ?_
    have q := List.all_eq_true.mp h d hd
    match d, q with
    | .tuple (x :: r), _ => exact ⟨x, r, rfl⟩
  · refine .inr fun d hd => ?_
    have q := List.all_eq_true.mp h d hd
    match d, q with
    | .bool _, _ => exact ⟨(fun e => by cases e), (fun _ e => by cases e)⟩
    | .int _, _ => exact ⟨(fun e => by cases e), (fun _ e => by cases e)⟩
    | .str _, _ => exact ⟨(fun e => by cases e), (fun _ e => by cases e)⟩
    | .list _, _ => exact ⟨(fun e => by cases e), (fun _ e => by cases e)⟩
    | .dict _, _ => exact ⟨(fun e => by cases e), (fun _ e => by cases e)⟩
/-- values and what they stand for, side by side -/
theorem each_of {K : PySem.W.Frag} {S : Hp} : ∀ {xs : List V} {its : List Value} {ds : List D}, Vals xs its → DpAll K S xs ds → PySem.W.EachIs (fun u (b : V × D) => RelV b.1 u ∧ Dp K S b.1 b.2) its (xs.zip ds) ∧ (xs.zip ds).map Prod.snd = ds
  | _, _, _, .nil, .nil => ⟨.nil, rfl⟩
  | _, _, _, .cons r t, .cons a h => by
    obtain ⟨e, m⟩ := each_of t h
    exact ⟨.cons ⟨r, a⟩ e, by rw [List.zip_cons_cons, List.map_cons, m]⟩
theorem of_each {K : PySem.W.Frag} {S : Hp} : ∀ {its : List Value} {bs : List (V × D)}, PySem.W.EachIs (fun u (b : V × D) => RelV b.1 u ∧ Dp K S b.1 b.2) its bs → Vals (bs.map Prod.fst) its ∧ DpAll K S (bs.map Prod.fst) (bs.map Prod.snd)
  | _, _, .nil => ⟨.nil, .nil⟩
  | _, _, .cons r t => by
    obtain ⟨a, b⟩ := of_each t
    exact ⟨.cons r.1 a, .cons r.2 b⟩
theorem sort_snd (bs : List (V × D)) : (bs.mergeSort (PySem.W.dataLe false Prod.snd)).map Prod.snd = sortD (bs.map Prod.snd) :=
  List.map_mergeSort fun a _ b _ => rfl
section
variable {X : Cx} {W : WX} {a : Expr} {pos p : Pos}
def rSortedX (K : PySem.W.Frag) : List V → Hp → VK → Prop := fun vs H Q => ∃ (a : Addr) (xs : List V) (ds : List D) (S : Hp), vs = [V.ref a] ∧ (SqL K H a xs ∨ SqT K H a xs) ∧ Same S H ∧ DpAll K S xs ds ∧ sortOK ds = true ∧
  ∀ ys p, DpAll K S ys (sortD ds) → H p = none → Q (.ref p) (upd H p (.lst ys))
theorem cr_sortedX (hu : X.A.units + 65 < cLine) : CallR X (.builtin "sorted") (rSortedX X.K) := by
  intro pins s σ H vs us Q I r h
  obtain ⟨a, xs, ds, S, rfl, hs, sS, hd, hok, q⟩ := h
  obtain ⟨u, rfl, ru⟩ := vals1 r
  obtain rfl : u = Value.ref a := ru
  obtain ⟨h12, h3⟩ := Bool.and_eq_true_iff.mp hok
  obtain ⟨h1, h2⟩ := Bool.and_eq_true_iff.mp h12
  obtain ⟨its, rv, hz, hcol⟩ : ∃ its : List Value, Vals xs its ∧ its.length ≤ sizeLine ∧ ∀ {A : Around} {E : Value → Shared → Prop} {Q : List Value → Shared → Prop}, Q its { s with heap := (s.heap.push (seqObj "list" #[] 0)).update s.heap.objs.size (Obj.mapSeq (· ++ its.toArray)) } → wpAny (model X.prog X.w) A (collect (.ref a)) Q E s := by
    rcases hs with hs | hs
    · obtain ⟨its, rv, hl, hz⟩ := I.list hs
      rw [rv.length] at hz
      exact ⟨its, rv, hz, fun h => collect_list hl.isList h hz⟩
    · obtain ⟨its, rv, hl, hz⟩ := I.tuple hs
      rw [rv.length] at hz
      exact ⟨its, rv, hz, fun h => collect_tuple hl h hz⟩
  obtain ⟨e, m⟩ := each_of rv hd
  have er : PySem.W.EachIs (fun u (b : V × D) => ∃ as, Reads s.heap u b.2 as) its (xs.zip ds) := e.mono fun u b ⟨r1, r2⟩ => Dp.reads I b.2 b.1 u (Dp.mono sS r2) r1
  have er' : PySem.W.EachIs (fun u (b : V × D) => ∃ as, Reads (PySem.W.sortingHeap (PySem.W.copyHeap s.heap its) (s.heap.objs.size + 1) its) u b.2 as) its (xs.zip ds) := er.mono fun _ _ ⟨as, r⟩ => ⟨as, PyProof.Rows.Reads.keeps (fun _ _ => PySem.W.sorting_copy_old) r⟩
  have hal : PySem.W.AllAlike ((xs.zip ds).map Prod.snd) := by rw [m]; exact alike_of h1
  have hk : PySem.W.Sortable ((xs.zip ds).map Prod.snd) := by rw [m]; exact sortable_of h2
  have hb : ∀ d, d ∈ (xs.zip ds).map Prod.snd → X.A.in1.in1.units + d.depth < cLine := fun d hd' => by
    rw [m] at hd'
    have q : d.depth ≤ 60 := of_decide_eq_true (List.all_eq_true.mp h3 d hd')
    show X.A.units + 1 + 1 + d.depth < cLine
    omega
  refine sorted_src hcol (PySem.W.SortsAt.data (s := { s with heap := PySem.W.sortingHeap (PySem.W.copyHeap s.heap its) (s.heap.objs.size + 1) its }) (PySem.W.each_map (R := fun v d => ∃ as, Reads (PySem.W.sortingHeap (PySem.W.copyHeap s.heap its) (s.heap.objs.size + 1) its) v d as) Prod.snd er') hal hk hb) hz ?_
  have eo := PySem.W.sortVals_data false e er' hal
  obtain ⟨v1, v2⟩ := of_each eo
  rw [sort_snd, m] at v2
  have hl := PySem.W.sortVals_length (κ := PySem.W.dataKind (PySem.W.sortingHeap (PySem.W.copyHeap s.heap its) (s.heap.objs.size + 1) its) ((xs.zip ds).map Prod.snd)) false (ks := its) (vs := its) rfl
  obtain ⟨n, hn⟩ := sortedAll_at s.heap its (PySem.W.sortVals (PySem.W.dataKind (PySem.W.sortingHeap (PySem.W.copyHeap s.heap its) (s.heap.objs.size + 1) its) ((xs.zip ds).map Prod.snd)) false its its).toArray
  refine ⟨.ref (s.heap.objs.size + 1), upd H (s.heap.objs.size + 1) (.lst _), I.laid (t' := s.toks) (fun b o => sortedAll_old) (Nat.le_succ _) ⟨?_, _, n, v1, hn⟩, rfl, q _ _ v2 (I.hok.fresh (Nat.le_succ _))⟩
  rw [v1.length, hl]
  exact hz
theorem vf_sorted {f : Env → Out D} (hm : X.mg "sorted" = none) (hu : X.A.units + 65 < cLine) (ha : VP X W a f) (hg : Gl X "sorted" := by rfl) (hs : starEach [a] X.env = [(false, eval a X.env)] := by rfl) : VF X W (.Call (.Name "sorted" p) [a] [] pos) (fCall sortedF (aCons f aNil)) :=
  PE_imp (pe_callB (cr_sortedX hu) hg hm (by decide +kernel) (vap_cons ha vap_nil hs) (by decide) (by decide) hs rfl) fun σ H Q ⟨B, S, env, sr, q⟩ => ⟨B, S, env, sr, (Post.bind q).imp fun ds S1 H1 ex q1 vs h => by
    have go : ∀ (a : Addr) (ws : List V) (xs : List D), vs = [.ref a] → (SqL X.K H1 a ws ∨ SqT X.K H1 a ws) → DpAll X.K S1 ws xs → Post X.K X.mg W σ S1 H1 (sortedO xs) (fun ds S' H' => ∀ p vs, H p = none → S' p = none → H' p = some (.lst vs) → DpAll X.K S' vs ds → Q (.ref p) H') → rSortedX X.K vs H1 Q := fun a ws xs e hh hd q1 => by
      unfold sortedO at q1
      by_cases ho : sortOK xs = true
      · rw [if_pos ho] at q1
        refine ⟨a, ws, xs, S1, e, hh, ex.sub, hd, ho, fun ys l hy hl => ?_⟩
        exact q1 _ _ (Ext.fresh (o := .lst ys) ex.sub hl) l ys (ex.hh.free hl) (ex.sub.free hl) upd_same hy
      · rw [if_neg ho] at q1
        exact q1.elim
    match ds, h, q1 with
    | [.list xs], h, q1 =>
      obtain ⟨v, rfl, hv⟩ := h.one
      obtain ⟨a, ws, rfl, hh, hd⟩ := hv.lst ex.sub
      exact go a ws xs rfl (.inl hh) hd q1
    | [.tuple xs], h, q1 =>
      obtain ⟨v, rfl, hv⟩ := h.one
      obtain ⟨a, ws, rfl, _, hh, hd, hd'⟩ := hv.tup ex.sub
      exact go a ws xs rfl (.inr hh) hd q1⟩
end
end VI

/-! VI 17: list(range(..)). -/
namespace VI
open PySem PySem.Spec PyProof.Rows L2
def rngA (a b : Int) : Out (List D) := if -(2 ^ 62) ≤ a ∧ a < 2 ^ 62 ∧ -(2 ^ 62) ≤ b ∧ b < 2 ^ 62 ∧ (b - a).toNat ≤ 2 ^ 24 then .ok (rangeL a (b - a).toNat) else .bad
def lrg1 : D → Out (List D)
  | .int j => rngA 0 j
  | _ => .bad
def lrg2 : D → D → Out (List D)
  | .int i, .int j => rngA i j
  | _, _ => .bad
theorem dps_rg {K : PySem.W.Frag} {S : Hp} (a b : Int) : DpAll K S (rgV a b) (rangeL a (b - a).toNat) := by
  unfold rgV rangeL
  generalize (b - a).toNat = n
  have go : ∀ l : List Nat, DpAll K S (l.map fun i => V.int (a + (i : Nat))) (l.map fun i => PyData.int (a + (i : Nat))) := fun l => by
    induction l with
    | nil => exact .nil
    | cons x l ih => exact .cons (.int _) ih
  exact go _
section
variable {X : Cx} {W : WX} {a b : Expr} {pos p p2 p3 : Pos}
theorem rng_post {σ : St} {S1 H1 H : Hp} {Q : VK} {i j : Int} (ex : Same S1 H1) (hh : ∀ q, H1 q = none → H q = none) (q1 : Post X.K X.mg W σ S1 H1 (rngA i j) (fun ds S' H' => ∀ p vs, H p = none → S' p = none → H' p = some (.lst vs) → DpAll X.K S' vs ds → Q (.ref p) H')) :
    RgOk i j ∧ ∀ q, H1 q = none → Q (.ref q) (upd H1 q (.lst (rgV i j))) := by
  unfold rngA at q1
  split at q1
  · rename_i h
    refine ⟨h, fun l hl => ?_⟩
    exact q1 _ _ (Ext.fresh (o := .lst (rgV i j)) ex hl) l _ (hh l hl) (ex.free hl) upd_same (dps_rg i j)
  · exact (show False from q1).elim
theorem vf_listRg1 {f : Env → Out D} (hm : X.mg "list" = none) (hr : X.mg "range" = none) (ha : VP X W a f) (hc : X.calm = true := by rfl) (hg : Gl X "list" := by rfl) (hgr : Gl X "range" := by rfl) (na : starEach [a] X.env = (false, eval a X.env) :: starEach [] X.env := by rfl)
    (nb : starEach [.Call (.Name "range" p2) [a] [] p3] X.env = (false, eval (.Call (.Name "range" p2) [a] [] p3) X.env) :: starEach [] X.env := by rfl) : VF X W (.Call (.Name "list" p) [.Call (.Name "range" p2) [a] [] p3] [] pos) (f1 lrg1 f) :=
  PE_imp (pe_listRg hc hg hm (prg_1 hgr hr ha na) nb) fun σ H Q ⟨B, S, env, sr, q⟩ => ⟨B, S, env, sr, (Post.bind q).imp fun d S1 H1 ex q1 v h => by
    match d, h, q1 with
    | .int j, h, q1 =>
      cases h.int
      exact ⟨j, rfl, rng_post ex.sub (fun q e => ex.hh.free e) q1⟩⟩
end
end VI

/-! VM 1: evaluation rules for the semantics; loops by invariants. -/
namespace VI
open PySem

/-! ### environments -/
@[simp] theorem sg_zero (s : Slot) (env : Env) : sg (s :: env) 0 = s := Eq.trans rfl rfl
@[simp] theorem sg_succ (s : Slot) (env : Env) (n : Nat) : sg (s :: env) (n + 1) = sg env n := Eq.trans rfl rfl
@[simp] theorem env0_nil (m : Nat) : env0 m [] = List.replicate m .un := Eq.trans rfl rfl
@[simp] theorem env0_cons (m : Nat) (d : D) (ds : List D) : env0 m (d :: ds) = .val d :: env0 m ds := Eq.trans rfl rfl
@[simp] theorem rep_un_succ (m : Nat) : List.replicate (m + 1) Slot.un = .un :: List.replicate m .un := Eq.trans rfl rfl
@[simp] theorem rep_un_zero : List.replicate 0 Slot.un = [] := Eq.trans rfl rfl

/-! ### expressions -/
section
variable {env : Env} {f g h : Env → Out D} {fs gs : Env → Out (List D)} {b c : Env → Out Bool} {i : Nat}
@[simp] theorem eVar_eq : eVar i env = slotV (sg env i) := Eq.trans rfl rfl
@[simp] theorem ePk_eq : ePk i env = slotD (sg env i) := Eq.trans rfl rfl
@[simp] theorem slotV_val (d : D) : slotV (.val d) = .ok d := Eq.trans rfl rfl
@[simp] theorem slotD_val (d : D) : slotD (.val d) = .ok d := Eq.trans rfl rfl
@[simp] theorem slotD_own (ds : List D) : slotD (.own ds) = .ok (.list ds) := Eq.trans rfl rfl
@[simp] theorem eC_eq (d : D) : eC d env = .ok d := Eq.trans rfl rfl
@[simp] theorem e1_eq (k : D → Out D) : e1 k f env = (f env).bind k := Eq.trans rfl rfl
@[simp] theorem e2_eq (k : D → D → Out D) : e2 k f g env = (f env).bind fun x => (g env).bind fun y => k x y := Eq.trans rfl rfl
@[simp] theorem f1_eq (k : D → Out (List D)) : f1 k f env = (f env).bind k := Eq.trans rfl rfl
@[simp] theorem f2_eq (k : D → D → Out (List D)) : f2 k f g env = (f env).bind fun x => (g env).bind fun y => k x y := Eq.trans rfl rfl
@[simp] theorem aNil_eq : aNil env = .ok [] := Eq.trans rfl rfl
@[simp] theorem aCons_eq : aCons f fs env = (f env).bind fun x => (fs env).bind fun xs => .ok (x :: xs) := Eq.trans rfl rfl
@[simp] theorem eTup_eq : eTup fs env = (fs env).bind fun ds => if ds.length ≤ sizeLine then .ok (.tuple ds) else .bad := Eq.trans rfl rfl
@[simp] theorem fLst_eq : fLst fs env = (fs env).bind fun ds => if ds.length ≤ sizeLine then .ok ds else .bad := Eq.trans rfl rfl
@[simp] theorem eL_eq : eL fs env = (fs env).map .list := Eq.trans rfl rfl
@[simp] theorem bCm_eq (o : Cm) : bCm o f g env = (f env).bind fun x => (g env).bind fun y => cmD o x y := Eq.trans rfl rfl
@[simp] theorem bCh_eq (l : List (Cm × (Env → Out D))) : bCh f l env = (f env).bind fun x => chD x l env := Eq.trans rfl rfl
@[simp] theorem chD_nil (x : D) : chD x [] env = .ok true := Eq.trans rfl rfl
@[simp] theorem chD_cons (x : D) (o : Cm) (l : List (Cm × (Env → Out D))) : chD x ((o, f) :: l) env = (f env).bind fun y => (cmD o x y).bind fun b => if b then chD y l env else .ok false := Eq.trans rfl rfl
@[simp] theorem bNot_eq : bNot b env = (b env).bind fun x => .ok (!x) := Eq.trans rfl rfl
@[simp] theorem bAnd_eq : bAnd b c env = (b env).bind fun x => if x then c env else .ok false := Eq.trans rfl rfl
@[simp] theorem bOr_eq : bOr b c env = (b env).bind fun x => if x then .ok true else c env := Eq.trans rfl rfl
@[simp] theorem bYes_eq : bYes env = .ok true := Eq.trans rfl rfl
@[simp] theorem eB_eq : eB b env = (b env).map .bool := Eq.trans rfl rfl
@[simp] theorem bTru_eq : bTru f env = (f env).bind truD := Eq.trans rfl rfl
@[simp] theorem eIf_eq : eIf b f g env = (b env).bind fun x => if x then f env else g env := Eq.trans rfl rfl
@[simp] theorem eAnd_eq : eAnd f g env = (f env).bind fun x => (isB x).bind fun c => if c then g env else .ok (.bool false) := Eq.trans rfl rfl
@[simp] theorem eOr_eq : eOr f g env = (f env).bind fun x => (isB x).bind fun c => if c then .ok (.bool true) else g env := Eq.trans rfl rfl
@[simp] theorem isB_bool (x : Bool) : isB (.bool x) = .ok x := Eq.trans rfl rfl
@[simp] theorem eCall_eq (k : List D → Out D) : eCall k fs env = (fs env).bind k := Eq.trans rfl rfl
@[simp] theorem fCall_eq (k : List D → Out (List D)) : fCall k fs env = (fs env).bind k := Eq.trans rfl rfl
@[simp] theorem eFn_eq (n : Nat) (F : List D → Out D) : eFn n F fs env = (fs env).bind fun ds => if ds.length = n then F ds else .bad := Eq.trans rfl rfl
@[simp] theorem fFn_eq (n : Nat) (F : List D → Out (List D)) : fFn n F fs env = (fs env).bind fun ds => if ds.length = n then F ds else .bad := Eq.trans rfl rfl
@[simp] theorem eFnP_eq (n : Nat) (F : List D → Out D) : eFnP n F fs env = (fs env).bind fun ds => if ds.length = n then onlyLf (F ds) else .bad := Eq.trans rfl rfl
@[simp] theorem fFnP_eq (n : Nat) (F : List D → Out (List D)) : fFnP n F fs env = (fs env).bind fun ds => if ds.length = n then onlyLfs (F ds) else .bad := Eq.trans rfl rfl
@[simp] theorem iRg_eq (k : List D → Out (List D)) : iRg k fs env = (fs env).bind k := Eq.trans rfl rfl
@[simp] theorem iSeq_eq : iSeq f env = (f env).bind itemsD := Eq.trans rfl rfl
@[simp] theorem itemsD_list (ds : List D) : itemsD (.list ds) = .ok ds := Eq.trans rfl rfl
@[simp] theorem itemsD_tuple (ds : List D) : itemsD (.tuple ds) = .ok ds := Eq.trans rfl rfl
@[simp] theorem oNone_eq : oNone env = .ok none := Eq.trans rfl rfl
@[simp] theorem oSome_eq : oSome f env = (f env).bind fun d => (asI d).bind fun i => .ok (some i) := Eq.trans rfl rfl
@[simp] theorem asI_int (n : Int) : asI (.int n) = .ok n := Eq.trans rfl rfl
@[simp] theorem eSl_eq (lo hi : Env → Out (Option Int)) : eSl f lo hi env = (f env).bind fun d => (lo env).bind fun l => (hi env).bind fun h => cutO d l h := Eq.trans rfl rfl
@[simp] theorem fSl_eq (lo hi : Env → Out (Option Int)) : fSl f lo hi env = (f env).bind fun d => (lo env).bind fun l => (hi env).bind fun h => cutLO d l h := Eq.trans rfl rfl
@[simp] theorem cutO_tuple (ds : List D) (l h : Option Int) : cutO (.tuple ds) l h = .ok (.tuple (cutD ds l h)) := Eq.trans rfl rfl
@[simp] theorem cutLO_list (ds : List D) (l h : Option Int) : cutLO (.list ds) l h = .ok (cutD ds l h) := Eq.trans rfl rfl
@[simp] theorem revO_tuple (ds : List D) : revO (.tuple ds) = .ok (.tuple ds.reverse) := Eq.trans rfl rfl
@[simp] theorem revLO_list (ds : List D) : revLO (.list ds) = .ok ds.reverse := Eq.trans rfl rfl
@[simp] theorem qb_ok_eq {α β : Type} (a : α) (k : α → Out β) : qb (.ok a) k = k a := Eq.trans rfl rfl
def isEK (a : Addr) (x : Bool) (s : Slot) : Out D := match s with
  | .exn a' => if a' = a then .ok (.bool x) else .bad
  | _ => .bad
@[simp] theorem isEK_exn (a : Addr) (x : Bool) : isEK a x (.exn a) = .ok (.bool x) := if_pos rfl
@[simp] theorem eIsE_eq (a : Addr) (x : Bool) : eIsE i a x env = isEK a x (sg env i) := Eq.trans rfl rfl
end
/-! ### operations -/
@[simp] theorem addD_int (a b : Int) : addD (.int a) (.int b) = .ok (.int (a + b)) := Eq.trans rfl rfl
@[simp] theorem addD_tuple (a b : List D) : addD (.tuple a) (.tuple b) = if a.length + b.length ≤ sizeLine then .ok (.tuple (a ++ b)) else .bad := Eq.trans rfl rfl
@[simp] theorem subD_int (a b : Int) : subD (.int a) (.int b) = .ok (.int (a - b)) := Eq.trans rfl rfl
@[simp] theorem mulD_int (a b : Int) : mulD (.int a) (.int b) = if (-(2 ^ 64) < a ∧ a < 2 ^ 64) ∨ (-(2 ^ 64) < b ∧ b < 2 ^ 64) then .ok (.int (a * b)) else .bad := Eq.trans rfl rfl
@[simp] theorem mulD_tuple (a : List D) (k : Int) : mulD (.tuple a) (.int k) = if a ≠ [] ∧ 2 ≤ k ∧ k ≤ 1000 ∧ a.length ≤ 1000 then .ok (.tuple (List.replicate k.toNat a).flatten) else .bad := Eq.trans rfl rfl
@[simp] theorem divD_int (a b : Int) : divD (.int a) (.int b) = if 0 < b ∧ b < 1073741824 then .ok (.int (a / b)) else .bad := Eq.trans rfl rfl
@[simp] theorem modD_int (a b : Int) : modD (.int a) (.int b) = if 0 < b then .ok (.int (a % b)) else .bad := Eq.trans rfl rfl
@[simp] theorem powD_int (a b : Int) : powD (.int a) (.int b) = if 0 ≤ b ∧ b ≤ 1000000 ∧ a.natAbs < 2 ^ 64 then .ok (.int (a ^ b.toNat)) else .bad := Eq.trans rfl rfl
@[simp] theorem negD_int (a : Int) : negD (.int a) = .ok (.int (-a)) := Eq.trans rfl rfl
@[simp] theorem catL_list (a b : List D) : catL (.list a) (.list b) = if a.length + b.length ≤ sizeLine then .ok (a ++ b) else .bad := Eq.trans rfl rfl
@[simp] theorem repL_list (a : List D) (k : Int) : repL (.list a) (.int k) = if -(2 ^ 63) ≤ k ∧ k < 2 ^ 63 ∧ a.length * k.toNat ≤ sizeLine then .ok (List.replicate k.toNat a).flatten else .bad := Eq.trans rfl rfl
def optO (o : Option D) : Out D := match o with
  | some d => .ok d
  | none => .bad
@[simp] theorem optO_some (d : D) : optO (some d) = .ok d := Eq.trans rfl rfl
@[simp] theorem idxD_list (ds : List D) (i : Int) : idxD (.list ds) (.int i) = optO (L2.atI ds i) := Eq.trans rfl rfl
@[simp] theorem idxD_tuple (ds : List D) (i : Int) : idxD (.tuple ds) (.int i) = optO (L2.atI ds i) := Eq.trans rfl rfl
@[simp] theorem lenG_list (ds : List D) : lenG [.list ds] = .ok (.int ds.length) := Eq.trans rfl rfl
@[simp] theorem lenG_tuple (ds : List D) : lenG [.tuple ds] = .ok (.int ds.length) := Eq.trans rfl rfl
@[simp] theorem tupleG_list (ds : List D) : tupleG [.list ds] = .ok (.tuple ds) := Eq.trans rfl rfl
@[simp] theorem tupleG_tuple (ds : List D) : tupleG [.tuple ds] = .ok (.tuple ds) := Eq.trans rfl rfl
@[simp] theorem listG_list (ds : List D) : listG [.list ds] = .ok ds := Eq.trans rfl rfl
@[simp] theorem listG_tuple (ds : List D) : listG [.tuple ds] = .ok ds := Eq.trans rfl rfl
@[simp] theorem maxG_two (i j : Int) : maxG [.int i, .int j] = .ok (.int (max i j)) := by
  show Out.ok (PyData.int (if j > i then j else i)) = _
  congr 2
  rw [Int.max_def]; split <;> split <;> omega
@[simp] theorem minG_two (i j : Int) : minG [.int i, .int j] = .ok (.int (min i j)) := by
  show Out.ok (PyData.int (if j < i then j else i)) = _
  congr 2
  rw [Int.min_def]; split <;> split <;> omega
@[simp] theorem isiG_eq (T : Ty) (d : D) : isiG T [d] = .ok (.bool (isTy T d)) := Eq.trans rfl rfl
@[simp] theorem intG_int (i : Int) : intG [.int i] = .ok (.int i) := Eq.trans rfl rfl
@[simp] theorem intG_bool (b : Bool) : intG [.bool b] = .ok (.int (if b then 1 else 0)) := Eq.trans rfl rfl
@[simp] theorem truD_bool (b : Bool) : truD (.bool b) = .ok b := Eq.trans rfl rfl
@[simp] theorem truD_int (i : Int) : truD (.int i) = .ok (i != 0) := Eq.trans rfl rfl
@[simp] theorem truD_list (ds : List D) : truD (.list ds) = .ok (!ds.isEmpty) := Eq.trans rfl rfl
@[simp] theorem truD_tuple (ds : List D) : truD (.tuple ds) = .ok (!ds.isEmpty) := Eq.trans rfl rfl
@[simp] theorem truD_none : truD .none = .ok false := Eq.trans rfl rfl
@[simp] theorem cm_lt (a b : Int) : cmD .lt (.int a) (.int b) = .ok (decide (a < b)) := Eq.trans rfl rfl
@[simp] theorem cm_le (a b : Int) : cmD .le (.int a) (.int b) = .ok (decide (a ≤ b)) := Eq.trans rfl rfl
@[simp] theorem cm_gt (a b : Int) : cmD .gt (.int a) (.int b) = .ok (decide (b < a)) := Eq.trans rfl rfl
@[simp] theorem cm_ge (a b : Int) : cmD .ge (.int a) (.int b) = .ok (decide (b ≤ a)) := Eq.trans rfl rfl
@[simp] theorem cm_isN (a : D) : cmD .isN a .none = .ok (nonD a) := by show Out.ok (true == nonD a) = _; cases nonD a <;> rfl
@[simp] theorem cm_notN (a : D) : cmD .notN a .none = .ok (!nonD a) := by show Out.ok (false == nonD a) = _; cases nonD a <;> rfl
@[simp] theorem cm_eq_int (a b : Int) : cmD .eq (.int a) (.int b) = .ok (decide (a = b)) := by
  show Out.ok (true == (a == b)) = _
  by_cases h : a = b <;> simp [h]
@[simp] theorem cm_ne_int (a b : Int) : cmD .ne (.int a) (.int b) = .ok (decide (a ≠ b)) := by
  show Out.ok (false == (a == b)) = _
  by_cases h : a = b <;> simp [h]
theorem cm_eq_of {a b : D} (h1 : shB a = true) (h2 : shB b = true) : cmD .eq a b = .ok (PyData.eqv a b) := by
  show eqD true a b = _
  unfold eqD
  rw [if_pos ⟨h1, h2⟩]
  cases PyData.eqv a b <;> rfl
theorem cm_ne_of {a b : D} (h1 : shB a = true) (h2 : shB b = true) : cmD .ne a b = .ok (!PyData.eqv a b) := by
  show eqD false a b = _
  unfold eqD
  rw [if_pos ⟨h1, h2⟩]
  cases PyData.eqv a b <;> rfl
@[simp] theorem nonD_none : nonD .none = true := Eq.trans rfl rfl
@[simp] theorem nonD_int (i : Int) : nonD (.int i) = false := Eq.trans rfl rfl
@[simp] theorem nonD_list (i : List D) : nonD (.list i) = false := Eq.trans rfl rfl
@[simp] theorem nonD_tuple (i : List D) : nonD (.tuple i) = false := Eq.trans rfl rfl
@[simp] theorem nonD_str (i : Str) : nonD (.str i) = false := Eq.trans rfl rfl
@[simp] theorem nonD_bool (i : Bool) : nonD (.bool i) = false := Eq.trans rfl rfl
theorem rng1_eq (j : Int) : rng1 [.int j] = if -(2 ^ 62) ≤ j ∧ j < 2 ^ 62 then .ok (rangeL 0 j.toNat) else .bad := rfl
theorem rng2_eq (i j : Int) : rng2 [.int i, .int j] = if -(2 ^ 62) ≤ i ∧ i < 2 ^ 62 ∧ -(2 ^ 62) ≤ j ∧ j < 2 ^ 62 then .ok (rangeL i (j - i).toNat) else .bad := rfl

theorem rng1_of {j : Int} (h0 : 0 ≤ j) (h1 : j < 1000) : rng1 [.int j] = .ok (rangeL 0 j.toNat) := by rw [rng1_eq, if_pos (by omega)]
theorem rng2_of {i j : Int} (h0 : 0 ≤ i) (h1 : i < 1000) (h2 : -1000 ≤ j) (h3 : j < 1000) : rng2 [.int i, .int j] = .ok (rangeL i (j - i).toNat) := by rw [rng2_eq, if_pos (by omega)]
theorem mod2 {u n : Int} (h0 : 0 ≤ u) (h2 : u < 2 * n) : u % n = if u < n then u else u - n := by
  split
  · exact Int.emod_eq_of_lt h0 (by assumption)
  · have e : u = (u - n) + n := by omega
    rw [e, Int.add_emod_right]
    have e2 : u - n + n - n = u - n := by omega
    rw [e2]
    exact Int.emod_eq_of_lt (by omega) (by omega)
/-! ### statements -/
section
variable {env : Env} {f g : Env → Rs} {e : Env → Out D} {fs : Env → Out (List D)} {b : Env → Out Bool} {i j : Nat}
@[simp] theorem sNil_eq : sNil env = .nx env := Eq.trans rfl rfl
@[simp] theorem sSeq_eq : sSeq f g env = (f env).then g := Eq.trans rfl rfl
@[simp] theorem then_rt (d : D) (k : Env → Rs) : (Rs.rt d).then k = .rt d := Eq.trans rfl rfl
@[simp] theorem then_rtF (d : List D) (k : Env → Rs) : (Rs.rtF d).then k = .rtF d := Eq.trans rfl rfl
@[simp] theorem then_exc (c : Str) (p : Option D) (v : Env) (k : Env → Rs) : (Rs.exc c p v).then k = .exc c p v := Eq.trans rfl rfl
@[simp] theorem then_bad (k : Env → Rs) : Rs.bad.then k = .bad := Eq.trans rfl rfl
@[simp] theorem then_bk (v : Env) (k : Env → Rs) : (Rs.bk v).then k = .bk v := Eq.trans rfl rfl
@[simp] theorem then_ct (v : Env) (k : Env → Rs) : (Rs.ct v).then k = .ct v := Eq.trans rfl rfl
@[simp] theorem sSet_eq : sSet i e env = (e env).toS env fun d => .nx (env.set i (.val d)) := Eq.trans rfl rfl
@[simp] theorem sOwn_eq : sOwn i fs env = (fs env).toS env fun ds => .nx (env.set i (.own ds)) := Eq.trans rfl rfl
@[simp] theorem sDrop_eq : sDrop e env = (e env).toS env fun _ => .nx env := Eq.trans rfl rfl
@[simp] theorem sRet_eq : sRet e env = (e env).toS env .rt := Eq.trans rfl rfl
@[simp] theorem sRetF_eq : sRetF fs env = (fs env).toS env .rtF := Eq.trans rfl rfl
@[simp] theorem sRetN_eq : sRetN env = .rt .none := Eq.trans rfl rfl
@[simp] theorem sRetO_eq : sRetO i env = ownS i env .rtF := Eq.trans rfl rfl
@[simp] theorem sIf_eq : sIf b f g env = (b env).toS env fun x => if x then f env else g env := Eq.trans rfl rfl
@[simp] theorem sRaise_eq (c : Str) : sRaise c env = .exc c none env := Eq.trans rfl rfl
@[simp] theorem toS_exc {α : Type} (c : Str) (p : Option D) (k : α → Rs) : (Out.exc c p : Out α).toS env k = .exc c p env := Eq.trans rfl rfl
@[simp] theorem toS_bad {α : Type} (k : α → Rs) : (Out.bad : Out α).toS env k = .bad := Eq.trans rfl rfl
def ownK (k : List D → Rs) (s : Slot) : Rs := match s with
  | .own ds => k ds
  | _ => .bad
@[simp] theorem ownK_own (k : List D → Rs) (ds : List D) : ownK k (.own ds) = k ds := Eq.trans rfl rfl
@[simp] theorem ownS_eq (k : List D → Rs) : ownS i env k = ownK k (sg env i) := Eq.trans rfl rfl
def frzK (i : Nat) (f : Env → Rs) (env : Env) (s : Slot) : Rs := match s with
  | .own ds => f (env.set i (.val (.list ds)))
  | _ => f env
@[simp] theorem frzK_own (ds : List D) : frzK i f env (.own ds) = f (env.set i (.val (.list ds))) := Eq.trans rfl rfl
@[simp] theorem frzK_val (d : D) : frzK i f env (.val d) = f env := Eq.trans rfl rfl
@[simp] theorem frzK_un : frzK i f env .un = f env := Eq.trans rfl rfl
@[simp] theorem sFrz_eq : sFrz i f env = frzK i f env (sg env i) := Eq.trans rfl rfl
def optK {α : Type} (o : Option α) (k : α → Rs) : Rs := match o with
  | some a => k a
  | none => .bad
@[simp] theorem optK_some {α : Type} (a : α) (k : α → Rs) : optK (some a) k = k a := Eq.trans rfl rfl
def intK (k : Int → Rs) (d : D) : Rs := match d with
  | .int z => k z
  | _ => .bad
@[simp] theorem intK_int (k : Int → Rs) (z : Int) : intK k (.int z) = k z := Eq.trans rfl rfl
def envK (o : Out Env) (k : Env → Rs) : Rs := match o with
  | .ok env => k env
  | _ => .bad
@[simp] theorem envK_ok (k : Env → Rs) : envK (.ok env) k = k env := Eq.trans rfl rfl
@[simp] theorem sApp_eq : sApp i e env = ownK (fun ds => (e env).toS env fun d => if ds.length < sizeLine then .nx (env.set i (.own (ds ++ [d]))) else .bad) (sg env i) := Eq.trans rfl rfl
@[simp] theorem sPut_eq (k : Env → Out D) : sPut i k e env = (e env).toS env fun d => ownK (fun ds => (k env).toS env fun k => optK (ixD ds.length k) fun j => .nx (env.set i (.own (ds.set j d)))) (sg env i) := by
  refine congrArg (Out.toS (e env) env) (funext fun d => ?_)
  show ownS i env _ = _
  rw [ownS_eq]
  refine congrArg (fun z => ownK z (sg env i)) (funext fun ds => ?_)
  refine congrArg (Out.toS (k env) env) (funext fun k => ?_)
  cases ixD ds.length k <;> rfl
@[simp] theorem sPutA_eq (o : Int → Int → Int) (k : Env → Out D) : sPutA o i k e env = ownK (fun ds => (k env).toS env fun k => optK (ixD ds.length k) fun j => optK ds[j]? (intK fun z => ((e env).bind intD).toS env fun d => .nx (env.set i (.own (ds.set j (.int (o z d))))))) (sg env i) := by
  unfold sPutA
  rw [ownS_eq]
  refine congrArg (fun z => ownK z (sg env i)) (funext fun ds => ?_)
  refine congrArg (Out.toS (k env) env) (funext fun k => ?_)
  cases ixD ds.length k with
  | none => rfl
  | some j =>
    show _ = optK ds[j]? _
    cases h : ds[j]? with
    | none => simp [optK, h]
    | some d => cases d <;> simp [optK, intK, h]
@[simp] theorem intD_int (n : Int) : intD (.int n) = .ok n := Eq.trans rfl rfl
@[simp] theorem ixD_int (n : Nat) (k : Int) : ixD n (.int k) = L2.ixN n k := Eq.trans rfl rfl
@[simp] theorem sTgt_eq (t : Tgt) : sTgt t e env = (e env).toS env fun d => envK (bindT t d env) .nx := by
  refine congrArg (Out.toS (e env) env) (funext fun d => ?_)
  cases bindT t d env <;> rfl
def parK (i j : Nat) (env : Env) (ds : List D) : Rs := match ds with
  | [a, b] => .nx ((env.set i (.val a)).set j (.val b))
  | _ => .bad
@[simp] theorem parK_two (a b : D) : parK i j env [a, b] = .nx ((env.set i (.val a)).set j (.val b)) := Eq.trans rfl rfl
@[simp] theorem sPar_eq : sPar i j fs env = (fs env).toS env (parK i j env) := by
  refine congrArg (Out.toS (fs env) env) (funext fun ds => ?_)
  match ds with
  | [] => rfl
  | [_] => rfl
  | [_, _] => rfl
  | _ :: _ :: _ :: _ => rfl
@[simp] theorem sFor_eq (it : Env → Out (List D)) (t : Tgt) : sFor it t f env = (it env).toS env fun ds => forS t f ds env := Eq.trans rfl rfl
@[simp] theorem bindT_nm (d : D) : bindT (.nm i) d env = .ok (env.set i (.val d)) := by unfold bindT; rfl
@[simp] theorem bindT_tp (l : Tgts) (ds : List D) : bindT (.tp l) (.tuple ds) env = bindTs l ds env := by unfold bindT; rfl
@[simp] theorem bindTs_nil : bindTs .nil [] env = .ok env := by unfold bindTs; rfl
@[simp] theorem bindTs_cons (t : Tgt) (r : Tgts) (d : D) (ds : List D) : bindTs (.cons t r) (d :: ds) env = (bindT t d env).bind fun env' => bindTs r ds env' := by rw [bindTs]
@[simp] theorem retD_rt (d : D) : retD (.rt d) = .ok d := Eq.trans rfl rfl
@[simp] theorem retD_nx (v : Env) : retD (.nx v) = .ok .none := Eq.trans rfl rfl
@[simp] theorem retD_exc (c : Str) (p : Option D) (v : Env) : retD (.exc c p v) = .exc c p := Eq.trans rfl rfl
@[simp] theorem retF_rtF (d : List D) : retF (.rtF d) = .ok d := Eq.trans rfl rfl
@[simp] theorem retF_exc (c : Str) (p : Option D) (v : Env) : retF (.exc c p v) = .exc c p := Eq.trans rfl rfl
end

/-! ### loops -/
theorem turn_nx (env : Env) (k : Env → Rs) : (Rs.nx env).turn k = k env := rfl
/-- a loop that goes to its end -/
theorem forS_inv {t : Tgt} {f : Env → Rs} (I : Nat → Env → Prop) : ∀ (ds : List D) (n : Nat) (env : Env), I n env → (∀ i d env, ds[i]? = some d → I (n + i) env → ∃ env1 env2, bindT t d env = .ok env1 ∧ (f env1 = .nx env2 ∨ f env1 = .ct env2) ∧ I (n + i + 1) env2) →
    ∃ env', forS t f ds env = .nx env' ∧ I (n + ds.length) env'
  | [], n, env, h, _ => ⟨env, rfl, h⟩
  | d :: ds, n, env, h, st => by
    obtain ⟨env1, env2, e1, e2, h2⟩ := st 0 d env rfl h
    obtain ⟨env', e3, h3⟩ := forS_inv I ds (n + 1) env2 h2 fun i d env hd hi => by
      have := st (i + 1) d env (by simpa using hd) (by rw [show n + (i + 1) = n + 1 + i by omega]; exact hi)
      rw [show n + (i + 1) + 1 = n + 1 + i + 1 by omega] at this
      exact this
    refine ⟨env', ?_, by rw [List.length_cons, show n + (ds.length + 1) = n + 1 + ds.length by omega]; exact h3⟩
    show (match bindT t d env with
      | .ok env1 => (f env1).turn (forS t f ds)
      | _ => .bad) = _
    rw [e1]
    show (f env1).turn (forS t f ds) = _
    rcases e2 with e2 | e2 <;> (rw [e2]; exact e3)
theorem forS_nil {t : Tgt} {f : Env → Rs} {env : Env} : forS t f [] env = .nx env := rfl
theorem forS_cons {t : Tgt} {f : Env → Rs} {d : D} {ds : List D} {env env1 : Env} (h : bindT t d env = .ok env1) : forS t f (d :: ds) env = (f env1).turn (forS t f ds) := by
  show (match bindT t d env with
      | .ok env1 => (f env1).turn (forS t f ds)
      | _ => .bad) = _
  rw [h]
/-- one turn -/
def stepS (t : Tgt) (f : Env → Rs) (d : D) (env : Env) : Rs := match bindT t d env with
  | .ok env1 => match f env1 with
    | .ct e => .nx e
    | r => r
  | _ => .bad
def ctK : Rs → Rs
  | .ct e => .nx e
  | r => r
@[simp] theorem ctK_ct (e : Env) : ctK (.ct e) = .nx e := Eq.trans rfl rfl
@[simp] theorem ctK_nx (e : Env) : ctK (.nx e) = .nx e := Eq.trans rfl rfl
@[simp] theorem ctK_bk (e : Env) : ctK (.bk e) = .bk e := Eq.trans rfl rfl
@[simp] theorem ctK_rt (e : D) : ctK (.rt e) = .rt e := Eq.trans rfl rfl
@[simp] theorem ctK_rtF (e : List D) : ctK (.rtF e) = .rtF e := Eq.trans rfl rfl
@[simp] theorem ctK_exc (c : Str) (p : Option D) (e : Env) : ctK (.exc c p e) = .exc c p e := Eq.trans rfl rfl
@[simp] theorem stepS_eq (t : Tgt) (f : Env → Rs) (d : D) (env : Env) : stepS t f d env = envK (bindT t d env) fun env1 => ctK (f env1) := by
  unfold stepS
  cases bindT t d env with
  | ok env1 =>
    show _ = ctK (f env1)
    dsimp only
    cases f env1 <;> rfl
  | _ => rfl
/-- a loop: to its end with the invariant, or left with Q -/
theorem forS_gen {t : Tgt} {f : Env → Rs} (I : Nat → Env → Prop) (Q : Rs → Prop) : ∀ (ds : List D) (n : Nat) (env : Env), I n env →
    (∀ i d env, ds[i]? = some d → I (n + i) env → (∃ env2, stepS t f d env = .nx env2 ∧ I (n + i + 1) env2) ∨ (∃ env2, stepS t f d env = .bk env2 ∧ Q (.nx env2)) ∨ ((∃ r, stepS t f d env = .rt r) ∨ (∃ r, stepS t f d env = .rtF r) ∨ ∃ c p v, stepS t f d env = .exc c p v) ∧ Q (stepS t f d env)) →
    (∃ env', forS t f ds env = .nx env' ∧ I (n + ds.length) env') ∨ Q (forS t f ds env)
  | [], n, env, h, _ => .inl ⟨env, rfl, h⟩
  | d :: ds, n, env, h, st => by
    have h1 := st 0 d env rfl h
    have e0 : forS t f (d :: ds) env = match bindT t d env with
      | .ok env1 => (f env1).turn (forS t f ds)
      | _ => .bad := rfl
    have go : ∀ env2, I (n + 0 + 1) env2 → (∃ env', forS t f ds env2 = .nx env' ∧ I (n + (d :: ds).length) env') ∨ Q (forS t f ds env2) := fun env2 h2 => by
      have := forS_gen I Q ds (n + 1) env2 h2 fun i d env hd hi => by
        have := st (i + 1) d env (by simpa using hd) (by rw [show n + (i + 1) = n + 1 + i by omega]; exact hi)
        rw [show n + (i + 1) + 1 = n + 1 + i + 1 by omega] at this
        exact this
      rw [show n + (d :: ds).length = n + 1 + ds.length by rw [List.length_cons]; omega]
      exact this
    rw [e0]
    unfold stepS at h1
    cases eb : bindT t d env with
    | ok env1 =>
      rw [eb] at h1
      dsimp only at h1 ⊢
      cases ef : f env1 with
      | nx e =>
        rw [ef] at h1
        rcases h1 with ⟨e2, q, h2⟩ | ⟨e2, q, _⟩ | ⟨⟨r, q⟩ | ⟨r, q⟩ | ⟨_, _, _, q⟩, _⟩
        · cases q; exact go _ h2
        all_goals cases q
      | ct e =>
        rw [ef] at h1
        rcases h1 with ⟨e2, q, h2⟩ | ⟨e2, q, _⟩ | ⟨⟨r, q⟩ | ⟨r, q⟩ | ⟨_, _, _, q⟩, _⟩
        · cases q; exact go _ h2
        all_goals cases q
      | bk e =>
        rw [ef] at h1
        rcases h1 with ⟨e2, q, h2⟩ | ⟨e2, q, h2⟩ | ⟨⟨r, q⟩ | ⟨r, q⟩ | ⟨_, _, _, q⟩, _⟩
        · cases q
        · cases q; exact .inr h2
        all_goals cases q
      | rt d =>
        rw [ef] at h1
        rcases h1 with ⟨e2, q, h2⟩ | ⟨e2, q, h2⟩ | ⟨_, h2⟩
        · cases q
        · cases q
        · exact .inr h2
      | rtF d =>
        rw [ef] at h1
        rcases h1 with ⟨e2, q, h2⟩ | ⟨e2, q, h2⟩ | ⟨_, h2⟩
        · cases q
        · cases q
        · exact .inr h2
      | exc c p v =>
        rw [ef] at h1
        rcases h1 with ⟨e2, q, h2⟩ | ⟨e2, q, h2⟩ | ⟨_, h2⟩
        · cases q
        · cases q
        · exact .inr h2
      | bad =>
        rw [ef] at h1
        rcases h1 with ⟨e2, q, h2⟩ | ⟨e2, q, h2⟩ | ⟨⟨r, q⟩ | ⟨r, q⟩ | ⟨_, _, _, q⟩, _⟩
        all_goals cases q
    | exc c p =>
      rw [eb] at h1
      rcases h1 with ⟨e2, q, h2⟩ | ⟨e2, q, h2⟩ | ⟨⟨r, q⟩ | ⟨r, q⟩ | ⟨_, _, _, q⟩, _⟩
      all_goals cases q
    | bad =>
      rw [eb] at h1
      rcases h1 with ⟨e2, q, h2⟩ | ⟨e2, q, h2⟩ | ⟨⟨r, q⟩ | ⟨r, q⟩ | ⟨_, _, _, q⟩, _⟩
      all_goals cases q
/-- the same, of a loop named by an equation -/
theorem forS_of {t : Tgt} {f : Env → Rs} {ds : List D} {env : Env} {R : Rs} (hF : forS t f ds env = R) (I : Nat → Env → Prop) (h0 : I 0 env) (st : ∀ i d env, ds[i]? = some d → I i env → ∃ env2, stepS t f d env = .nx env2 ∧ I (i + 1) env2) : ∃ env', R = .nx env' ∧ I ds.length env' := by
  subst hF
  rcases forS_gen (t := t) (f := f) I (fun _ => False) ds 0 env h0 (fun i d env hd hi => by rw [Nat.zero_add] at hi ⊢; exact .inl (st i d env hd hi)) with ⟨env', e, h⟩ | h
  · rw [Nat.zero_add] at h; exact ⟨env', e, h⟩
  · exact h.elim
theorem forS_ofQ {t : Tgt} {f : Env → Rs} {ds : List D} {env : Env} {R : Rs} (hF : forS t f ds env = R) (I : Nat → Env → Prop) (Q : Rs → Prop) (h0 : I 0 env)
    (st : ∀ i d env, ds[i]? = some d → I i env → (∃ env2, stepS t f d env = .nx env2 ∧ I (i + 1) env2) ∨ (∃ env2, stepS t f d env = .bk env2 ∧ Q (.nx env2)) ∨ ((∃ r, stepS t f d env = .rt r) ∨ (∃ r, stepS t f d env = .rtF r) ∨ ∃ c p v, stepS t f d env = .exc c p v) ∧ Q (stepS t f d env)) :
    (∃ env', R = .nx env' ∧ I ds.length env') ∨ Q R := by
  subst hF
  have := forS_gen (t := t) (f := f) I Q ds 0 env h0 (fun i d env hd hi => by rw [Nat.zero_add] at hi ⊢; exact st i d env hd hi)
  rw [Nat.zero_add] at this
  exact this
theorem range_get {lo : Int} {n i : Nat} {d : D} (h : (rangeL lo n)[i]? = some d) : i < n ∧ d = .int (lo + i) := by
  unfold rangeL at h
  rw [List.getElem?_map] at h
  by_cases hi : i < n
  · rw [List.getElem?_range hi] at h
    cases h
    exact ⟨hi, rfl⟩
  · rw [List.getElem?_eq_none (by simpa using hi)] at h
    cases h
@[simp] theorem range_len {lo : Int} {n : Nat} : (rangeL lo n).length = n := by unfold rangeL; simp
theorem size_big : (1000 : Nat) ≤ sizeLine := by decide
@[simp] theorem le_size {n : Nat} (h : n ≤ 1000) : n ≤ sizeLine := Nat.le_trans h size_big
theorem lt_size {n : Nat} (h : n < 1000) : n < sizeLine := Nat.lt_of_lt_of_le h size_big
/-! items -/
theorem atI_of {α : Type} {ds : List α} {i : Int} {n : Nat} {d : α} (e : i = n) (h : ds[n]? = some d) : L2.atI ds i = some d := by
  subst e
  exact L2.atI_nat h
theorem atI_lit {α : Type} {ds : List α} {n : Nat} {d : α} (h : ds[n]? = some d) : L2.atI ds (n : Int) = some d := L2.atI_nat h
@[simp] theorem atI_0 {α : Type} (d : α) (ds : List α) : L2.atI (d :: ds) 0 = some d := L2.atI_nat (xs := d :: ds) (j := 0) rfl
@[simp] theorem atI_1 {α : Type} (a d : α) (ds : List α) : L2.atI (a :: d :: ds) 1 = some d := L2.atI_nat (xs := a :: d :: ds) (j := 1) rfl
@[simp] theorem atI_2 {α : Type} (a b d : α) (ds : List α) : L2.atI (a :: b :: d :: ds) 2 = some d := L2.atI_nat (xs := a :: b :: d :: ds) (j := 2) rfl
@[simp] theorem atI_3 {α : Type} (a b c d : α) (ds : List α) : L2.atI (a :: b :: c :: d :: ds) 3 = some d := L2.atI_nat (xs := a :: b :: c :: d :: ds) (j := 3) rfl
theorem atI_map {α β : Type} {g : α → β} {ds : List α} {i : Int} {d : α} (h : L2.atI ds i = some d) : L2.atI (ds.map g) i = some (g d) := by
  unfold L2.atI at h ⊢
  rw [List.length_map]
  cases e : L2.ixN ds.length i with
  | none => rw [e] at h; cases h
  | some j =>
    rw [e] at h
    have h' : ds[j]? = some d := h
    show (ds.map g)[j]? = _
    rw [List.getElem?_map, h']
    rfl
/-! ### comprehensions -/
theorem lcL_spec {t : Tgt} {tt : Env → Out Bool} {te : Env → Out D} {env : Env} (p : D → Option D) : ∀ ds : List D, (∀ d ∈ ds, ∃ env1, bindT t d env = .ok env1 ∧ match p d with
    | some y => tt env1 = .ok true ∧ te env1 = .ok y
    | none => tt env1 = .ok false) → lcL t tt te env ds = .ok (ds.filterMap p)
  | [], _ => rfl
  | d :: ds, h => by
    obtain ⟨env1, e1, h1⟩ := h d List.mem_cons_self
    have ih := lcL_spec p ds fun d hd => h d (List.mem_cons_of_mem _ hd)
    unfold lcL
    rw [e1]
    simp only [qb_ok_eq]
    cases e : p d with
    | some y =>
      rw [e] at h1
      rw [h1.1]
      simp only [qb_ok_eq, if_true]
      rw [h1.2, ih]
      simp only [qb_ok_eq]
      rw [List.filterMap_cons_some e]
    | none =>
      rw [e] at h1
      rw [h1]
      simp only [qb_ok_eq]
      rw [if_neg Bool.false_ne_true, ih, List.filterMap_cons_none e]
theorem fLc_spec {it : Env → Out (List D)} {t : Tgt} {vs : List Nat} {tt : Env → Out Bool} {te : Env → Out D} {env : Env} {ds : List D} (p : D → Option D) (hi : it env = .ok ds) (hz : ds.length ≤ sizeLine)
    (h : ∀ d ∈ ds, ∃ env1, bindT t d (wipeE env vs) = .ok env1 ∧ match p d with
      | some y => tt env1 = .ok true ∧ te env1 = .ok y
      | none => tt env1 = .ok false) : fLc it t vs tt te env = .ok (ds.filterMap p) := by
  unfold fLc
  rw [hi]
  simp only [Out.bind_ok]
  rw [lcL_spec p ds h]
  simp only [qb_ok_eq]
  rw [if_pos (Nat.le_trans (List.length_filterMap_le _ _) hz)]
@[simp] theorem wipeE_nil (env : Env) : wipeE env [] = env := Eq.trans rfl rfl
@[simp] theorem wipeE_cons (env : Env) (v : Nat) (vs : List Nat) : wipeE env (v :: vs) = (wipeE env vs).set v .un := Eq.trans rfl rfl
theorem mem_range {lo : Int} {n : Nat} {d : D} (h : d ∈ rangeL lo n) : ∃ i : Nat, i < n ∧ d = .int (lo + i) := by
  unfold rangeL at h
  obtain ⟨i, hi, e⟩ := List.mem_map.mp h
  exact ⟨i, List.mem_range.mp hi, e.symm⟩

theorem filterMap_pick (q : Nat → Bool) (p : D → Option D) (lo : Int) : ∀ l : List Nat, (∀ j ∈ l, p (.int (lo + (j : Int))) = if q j then some (.int (lo + (j : Int))) else none) →
    (l.map fun (j : Nat) => PyData.int (lo + (j : Int))).filterMap p = ((l.filter q).map fun (j : Nat) => lo + (j : Int)).map .int
  | [], _ => rfl
  | j :: l, h => by
    have ih := filterMap_pick q p lo l fun k hk => h k (List.mem_cons_of_mem _ hk)
    have h0 := h j List.mem_cons_self
    rw [List.map_cons]
    cases hq : q j with
    | true =>
      rw [hq] at h0
      rw [List.filterMap_cons_some (by rw [h0]; rfl), ih, List.filter_cons_of_pos hq]
      rfl
    | false =>
      rw [hq] at h0
      rw [List.filterMap_cons_none (by rw [h0]; rfl), ih, List.filter_cons_of_neg (by rw [hq]; exact Bool.false_ne_true)]
theorem range_pick {lo : Int} {n : Nat} (q : Nat → Bool) (p : D → Option D) (h : ∀ j < n, p (.int (lo + (j : Int))) = if q j then some (.int (lo + (j : Int))) else none) : (rangeL lo n).filterMap p = (((List.range n).filter q).map fun (j : Nat) => lo + (j : Int)).map .int :=
  filterMap_pick q p lo _ fun j hj => h j (List.mem_range.mp hj)
/-! ### data that may be compared -/
theorem shB_iff {d : D} : shB d = true ↔ d.canLay0 = true ∧ d.depth ≤ 64 := by
  show (d.canLay0 && decide (d.depth ≤ 64)) = true ↔ _
  rw [Bool.and_eq_true, decide_eq_true_iff]
@[simp] theorem shB_int (i : Int) : shB (.int i) = true := Eq.trans rfl rfl
@[simp] theorem shB_none : shB .none = true := Eq.trans rfl rfl
@[simp] theorem shB_bool (b : Bool) : shB (.bool b) = true := Eq.trans rfl rfl
theorem lay_ints : ∀ ns : List Int, PyData.canLayAll0 (ns.map .int) = true
  | [] => rfl
  | n :: r => by
    show (PyData.canLay0 (.int n) && PyData.canLayAll0 (r.map .int)) = true
    rw [lay_ints r]; rfl
theorem dep_ints : ∀ ns : List Int, PyData.depthAll (ns.map .int) = 0
  | [] => rfl
  | n :: r => by
    show max (PyData.depth (.int n)) (PyData.depthAll (r.map .int)) = 0
    rw [dep_ints r]; rfl
@[simp] theorem shB_list_ints (ns : List Int) : shB (.list (ns.map .int)) = true := shB_iff.mpr ⟨lay_ints ns, by show PyData.depthAll _ + 1 ≤ 64; rw [dep_ints]; omega⟩
@[simp] theorem shB_tuple_ints (ns : List Int) : shB (.tuple (ns.map .int)) = true := shB_iff.mpr ⟨lay_ints ns, by show PyData.depthAll _ + 1 ≤ 64; rw [dep_ints]; omega⟩
@[simp] theorem shB_list_nil : shB (.list []) = true := Eq.trans rfl rfl
@[simp] theorem shB_tuple_nil : shB (.tuple []) = true := Eq.trans rfl rfl
theorem eqv_ints : ∀ ns ms : List Int, PyData.eqvAll (ns.map .int) (ms.map .int) = decide (ns = ms)
  | [], [] => rfl
  | [], _ :: _ => rfl
  | _ :: _, [] => rfl
  | n :: r, m :: q => by
    show (PyData.eqv (.int n) (.int m) && PyData.eqvAll (r.map .int) (q.map .int)) = _
    rw [eqv_ints r q]
    show ((n == m) && _) = _
    by_cases h : n = m <;> simp [h]
theorem cm_eq_list (ns ms : List Int) : cmD .eq (.list (ns.map .int)) (.list (ms.map .int)) = .ok (decide (ns = ms)) := by
  rw [cm_eq_of (shB_list_ints _) (shB_list_ints _), ← eqv_ints]; rfl
theorem cm_ne_list (ns ms : List Int) : cmD .ne (.list (ns.map .int)) (.list (ms.map .int)) = .ok (!decide (ns = ms)) := by
  rw [cm_ne_of (shB_list_ints _) (shB_list_ints _), ← eqv_ints]; rfl
theorem cm_eq_tuple (ns ms : List Int) : cmD .eq (.tuple (ns.map .int)) (.tuple (ms.map .int)) = .ok (decide (ns = ms)) := by
  rw [cm_eq_of (shB_tuple_ints _) (shB_tuple_ints _), ← eqv_ints]; rfl
theorem cm_ne_nil (ns : List Int) : cmD .ne (.list (ns.map .int)) (.list []) = .ok (!ns.isEmpty) := by
  have := cm_ne_list ns []
  rw [List.map_nil] at this
  rw [this]
  cases ns <;> rfl
theorem cm_notIn_tuple {a : D} {b : List D} (h1 : shB a = true) (h2 : shB (.tuple b) = true) : cmD .notIn a (.tuple b) = .ok (!(b.any fun z => PyData.eqv z a)) := by
  have e : cmD .notIn a (.tuple b) = if shB a = true ∧ shB (.tuple b) = true then .ok (false == b.any fun z => PyData.eqv z a) else .bad := rfl
  rw [e, if_pos ⟨h1, h2⟩]
  cases (b.any fun z => PyData.eqv z a) <;> rfl
theorem cm_in_tuple {a : D} {b : List D} (h1 : shB a = true) (h2 : shB (.tuple b) = true) : cmD .inn a (.tuple b) = .ok ((b.any fun z => PyData.eqv z a)) := by
  have e : cmD .inn a (.tuple b) = if shB a = true ∧ shB (.tuple b) = true then .ok (true == b.any fun z => PyData.eqv z a) else .bad := rfl
  rw [e, if_pos ⟨h1, h2⟩]
  cases (b.any fun z => PyData.eqv z a) <;> rfl
theorem cm_notIn_list {a : D} {b : List D} (h1 : shB a = true) (h2 : shB (.list b) = true) : cmD .notIn a (.list b) = .ok (!(b.any fun z => PyData.eqv z a)) := by
  have e : cmD .notIn a (.list b) = if shB a = true ∧ shB (.list b) = true then .ok (false == b.any fun z => PyData.eqv z a) else .bad := rfl
  rw [e, if_pos ⟨h1, h2⟩]
  cases (b.any fun z => PyData.eqv z a) <;> rfl
theorem cm_in_list {a : D} {b : List D} (h1 : shB a = true) (h2 : shB (.list b) = true) : cmD .inn a (.list b) = .ok ((b.any fun z => PyData.eqv z a)) := by
  have e : cmD .inn a (.list b) = if shB a = true ∧ shB (.list b) = true then .ok (true == b.any fun z => PyData.eqv z a) else .bad := rfl
  rw [e, if_pos ⟨h1, h2⟩]
  cases (b.any fun z => PyData.eqv z a) <;> rfl
end VI

/-! VM 8: loops that append; comprehensions of two clauses; sorted, list(range). -/
namespace Sem
open PySem VI
theorem forS_app {α : Type} {t : Tgt} {f : VI.Env → Rs} {J : Type} (enc : α → VI.D) (mk : List VI.D → J → VI.Env) (g : α → List VI.D) (M : Nat) : ∀ (xs : List α) (acc : List VI.D) (j : J), acc.length + (xs.flatMap g).length ≤ M →
    (∀ x ∈ xs, ∀ acc j, acc.length + (g x).length ≤ M → ∃ j', stepS t f (enc x) (mk acc j) = .nx (mk (acc ++ g x) j')) → ∃ j', forS t f (xs.map enc) (mk acc j) = .nx (mk (acc ++ xs.flatMap g) j')
  | [], acc, j, _, _ => ⟨j, by rw [List.flatMap_nil, List.append_nil]; rfl⟩
  | x :: xs, acc, j, hM, st => by
    rw [List.flatMap_cons, List.length_append] at hM
    obtain ⟨j1, e1⟩ := st x List.mem_cons_self acc j (by omega)
    obtain ⟨j2, e2⟩ := forS_app enc mk g M xs (acc ++ g x) j1 (by rw [List.length_append]; omega) fun d hd => st d (List.mem_cons_of_mem _ hd)
    refine ⟨j2, ?_⟩
    rw [List.flatMap_cons, ← List.append_assoc, ← e2, List.map_cons]
    unfold stepS at e1
    cases hb : bindT t (enc x) (mk acc j) with
    | ok env1 =>
      rw [hb] at e1
      dsimp only at e1
      rw [forS_cons hb]
      cases hf : f env1 with
      | nx e => rw [hf] at e1; cases e1; rfl
      | ct e => rw [hf] at e1; cases e1; rfl
      | bk e => rw [hf] at e1; cases e1
      | rt e => rw [hf] at e1; cases e1
      | rtF e => rw [hf] at e1; cases e1
      | exc c p v => rw [hf] at e1; cases e1
      | bad => rw [hf] at e1; cases e1
    | exc c p => rw [hb] at e1; cases e1
    | bad => rw [hb] at e1; cases e1
theorem rangeL_nat (a k : Nat) : rangeL (a : Int) k = (List.range' a k).map fun (i : Nat) => PyData.int (i : Int) := by
  unfold rangeL
  rw [List.range'_eq_map_range, List.map_map]
  refine List.map_congr_left fun i _ => ?_
  show PyData.int ((a : Int) + (i : Int)) = PyData.int ((a + i : Nat) : Int)
  rw [Int.natCast_add]
/-- a slice between two places -/
theorem cut_mid {α : Type} (enc : α → VI.D) (l : List α) {a c : Nat} (h : a ≤ c) (h2 : c ≤ l.length) : cutD (l.map enc) (some (a : Int)) (some (c : Int)) = ((l.drop a).take (c - a)).map enc := by
  unfold cutD
  rw [List.length_map]
  have e1 : HT.sIx l.length 0 (some (a : Int)) = a := by rw [HT.sIx_nat]; omega
  have e2 : HT.sIx l.length l.length (some (c : Int)) = c := by rw [HT.sIx_nat]; omega
  rw [e1, e2, ← List.map_drop, ← List.map_take]
theorem cut_to {α : Type} (enc : α → VI.D) (l : List α) {c : Nat} (h2 : c ≤ l.length) : cutD (l.map enc) none (some (c : Int)) = (l.take c).map enc := by
  unfold cutD
  rw [List.length_map]
  have e1 : HT.sIx l.length 0 none = 0 := rfl
  have e2 : HT.sIx l.length l.length (some (c : Int)) = c := by rw [HT.sIx_nat]; omega
  rw [e1, e2, List.drop_zero, Nat.sub_zero, ← List.map_take]
theorem cut_from {α : Type} (enc : α → VI.D) (l : List α) {a : Nat} (h2 : a ≤ l.length) : cutD (l.map enc) (some (a : Int)) none = (l.drop a).map enc := by
  unfold cutD
  rw [List.length_map]
  have e1 : HT.sIx l.length 0 (some (a : Int)) = a := by rw [HT.sIx_nat]; omega
  have e2 : HT.sIx l.length l.length none = l.length := rfl
  rw [e1, e2, ← List.map_drop, List.take_of_length_le (by rw [List.length_map, List.length_drop]; exact Nat.le_refl _)]
theorem lcL2_spec {t t1 : Tgt} {tt tt1 : VI.Env → Out Bool} {it1 : VI.Env → Out (List VI.D)} {vs1 : List Nat} {te : VI.Env → Out VI.D} {env : VI.Env} (g : VI.D → List VI.D) : ∀ ds : List VI.D,
    (∀ d ∈ ds, ∃ env1 es, bindT t d env = .ok env1 ∧ tt env1 = .ok true ∧ it1 env1 = .ok es ∧ lcL t1 tt1 te (wipeE env1 vs1) es = .ok (g d)) → lcL2 t tt it1 t1 vs1 tt1 te env ds = .ok (ds.flatMap g)
  | [], _ => rfl
  | d :: ds, h => by
    obtain ⟨env1, es, e1, e2, e3, e4⟩ := h d List.mem_cons_self
    have ih := lcL2_spec g ds fun d hd => h d (List.mem_cons_of_mem _ hd)
    unfold lcL2
    rw [e1]
    simp only [qb_ok_eq]
    rw [e2]
    simp only [qb_ok_eq, if_true]
    rw [e3]
    simp only [qb_ok_eq]
    rw [e4, ih]
    simp only [qb_ok_eq]
    rw [List.flatMap_cons]
theorem fLc2_spec {it it1 : VI.Env → Out (List VI.D)} {t t1 : Tgt} {vs vs1 : List Nat} {tt tt1 : VI.Env → Out Bool} {te : VI.Env → Out VI.D} {env : VI.Env} {ds : List VI.D} (g : VI.D → List VI.D) (hi : it env = .ok ds) (hz : (ds.flatMap g).length ≤ sizeLine)
    (h : ∀ d ∈ ds, ∃ env1 es, bindT t d (wipeE env vs) = .ok env1 ∧ tt env1 = .ok true ∧ it1 env1 = .ok es ∧ lcL t1 tt1 te (wipeE env1 vs1) es = .ok (g d)) : fLc2 it t vs tt it1 t1 vs1 tt1 te env = .ok (ds.flatMap g) := by
  unfold fLc2
  rw [hi]
  simp only [Out.bind_ok]
  rw [lcL2_spec g ds h]
  simp only [qb_ok_eq]
  rw [if_pos hz]
theorem lrg1_of {j : Int} (h0 : 0 ≤ j) (h1 : j ≤ 1000) : lrg1 (.int j) = .ok (rangeL 0 j.toNat) := by
  show rngA 0 j = _
  unfold rngA
  rw [if_pos ⟨by decide, by decide, by omega, by omega, by omega⟩, Int.sub_zero]
@[simp] theorem sortedF_list (ds : List VI.D) : sortedF [.list ds] = sortedO ds := Eq.trans rfl rfl
@[simp] theorem sortedF_tuple (ds : List VI.D) : sortedF [.tuple ds] = sortedO ds := Eq.trans rfl rfl
theorem sortedO_of {ds : List VI.D} (h : sortOK ds = true) : sortedO ds = .ok (sortD ds) := by unfold sortedO; rw [if_pos h]
end Sem

namespace Sem
open PySem VI
abbrev D := PyData
def fuel : Nat := 1048576
def known : List Str := ["InvalidBuilding", "InvalidMove", "InvalidWalk", "TooManyPassages"]
def hcls : List Str := ["DoorError", "InvalidMove", "InvalidWalk", "TooManyPassages"]
def _law_cell_b : VI.Env → Rs := (sSeq (sIf (bCm .lt (ePk 1) (eCall lenG (aCons (ePk 0) aNil))) (sRet (e2 idxD (ePk 0) (ePk 1))) sNil)
  (sRet (eC (.int 0))))
def _law_cell : List D → Out D := fun ds => retD (_law_cell_b (env0 0 ds))
def _law_row_b : VI.Env → Rs := (sSeq (sSet 2 (eFn 2 _law_cell (aCons (eVar 0) (aCons (eVar 1) aNil))))
  (sSeq (sOwn 3 (fLst aNil))
  (sSeq (sFor (iRg rng1 (aCons (eC (.int 60)) aNil)) (.nm 4) (sIf (bCm .lt (eFn 2 _law_cell (aCons (eVar 0) (aCons (eVar 1) aNil))) (e2 powD (eC (.int 10)) (eC (.int 18)))) (sSeq (sSet 2 (e2 modD (e2 addD (e2 addD (e2 addD (e2 mulD (ePk 2) (eC (.int 48271))) (e2 mulD (eC (.int 131)) (ePk 4))) (eC (.int 7))) (eFn 2 _law_cell (aCons (eVar 0) (aCons (e2 modD (e2 addD (e2 addD (ePk 1) (eC (.int 1))) (ePk 4)) (eC (.int 20))) aNil)))) (eC (.int 2147483647))))
  (sApp 3 (e2 modD (e2 divD (ePk 2) (eC (.int 11))) (eC (.int 1000))))) (sSeq (sApp 3 (e2 modD (ePk 2) (eC (.int 1000))))
  (sSet 2 (e2 divD (ePk 2) (eC (.int 1000)))))))
  (sRetO 3))))
def _law_row : List D → Out (List D) := fun ds => retF (_law_row_b (env0 3 ds))
def _law_building_b : VI.Env → Rs := (sSeq (sOwn 4 (fFn 2 _law_row (aCons (eVar 0) (aCons (eVar 1) aNil))))
  (sFrz 4 (sSeq (sSet 5 (e2 addD (eC (.int 1)) (e2 modD (e2 idxD (ePk 4) (eC (.int 0))) (ePk 2))))
  (sSeq (sOwn 6 (fLst aNil))
  (sSeq (sIf (bCm .gt (ePk 5) (eC (.int 1))) (sFor (iRg rng1 (aCons (e2 modD (e2 idxD (ePk 4) (eC (.int 1))) (e2 addD (ePk 3) (eC (.int 1)))) aNil)) (.nm 7) (sSeq (sSet 8 (e2 modD (e2 idxD (ePk 4) (e2 addD (eC (.int 2)) (e2 mulD (eC (.int 3)) (ePk 7)))) (ePk 5)))
  (sSeq (sSet 9 (e2 modD (e2 addD (e2 addD (ePk 8) (eC (.int 1))) (e2 modD (e2 idxD (ePk 4) (e2 addD (eC (.int 3)) (e2 mulD (eC (.int 3)) (ePk 7)))) (e2 subD (ePk 5) (eC (.int 1))))) (ePk 5)))
  (sIf (bTru (e2 idxD (eL (fLst (aCons (eC (.bool true)) (aCons (eC (.bool false)) (aCons (eB (bCm .eq (e2 modD (e2 idxD (ePk 4) (e2 addD (eC (.int 4)) (e2 mulD (eC (.int 3)) (ePk 7)))) (eC (.int 2))) (eC (.int 0)))) aNil))))) (e2 modD (e2 idxD (ePk 4) (eC (.int 40))) (eC (.int 3))))) (sApp 6 (eTup (aCons (eCall minG (aCons (ePk 8) (aCons (ePk 9) aNil))) (aCons (eCall maxG (aCons (ePk 8) (aCons (ePk 9) aNil))) (aCons (eC (.str "two-way")) aNil))))) (sApp 6 (eTup (aCons (eVar 8) (aCons (eVar 9) (aCons (eC (.str "one-way")) aNil))))))))) sNil)
  (sRet (eTup (aCons (eVar 5) (aCons (eCall tupleG (aCons (ePk 6) aNil)) aNil)))))))))
def _law_building : List D → Out D := fun ds => retD (_law_building_b (env0 6 ds))
def _law_side_b : VI.Env → Rs := (sSeq (sTgt (.tp (.cons (.nm 3) (.cons (.nm 4) (.cons (.nm 5) .nil)))) (e2 idxD (e2 idxD (ePk 0) (eC (.int 1))) (ePk 1)))
  (sSeq (sIf (bCm .eq (ePk 2) (ePk 3)) (sRet (eVar 4)) sNil)
  (sRet (eIf (bAnd (bCm .eq (ePk 2) (ePk 4)) (bCm .eq (ePk 5) (eC (.str "two-way")))) (eVar 3) (eC .none)))))
def _law_side : List D → Out D := fun ds => retD (_law_side_b (env0 3 ds))
def _law_walked_b : VI.Env → Rs := (sSeq (sOwn 4 (fFn 2 _law_row (aCons (eVar 0) (aCons (eVar 1) aNil))))
  (sFrz 4 (sSeq (sSet 5 (e2 modD (e2 idxD (ePk 4) (eC (.int 0))) (e2 idxD (ePk 2) (eC (.int 0)))))
  (sSeq (sSet 6 (eVar 5))
  (sSeq (sOwn 7 (fLst aNil))
  (sSeq (sFor (iRg rng1 (aCons (e2 modD (e2 idxD (ePk 4) (eC (.int 1))) (e2 addD (ePk 3) (eC (.int 1)))) aNil)) (.nm 8) (sSeq (sOwn 9 (fLc (iRg rng1 (aCons (eCall lenG (aCons (e2 idxD (ePk 2) (eC (.int 1))) aNil)) aNil)) (.nm 10) [10] (bCm .notN (eFn 3 _law_side (aCons (eVar 2) (aCons (eVar 10) (aCons (eVar 6) aNil)))) (eC .none)) (eVar 10)))
  (sFrz 9 (sIf (bCm .ne (ePk 9) (eL (fLst aNil))) (sSeq (sSet 10 (e2 idxD (ePk 9) (e2 modD (e2 idxD (ePk 4) (e2 addD (eC (.int 2)) (ePk 8))) (eCall lenG (aCons (ePk 9) aNil)))))
  (sSeq (sApp 7 (eVar 10))
  (sSet 6 (eFn 3 _law_side (aCons (eVar 2) (aCons (eVar 10) (aCons (eVar 6) aNil))))))) sNil))))
  (sRet (eTup (aCons (eVar 5) (aCons (eCall tupleG (aCons (ePk 7) aNil)) (aCons (eVar 6) aNil)))))))))))
def _law_walked : List D → Out D := fun ds => retD (_law_walked_b (env0 7 ds))
def _law_whole_b : VI.Env → Rs := (sRet (eAnd (eCall (isiG .int) (aCons (ePk 0) aNil)) (eB (bNot (bTru (eCall (isiG .bool) (aCons (ePk 0) aNil)))))))
def _law_whole : List D → Out D := fun ds => retD (_law_whole_b (env0 0 ds))
def _law_in_b : VI.Env → Rs := (sRet (eAnd (eFn 1 _law_whole (aCons (eVar 0) aNil)) (eB (bCh (ePk 1) [(.le, (ePk 0)), (.le, (ePk 2))]))))
def _law_in : List D → Out D := fun ds => retD (_law_in_b (env0 0 ds))
def _law_rooms_b : VI.Env → Rs := (sSeq (sIf (bOr (bNot (bTru (eCall (isiG .tuple) (aCons (ePk 1) aNil)))) (bOr (bCm .ne (eCall lenG (aCons (ePk 1) aNil)) (eC (.int 2))) (bNot (bTru (eFn 3 _law_in (aCons (e2 idxD (ePk 1) (eC (.int 0))) (aCons (eC (.int 0)) (aCons (e2 subD (e2 idxD (ePk 0) (eC (.int 0))) (eC (.int 1))) aNil)))))))) (sRet (eC .none)) sNil)
  (sSeq (sIf (bOr (bNot (bTru (eCall (isiG .tuple) (aCons (e2 idxD (ePk 1) (eC (.int 1))) aNil)))) (bCm .gt (eCall lenG (aCons (e2 idxD (ePk 1) (eC (.int 1))) aNil)) (eC (.int 72)))) (sRet (eC .none)) sNil)
  (sSeq (sOwn 2 (fLst (aCons (e2 idxD (ePk 1) (eC (.int 0))) aNil)))
  (sSeq (sFor (iSeq (e2 idxD (ePk 1) (eC (.int 1)))) (.nm 3) (sSeq (sIf (bNot (bTru (eFn 3 _law_in (aCons (eVar 3) (aCons (eC (.int 0)) (aCons (e2 subD (eCall lenG (aCons (e2 idxD (ePk 0) (eC (.int 1))) aNil)) (eC (.int 1))) aNil)))))) (sRet (eC .none)) sNil)
  (sSeq (sSet 4 (eFn 3 _law_side (aCons (eVar 0) (aCons (eVar 3) (aCons (e2 idxD (ePk 2) (e1 negD (eC (.int 1)))) aNil)))))
  (sSeq (sIf (bCm .isN (ePk 4) (eC .none)) (sRet (eC .none)) sNil)
  (sApp 2 (eVar 4))))))
  (sFrz 2 (sRet (eVar 2)))))))
def _law_rooms : List D → Out D := fun ds => retD (_law_rooms_b (env0 3 ds))
def _law_moves_b : VI.Env → Rs := (sSeq (sPar 2 3 (aCons (eFn 2 _law_rooms (aCons (eVar 0) (aCons (eVar 1) aNil))) (aCons (e2 idxD (ePk 1) (eC (.int 1))) aNil)))
  (sSeq (sOwn 4 (fLst aNil))
  (sSeq (sFor (iRg rng1 (aCons (eCall lenG (aCons (ePk 2) aNil)) aNil)) (.nm 5) (sFor (iRg rng2 (aCons (e2 addD (ePk 5) (eC (.int 1))) (aCons (eCall lenG (aCons (ePk 2) aNil)) aNil))) (.nm 6) (sSeq (sSet 7 (eSl (ePk 3) (oSome (ePk 5)) (oSome (ePk 6))))
  (sSeq (sIf (bAnd (bCm .eq (e2 idxD (ePk 2) (ePk 5)) (e2 idxD (ePk 2) (ePk 6))) (bCm .eq (eL (fLc (iSeq (ePk 7)) (.nm 11) [11] (bCm .eq (e2 idxD (e2 idxD (e2 idxD (ePk 0) (eC (.int 1))) (ePk 11)) (eC (.int 2))) (eC (.str "one-way"))) (eVar 11))) (eL (fLst aNil)))) (sApp 4 (eTup (aCons (eTup (aCons (eC (.str "reverse")) (aCons (eVar 5) (aCons (eVar 6) aNil)))) (aCons (e2 addD (e2 addD (eSl (ePk 3) oNone (oSome (ePk 5))) (e1 revO (ePk 7))) (eSl (ePk 3) (oSome (ePk 6)) oNone)) aNil)))) sNil)
  (sFor (iRg rng2 (aCons (ePk 6) (aCons (eCall lenG (aCons (ePk 2) aNil)) aNil))) (.nm 8) (sFor (iRg rng2 (aCons (e2 addD (ePk 8) (eC (.int 1))) (aCons (eCall lenG (aCons (ePk 2) aNil)) aNil))) (.nm 9) (sIf (bAnd (bCm .eq (e2 idxD (ePk 2) (ePk 5)) (e2 idxD (ePk 2) (ePk 8))) (bCm .eq (e2 idxD (ePk 2) (ePk 6)) (e2 idxD (ePk 2) (ePk 9)))) (sSeq (sSet 10 (e2 addD (e2 addD (eSl (ePk 3) (oSome (ePk 8)) (oSome (ePk 9))) (eSl (ePk 3) (oSome (ePk 6)) (oSome (ePk 8)))) (ePk 7)))
  (sApp 4 (eTup (aCons (eTup (aCons (eC (.str "exchange")) (aCons (eVar 5) (aCons (eVar 6) (aCons (eVar 8) (aCons (eVar 9) aNil)))))) (aCons (e2 addD (e2 addD (eSl (ePk 3) oNone (oSome (ePk 5))) (ePk 10)) (eSl (ePk 3) (oSome (ePk 9)) oNone)) aNil))))) sNil)))))))
  (sRetF (fCall sortedF (aCons (ePk 4) aNil))))))
def _law_moves : List D → Out (List D) := fun ds => retF (_law_moves_b (env0 10 ds))
def in_range_b : VI.Env → Rs := (sRet (eAnd (eCall (isiG .int) (aCons (ePk 0) aNil)) (eAnd (eB (bNot (bTru (eCall (isiG .bool) (aCons (ePk 0) aNil))))) (eB (bCh (ePk 1) [(.le, (ePk 0)), (.le, (ePk 2))])))))
def in_range : List D → Out D := fun ds => retD (in_range_b (env0 0 ds))
def is_door_b : VI.Env → Rs := (sSeq (sIf (bOr (bNot (bTru (eCall (isiG .tuple) (aCons (ePk 1) aNil)))) (bOr (bCm .ne (eCall lenG (aCons (ePk 1) aNil)) (eC (.int 3))) (bCm .notIn (e2 idxD (ePk 1) (eC (.int 2))) (eTup (aCons (eC (.str "one-way")) (aCons (eC (.str "two-way")) aNil)))))) (sRet (eC (.bool false))) sNil)
  (sSeq (sIf (bOr (bNot (bTru (eFn 3 in_range (aCons (e2 idxD (ePk 1) (eC (.int 0))) (aCons (eC (.int 0)) (aCons (e2 subD (ePk 0) (eC (.int 1))) aNil)))))) (bNot (bTru (eFn 3 in_range (aCons (e2 idxD (ePk 1) (eC (.int 1))) (aCons (eC (.int 0)) (aCons (e2 subD (ePk 0) (eC (.int 1))) aNil))))))) (sRet (eC (.bool false))) sNil)
  (sRet (eIf (bCm .eq (e2 idxD (ePk 1) (eC (.int 2))) (eC (.str "one-way"))) (eB (bCm .ne (e2 idxD (ePk 1) (eC (.int 0))) (e2 idxD (ePk 1) (eC (.int 1))))) (eB (bCm .lt (e2 idxD (ePk 1) (eC (.int 0))) (e2 idxD (ePk 1) (eC (.int 1)))))))))
def is_door : List D → Out D := fun ds => retD (is_door_b (env0 0 ds))
def is_building_b : VI.Env → Rs := (sSeq (sIf (bOr (bNot (bTru (eCall (isiG .tuple) (aCons (ePk 0) aNil)))) (bOr (bCm .ne (eCall lenG (aCons (ePk 0) aNil)) (eC (.int 2))) (bNot (bTru (eFn 3 in_range (aCons (e2 idxD (ePk 0) (eC (.int 0))) (aCons (eC (.int 1)) (aCons (eC (.int 6)) aNil)))))))) (sRet (eC (.bool false))) sNil)
  (sSeq (sIf (bOr (bNot (bTru (eCall (isiG .tuple) (aCons (e2 idxD (ePk 0) (eC (.int 1))) aNil)))) (bCm .gt (eCall lenG (aCons (e2 idxD (ePk 0) (eC (.int 1))) aNil)) (eC (.int 8)))) (sRet (eC (.bool false))) sNil)
  (sRet (eB (bNot (bTru (eL (fLc (iSeq (e2 idxD (ePk 0) (eC (.int 1)))) (.nm 1) [1] (bNot (bTru (eFn 2 is_door (aCons (e2 idxD (ePk 0) (eC (.int 0))) (aCons (eVar 1) aNil))))) (eVar 1)))))))))
def is_building : List D → Out D := fun ds => retD (is_building_b (env0 1 ds))
def check_building_b : VI.Env → Rs := (sIf (bNot (bTru (eFn 1 is_building (aCons (eVar 0) aNil)))) (sRaise "InvalidBuilding") sNil)
def check_building : List D → Out D := fun ds => retD (check_building_b (env0 0 ds))
def other_side_b : VI.Env → Rs := (sSeq (sTgt (.tp (.cons (.nm 3) (.cons (.nm 4) (.cons (.nm 5) .nil)))) (e2 idxD (e2 idxD (ePk 0) (eC (.int 1))) (ePk 1)))
  (sSeq (sIf (bCm .eq (ePk 2) (ePk 3)) (sRet (eVar 4)) sNil)
  (sRet (eIf (bAnd (bCm .eq (ePk 2) (ePk 4)) (bCm .eq (ePk 5) (eC (.str "two-way")))) (eVar 3) (eC .none)))))
def other_side : List D → Out D := fun ds => retD (other_side_b (env0 3 ds))
def trace_b : VI.Env → Rs := (sSeq (sIf (bOr (bNot (bTru (eCall (isiG .tuple) (aCons (ePk 1) aNil)))) (bOr (bCm .ne (eCall lenG (aCons (ePk 1) aNil)) (eC (.int 2))) (bNot (bTru (eFn 3 in_range (aCons (e2 idxD (ePk 1) (eC (.int 0))) (aCons (eC (.int 0)) (aCons (e2 subD (e2 idxD (ePk 0) (eC (.int 0))) (eC (.int 1))) aNil)))))))) (sRet (eC .none)) sNil)
  (sSeq (sIf (bOr (bNot (bTru (eCall (isiG .tuple) (aCons (e2 idxD (ePk 1) (eC (.int 1))) aNil)))) (bCm .gt (eCall lenG (aCons (e2 idxD (ePk 1) (eC (.int 1))) aNil)) (eC (.int 72)))) (sRet (eC .none)) sNil)
  (sSeq (sOwn 2 (fLst (aCons (e2 idxD (ePk 1) (eC (.int 0))) aNil)))
  (sSeq (sFor (iSeq (e2 idxD (ePk 1) (eC (.int 1)))) (.nm 3) (sSeq (sIf (bNot (bTru (eFn 3 in_range (aCons (eVar 3) (aCons (eC (.int 0)) (aCons (e2 subD (eCall lenG (aCons (e2 idxD (ePk 0) (eC (.int 1))) aNil)) (eC (.int 1))) aNil)))))) (sRet (eC .none)) sNil)
  (sSeq (sSet 4 (eFn 3 other_side (aCons (eVar 0) (aCons (eVar 3) (aCons (e2 idxD (ePk 2) (e1 negD (eC (.int 1)))) aNil)))))
  (sSeq (sIf (bCm .isN (ePk 4) (eC .none)) (sRet (eC .none)) sNil)
  (sApp 2 (eVar 4))))))
  (sFrz 2 (sRet (eVar 2)))))))
def trace : List D → Out D := fun ds => retD (trace_b (env0 3 ds))
def checked_rooms_b : VI.Env → Rs := (sSeq (sSet 2 (eFn 2 trace (aCons (eVar 0) (aCons (eVar 1) aNil))))
  (sSeq (sIf (bCm .isN (ePk 2) (eC .none)) (sRaise "InvalidWalk") sNil)
  (sRet (eVar 2))))
def checked_rooms : List D → Out D := fun ds => retD (checked_rooms_b (env0 1 ds))
def may_reverse_b : VI.Env → Rs := (sSeq (sIf (bOr (bNot (bCh (eC (.int 0)) [(.le, (ePk 3)), (.lt, (ePk 4)), (.lt, (eCall lenG (aCons (ePk 2) aNil)))])) (bCm .ne (e2 idxD (ePk 2) (ePk 3)) (e2 idxD (ePk 2) (ePk 4)))) (sRet (eC (.bool false))) sNil)
  (sRet (eB (bNot (bTru (eL (fLc (iSeq (eSl (e2 idxD (ePk 1) (eC (.int 1))) (oSome (ePk 3)) (oSome (ePk 4)))) (.nm 5) [5] (bCm .ne (e2 idxD (e2 idxD (e2 idxD (ePk 0) (eC (.int 1))) (ePk 5)) (eC (.int 2))) (eC (.str "two-way"))) (eVar 5))))))))
def may_reverse : List D → Out D := fun ds => retD (may_reverse_b (env0 1 ds))
def moves_of_b : VI.Env → Rs := (sSeq (sOwn 3 (f1 lrg1 (eCall lenG (aCons (ePk 2) aNil))))
  (sFrz 3 (sSeq (sOwn 4 (fLc2 (iSeq (ePk 3)) (.nm 6) [6, 7] bYes (iSeq (eVar 3)) (.nm 7) [7] (bCm .lt (ePk 6) (ePk 7)) (eTup (aCons (eVar 6) (aCons (eVar 7) aNil)))))
  (sFrz 4 (sSeq (sOwn 5 (fLst aNil))
  (sSeq (sFor (iSeq (eVar 4)) (.tp (.cons (.nm 6) (.cons (.nm 7) .nil))) (sSeq (sIf (bTru (eFn 5 may_reverse (aCons (eVar 0) (aCons (eVar 1) (aCons (eVar 2) (aCons (eVar 6) (aCons (eVar 7) aNil))))))) (sApp 5 (eTup (aCons (eC (.str "reverse")) (aCons (eVar 6) (aCons (eVar 7) aNil))))) sNil)
  (sFor (iSeq (eVar 4)) (.tp (.cons (.nm 8) (.cons (.nm 9) .nil))) (sIf (bAnd (bCm .le (ePk 7) (ePk 8)) (bAnd (bCm .eq (e2 idxD (ePk 2) (ePk 6)) (e2 idxD (ePk 2) (ePk 8))) (bCm .eq (e2 idxD (ePk 2) (ePk 7)) (e2 idxD (ePk 2) (ePk 9))))) (sApp 5 (eTup (aCons (eC (.str "exchange")) (aCons (eVar 6) (aCons (eVar 7) (aCons (eVar 8) (aCons (eVar 9) aNil))))))) sNil))))
  (sRetF (fCall sortedF (aCons (ePk 5) aNil)))))))))
def moves_of : List D → Out (List D) := fun ds => retF (moves_of_b (env0 7 ds))
def moves_b : VI.Env → Rs := (sSeq (sDrop (eFn 1 check_building (aCons (eVar 0) aNil)))
  (sSeq (sSet 2 (eFn 2 checked_rooms (aCons (eVar 0) (aCons (eVar 1) aNil))))
  (sSeq (sIf (bCm .gt (eCall lenG (aCons (ePk 2) aNil)) (e2 addD (eC (.int 10)) (eC (.int 1)))) (sRaise "TooManyPassages") sNil)
  (sRetF (fFn 3 moves_of (aCons (eVar 0) (aCons (eVar 1) (aCons (eVar 2) aNil))))))))
def moves : List D → Out (List D) := fun ds => retF (moves_b (env0 1 ds))
def after_b : VI.Env → Rs := (sSeq (sSet 2 (e2 idxD (ePk 0) (eC (.int 1))))
  (sSeq (sIf (bCm .eq (e2 idxD (ePk 1) (eC (.int 0))) (eC (.str "reverse"))) (sRet (eTup (aCons (e2 idxD (ePk 0) (eC (.int 0))) (aCons (e2 addD (e2 addD (eSl (ePk 2) oNone (oSome (e2 idxD (ePk 1) (eC (.int 1))))) (e1 revO (eSl (ePk 2) (oSome (e2 idxD (ePk 1) (eC (.int 1)))) (oSome (e2 idxD (ePk 1) (eC (.int 2))))))) (eSl (ePk 2) (oSome (e2 idxD (ePk 1) (eC (.int 2)))) oNone)) aNil)))) sNil)
  (sSeq (sTgt (.tp (.cons (.nm 3) (.cons (.nm 4) (.cons (.nm 5) (.cons (.nm 6) .nil))))) (eSl (ePk 1) (oSome (eC (.int 1))) oNone))
  (sSeq (sSet 7 (e2 addD (e2 addD (eSl (ePk 2) (oSome (ePk 5)) (oSome (ePk 6))) (eSl (ePk 2) (oSome (ePk 4)) (oSome (ePk 5)))) (eSl (ePk 2) (oSome (ePk 3)) (oSome (ePk 4)))))
  (sRet (eTup (aCons (e2 idxD (ePk 0) (eC (.int 0))) (aCons (e2 addD (e2 addD (eSl (ePk 2) oNone (oSome (ePk 3))) (ePk 7)) (eSl (ePk 2) (oSome (ePk 6)) oNone)) aNil))))))))
def after : List D → Out D := fun ds => retD (after_b (env0 6 ds))
def may_exchange_b : VI.Env → Rs := (sSeq (sTgt (.tp (.cons (.nm 2) (.cons (.nm 3) (.cons (.nm 4) (.cons (.nm 5) .nil))))) (eVar 1))
  (sSeq (sIf (bNot (bCh (eC (.int 0)) [(.le, (ePk 2)), (.lt, (ePk 3)), (.le, (ePk 4)), (.lt, (ePk 5)), (.lt, (eCall lenG (aCons (ePk 0) aNil)))])) (sRet (eC (.bool false))) sNil)
  (sRet (eAnd (eB (bCm .eq (e2 idxD (ePk 0) (ePk 2)) (e2 idxD (ePk 0) (ePk 4)))) (eB (bCm .eq (e2 idxD (ePk 0) (ePk 3)) (e2 idxD (ePk 0) (ePk 5))))))))
def may_exchange : List D → Out D := fun ds => retD (may_exchange_b (env0 4 ds))
def allowed_b : VI.Env → Rs := (sSeq (sIf (bOr (bNot (bTru (eCall (isiG .tuple) (aCons (ePk 3) aNil)))) (bTru (eL (fLc (iSeq (eSl (ePk 3) (oSome (eC (.int 1))) oNone)) (.nm 4) [4] (bNot (bTru (eFn 3 in_range (aCons (eVar 4) (aCons (eC (.int 0)) (aCons (e2 subD (eCall lenG (aCons (ePk 2) aNil)) (eC (.int 1))) aNil)))))) (eVar 4))))) (sRet (eC (.bool false))) sNil)
  (sSeq (sIf (bAnd (bCm .eq (eCall lenG (aCons (ePk 3) aNil)) (eC (.int 3))) (bCm .eq (e2 idxD (ePk 3) (eC (.int 0))) (eC (.str "reverse")))) (sRet (eFn 5 may_reverse (aCons (eVar 0) (aCons (eVar 1) (aCons (eVar 2) (aCons (e2 idxD (ePk 3) (eC (.int 1))) (aCons (e2 idxD (ePk 3) (eC (.int 2))) aNil))))))) sNil)
  (sRet (eAnd (eB (bCm .eq (eCall lenG (aCons (ePk 3) aNil)) (eC (.int 5)))) (eAnd (eB (bCm .eq (e2 idxD (ePk 3) (eC (.int 0))) (eC (.str "exchange")))) (eFn 2 may_exchange (aCons (eVar 2) (aCons (eSl (ePk 3) (oSome (eC (.int 1))) oNone) aNil))))))))
def allowed : List D → Out D := fun ds => retD (allowed_b (env0 1 ds))
def moved_b : VI.Env → Rs := (sSeq (sDrop (eFn 1 check_building (aCons (eVar 0) aNil)))
  (sSeq (sSet 3 (eFn 2 checked_rooms (aCons (eVar 0) (aCons (eVar 1) aNil))))
  (sSeq (sIf (bNot (bTru (eFn 4 allowed (aCons (eVar 0) (aCons (eVar 1) (aCons (eVar 3) (aCons (eVar 2) aNil))))))) (sRaise "InvalidMove") sNil)
  (sRet (eFn 2 after (aCons (eVar 1) (aCons (eVar 2) aNil)))))))
def moved : List D → Out D := fun ds => retD (moved_b (env0 1 ds))
noncomputable def _law_moved_b : VI.Env → Rs := (sTry known (sRet (eIf (bCm .isN (ePk 2) (eC .none)) (eL (fFn 2 moves (aCons (eVar 0) (aCons (eVar 1) aNil)))) (eFn 3 moved (aCons (eVar 0) (aCons (eVar 1) (aCons (eVar 2) aNil)))))) [⟨"TooManyPassages", 3, fun a c p => (sRet (eIf (bAnd (bTru (eIsE 3 a (subX c "DoorError"))) (bNot (bTru (eIsE 3 a (subX c "InvalidWalk"))))) (eC (.str "many")) (eC (.str "other"))))⟩, ⟨"InvalidWalk", 3, fun a c p => (sRet (eIf (bAnd (bTru (eIsE 3 a (subX c "DoorError"))) (bNot (bTru (eIsE 3 a (subX c "InvalidMove"))))) (eC (.str "walk")) (eC (.str "other"))))⟩, ⟨"InvalidMove", 3, fun a c p => (sRet (eIf (bAnd (bTru (eIsE 3 a (subX c "DoorError"))) (bNot (bTru (eIsE 3 a (subX c "InvalidWalk"))))) (eC (.str "move")) (eC (.str "other"))))⟩])
noncomputable def _law_moved : List D → Out D := fun ds => retD (_law_moved_b (env0 1 ds))
noncomputable def law_b : VI.Env → Rs := (sSeq (sSet 1 (eFn 4 _law_building (aCons (eVar 0) (aCons (eC (.int 2)) (aCons (eC (.int 4)) (aCons (eC (.int 4)) aNil))))))
  (sSeq (sTgt (.tp (.cons (.nm 2) (.cons (.nm 3) (.cons (.nm 4) .nil)))) (eFn 4 _law_walked (aCons (eVar 0) (aCons (eC (.int 3)) (aCons (eVar 1) (aCons (eC (.int 7)) aNil))))))
  (sSeq (sSet 5 (eTup (aCons (eVar 2) (aCons (eVar 3) aNil))))
  (sSeq (sOwn 6 (fFn 2 _law_moves (aCons (eVar 1) (aCons (eVar 5) aNil))))
  (sFrz 6 (sSeq (sIf (bCm .ne (eL (fFn 2 moves (aCons (eVar 1) (aCons (eVar 5) aNil)))) (eL (fLc (iSeq (ePk 6)) (.tp (.cons (.nm 7) (.cons (.nm 8) .nil))) [7, 8] bYes (eVar 7)))) (sRet (eC (.bool false))) sNil)
  (sSeq (sFor (iSeq (eVar 6)) (.tp (.cons (.nm 7) (.cons (.nm 8) .nil))) (sSeq (sIf (bCm .ne (eFn 3 moved (aCons (eVar 1) (aCons (eVar 5) (aCons (eVar 7) aNil)))) (eTup (aCons (eVar 2) (aCons (eVar 8) aNil)))) (sRet (eC (.bool false))) sNil)
  (sIf (bOr (bCm .ne (eL (fCall sortedF (aCons (ePk 8) aNil))) (eL (fCall sortedF (aCons (ePk 3) aNil)))) (bCm .ne (e2 idxD (eFn 2 _law_rooms (aCons (eVar 1) (aCons (eTup (aCons (eVar 2) (aCons (eVar 8) aNil))) aNil))) (e1 negD (eC (.int 1)))) (ePk 4))) (sRet (eC (.bool false))) sNil)))
  (sSeq (sSet 9 (eTup (aCons (eC (.int 2)) (aCons (eTup (aCons (eTup (aCons (eC (.int 0)) (aCons (eC (.int 1)) (aCons (eC (.str "two-way")) aNil)))) aNil)) aNil))))
  (sRet (eAnd (eB (bCm .eq (eFn 3 _law_moved (aCons (eVar 9) (aCons (eTup (aCons (eC (.int 0)) (aCons (e2 mulD (eTup (aCons (eC (.int 0)) aNil)) (eC (.int 11))) aNil))) (aCons (eC .none) aNil)))) (eC (.str "many")))) (eB (bCm .eq (eFn 3 _law_moved (aCons (eVar 1) (aCons (eC .none) (aCons (eC .none) aNil)))) (eC (.str "walk"))))))))))))))
noncomputable def law : List D → Out D := fun ds => retD (law_b (env0 9 ds))
end Sem

/-! VM 2: draws, buildings, walks of a script. -/
namespace Sem
open PySem VI
theorem cell_ok (ns : List Int) (k : Int) (h0 : 0 ≤ k) : ∃ z, _law_cell [.list (ns.map .int), .int k] = .ok (.int z) := by
  unfold _law_cell _law_cell_b
  by_cases h : k < ns.length
  · obtain ⟨j, rfl⟩ := Int.eq_ofNat_of_zero_le h0
    have hj : j < ns.length := by omega
    refine ⟨ns[j], ?_⟩
    have e : L2.atI (ns.map PyData.int) (j : Int) = some (.int ns[j]) := L2.atI_nat (by rw [List.getElem?_map, List.getElem?_eq_getElem hj]; rfl)
    simp [h, e]
  · refine ⟨0, ?_⟩
    simp [h]
theorem mem_snoc {α : Type} {P : α → Prop} {l : List α} {a : α} (h : ∀ x ∈ l, P x) (ha : P a) : ∀ x ∈ l ++ [a], P x := fun x hx => by
  rcases List.mem_append.mp hx with h1 | h1
  · exact h x h1
  · rw [List.mem_singleton.mp h1]; exact ha
/-- what _law_row gives -/
theorem row_ok (ns : List Int) (a : Int) (h0 : 0 ≤ a) : ∃ ms : List Int, _law_row [.list (ns.map .int), .int a] = .ok (ms.map .int) ∧ ms.length = 60 ∧ ∀ m ∈ ms, 0 ≤ m ∧ m < 1000 := by
  obtain ⟨c0, e0⟩ := cell_ok ns a h0
  unfold _law_row _law_row_b
  simp [e0, rng1_of (j := 60) (by decide) (by decide)]
  generalize hF : forS _ _ _ _ = R
  obtain ⟨env', rfl, c, ms, x, rfl, hl, hm⟩ := forS_of hF
    (fun i env => ∃ (c : Int) (ms : List Int) (x : Slot), env = [Slot.val (.list (ns.map .int)), .val (.int a), .val (.int c), .own (ms.map .int), x] ∧ ms.length = i ∧ ∀ m ∈ ms, 0 ≤ m ∧ m < 1000)
    ⟨c0, [], .un, rfl, rfl, fun m hm => by cases hm⟩ (by
      rintro i d env hd ⟨c, ms, x, rfl, hl, hm⟩
      obtain ⟨hi, rfl⟩ := range_get hd
      obtain ⟨z, ez⟩ := cell_ok ns ((a + 1 + (i : Int)) % 20) (Int.emod_nonneg _ (by decide))
      have hs : ms.length < sizeLine := lt_size (by omega)
      by_cases h : c0 < 1000000000000000000
      · refine ⟨_, ?_, (c * 48271 + 131 * (i : Int) + 7 + z) % 2147483647, ms ++ [(c * 48271 + 131 * (i : Int) + 7 + z) % 2147483647 / 11 % 1000], .val (.int (i : Int)), rfl, by simp [hl], mem_snoc hm ⟨Int.emod_nonneg _ (by decide), Int.emod_lt_of_pos _ (by decide)⟩⟩
        simp [e0, h, hs, ez]
      · refine ⟨_, ?_, c / 1000, ms ++ [c % 1000], .val (.int (i : Int)), rfl, by simp [hl], mem_snoc hm ⟨Int.emod_nonneg _ (by decide), Int.emod_lt_of_pos _ (by decide)⟩⟩
        simp [e0, h, hs])
  refine ⟨ms, ?_, ?_, hm⟩
  · simp
  · rw [hl]; simp
structure Door where
  a : Int
  b : Int
  two : Bool
def kindS (t : Bool) : Str := if t then "two-way" else "one-way"
def doorD (d : Door) : D := .tuple [.int d.a, .int d.b, .str (kindS d.two)]
structure Bld where
  n : Int
  ds : List Door
def bD (b : Bld) : D := .tuple [.int b.n, .tuple (b.ds.map doorD)]
structure Door.Ok (n : Int) (d : Door) : Prop where
  a0 : 0 ≤ d.a
  b0 : 0 ≤ d.b
  an : d.a < n
  bn : d.b < n
  ne : d.a ≠ d.b
  lt : d.two = true → d.a < d.b
structure Bld.Ok (b : Bld) : Prop where
  n1 : 1 ≤ b.n
  n6 : b.n ≤ 6
  d8 : b.ds.length ≤ 8
  ds : ∀ d ∈ b.ds, d.Ok b.n
theorem draw {ms : List Int} (hl : ms.length = 60) (hm : ∀ m ∈ ms, 0 ≤ m ∧ m < 1000) {k : Int} (h0 : 0 ≤ k) (h1 : k < 60) : ∃ z : Int, L2.atI (ms.map PyData.int) k = some (.int z) ∧ 0 ≤ z ∧ z < 1000 := by
  obtain ⟨j, rfl⟩ := Int.eq_ofNat_of_zero_le h0
  have hj : j < ms.length := by omega
  exact ⟨ms[j], L2.atI_nat (by rw [List.getElem?_map, List.getElem?_eq_getElem hj]; rfl), hm _ (List.getElem_mem hj)⟩
/-- what _law_building gives -/
theorem bld_ok (ns : List Int) (a : Int) (h0 : 0 ≤ a) (r m : Int) (hr : 1 ≤ r) (hr6 : r ≤ 6) (hm0 : 0 ≤ m) (hm8 : m ≤ 8) : ∃ b : Bld, _law_building [.list (ns.map .int), .int a, .int r, .int m] = .ok (bD b) ∧ b.Ok ∧ b.n ≤ r ∧ (b.ds.length : Int) ≤ m := by
  obtain ⟨ms, e0, hl, hm⟩ := row_ok ns a h0
  obtain ⟨z0, d0, z00, _⟩ := draw hl hm (k := 0) (by decide) (by decide)
  obtain ⟨z1, d1, z10, _⟩ := draw hl hm (k := 1) (by decide) (by decide)
  obtain ⟨z40, d40, z400, _⟩ := draw hl hm (k := 40) (by decide) (by decide)
  have hr0 : (0 : Int) < r := by omega
  have hm1 : (0 : Int) < m + 1 := by omega
  have q0 := Int.emod_nonneg z0 (b := r) (by omega)
  have q1 := Int.emod_lt_of_pos z0 hr0
  have p0 := Int.emod_nonneg z1 (b := m + 1) (by omega)
  have p1 := Int.emod_lt_of_pos z1 hm1
  generalize hn : 1 + z0 % r = n
  generalize hk : z1 % (m + 1) = k
  unfold _law_building _law_building_b
  simp [e0, d0, d1, hr0, hm1, hn, hk]
  by_cases h1 : 1 < n
  · have hk1 : k < 1000 := by omega
    simp [h1, rng1_of (hk ▸ p0) hk1]
    generalize hF : forS _ _ _ _ = R
    obtain ⟨env', rfl, ds, x7, x8, x9, rfl, hdl, hds⟩ := forS_of hF
      (fun i env => ∃ (ds : List Door) (x7 x8 x9 : Slot), env = [.val (.list (ns.map .int)), .val (.int a), .val (.int r), .val (.int m), .val (.list (ms.map .int)), .val (.int n), .own (ds.map doorD), x7, x8, x9] ∧ ds.length = i ∧ ∀ d ∈ ds, d.Ok n)
      ⟨[], .un, .un, .un, rfl, rfl, fun m hm => by cases hm⟩ (by
        rintro i d env hd ⟨ds, x7, x8, x9, rfl, hdl, hds⟩
        obtain ⟨hi, rfl⟩ := range_get hd
        have hi' : (i : Int) < k := by omega
        obtain ⟨w0, f0, g0, _⟩ := draw hl hm (k := 2 + 3 * (i : Int)) (by omega) (by omega)
        obtain ⟨w1, f1, g1, _⟩ := draw hl hm (k := 3 + 3 * (i : Int)) (by omega) (by omega)
        obtain ⟨w2, f2, g2, _⟩ := draw hl hm (k := 4 + 3 * (i : Int)) (by omega) (by omega)
        have hn0 : 0 < n := by omega
        have a0 := Int.emod_nonneg w0 (b := n) (by omega)
        have a1 := Int.emod_lt_of_pos w0 hn0
        have b0 := Int.emod_nonneg w1 (b := n - 1) (by omega)
        have b1 := Int.emod_lt_of_pos w1 (b := n - 1) (by omega)
        have ho := mod2 (u := w0 % n + 1 + w1 % (n - 1)) (n := n) (by omega) (by omega)
        generalize ho1 : w0 % n = one at *
        generalize ho2 : (one + 1 + w1 % (n - 1)) % n = other at *
        have hs : ds.length < sizeLine := lt_size (by omega)
        have hn1 : 0 < n - 1 := by omega
        have o1 : 0 ≤ other ∧ other < n ∧ one ≠ other := by split at ho <;> omega
        have dt : Door.Ok n ⟨min one other, max one other, true⟩ := ⟨by show 0 ≤ min one other; omega, by show 0 ≤ max one other; omega, by show min one other < n; omega, by show max one other < n; omega, by show min one other ≠ max one other; omega, fun _ => by show min one other < max one other; omega⟩
        have df : Door.Ok n ⟨one, other, false⟩ := ⟨a0, o1.1, a1, o1.2.1, o1.2.2, fun z => by cases z⟩
        have z3 : z40 % 3 = 0 ∨ z40 % 3 = 1 ∨ z40 % 3 = 2 := by omega
        have yes : ∃ ds1 : List Door, ds.map doorD ++ [.tuple [.int (min one other), .int (max one other), .str "two-way"]] = ds1.map doorD ∧ ds1.length = i + 1 ∧ ∀ d ∈ ds1, d.Ok n :=
          ⟨ds ++ [⟨min one other, max one other, true⟩], by simp [doorD, kindS], by simp [hdl], mem_snoc hds dt⟩
        have no : ∃ ds1 : List Door, ds.map doorD ++ [.tuple [.int one, .int other, .str "one-way"]] = ds1.map doorD ∧ ds1.length = i + 1 ∧ ∀ d ∈ ds1, d.Ok n :=
          ⟨ds ++ [⟨one, other, false⟩], by simp [doorD, kindS], by simp [hdl], mem_snoc hds df⟩
        rcases z3 with z | z | z
        · simp [f0, f1, f2, d40, hn0, h1, ho1, ho2, z, hs]
          exact yes
        · simp [f0, f1, f2, d40, hn0, h1, ho1, ho2, z, hs]
          exact no
        · by_cases hw : w2 % 2 = 0
          · simp [f0, f1, f2, d40, hn0, h1, ho1, ho2, z, hs, hw]
            exact yes
          · simp [f0, f1, f2, d40, hn0, h1, ho1, ho2, z, hs, hw]
            exact no)
    rw [range_len] at hdl
    refine ⟨⟨n, ds⟩, by simp [bD], ⟨by show 1 ≤ n; omega, by show n ≤ 6; omega, by show ds.length ≤ 8; omega, hds⟩, by show n ≤ r; omega, by show (ds.length : Int) ≤ m; omega⟩
  · simp [h1]
    refine ⟨⟨n, []⟩, rfl, ⟨by show 1 ≤ n; omega, by show n ≤ 6; omega, by simp, by simp⟩, by show n ≤ r; omega, by simpa using hm0⟩
def Door.side (d : Door) (r : Int) : Option Int := if r = d.a then some d.b else if r = d.b ∧ d.two = true then some d.a else none
def optD : Option Int → D
  | none => .none
  | some i => .int i
@[simp] theorem optD_none : optD none = .none := Eq.trans rfl rfl
@[simp] theorem optD_some (i : Int) : optD (some i) = .int i := Eq.trans rfl rfl
@[simp] theorem nonD_opt (o : Option Int) : nonD (optD o) = o.isNone := by cases o <;> rfl
@[simp] theorem kind_two (t : Bool) : cmD .eq (.str (kindS t)) (.str "two-way") = .ok t := by
  rw [cm_eq_of (by cases t <;> decide +kernel) (by decide +kernel)]
  exact congrArg Out.ok (by cases t <;> decide +kernel)
@[simp] theorem kind_one (t : Bool) : cmD .eq (.str (kindS t)) (.str "one-way") = .ok (!t) := by
  rw [cm_eq_of (by cases t <;> decide +kernel) (by decide +kernel)]
  exact congrArg Out.ok (by cases t <;> decide +kernel)
theorem door_at {b : Bld} {i : Nat} {d : Door} (h : b.ds[i]? = some d) : L2.atI (b.ds.map doorD) (i : Int) = some (.tuple [.int d.a, .int d.b, .str (kindS d.two)]) := L2.atI_nat (by rw [List.getElem?_map, h]; rfl)
theorem side_ok {b : Bld} {i : Nat} {d : Door} (h : b.ds[i]? = some d) (r : Int) : _law_side [bD b, .int i, .int r] = .ok (optD (d.side r)) := by
  unfold _law_side _law_side_b bD Door.side
  by_cases h1 : r = d.a
  · simp [door_at h, h1]
  · by_cases h2 : r = d.b
    · subst h2
      cases ht : d.two <;> simp [door_at h, h1, ht]
    · simp [door_at h, h1, h2]
def Bld.step (b : Bld) (r i : Int) : Option Int := if 0 ≤ i then (b.ds[i.toNat]?).bind fun d => d.side r else none
def Bld.go (b : Bld) : Int → List Int → Option Int
  | r, [] => some r
  | r, i :: is => (b.step r i).bind fun r' => b.go r' is
theorem Bld.go_snoc (b : Bld) : ∀ (is : List Int) (r i : Int), b.go r (is ++ [i]) = (b.go r is).bind fun r' => b.step r' i
  | [], r, i => by simp [Bld.go]
  | j :: is, r, i => by
    show ((b.step r j).bind fun r' => b.go r' (is ++ [i])) = ((b.step r j).bind fun r' => b.go r' is).bind _
    cases b.step r j with
    | none => rfl
    | some r' => exact Bld.go_snoc b is r' i
theorem step_ok {b : Bld} {i : Nat} (h : i < b.ds.length) (r : Int) : _law_side [bD b, .int i, .int r] = .ok (optD (b.step r i)) := by
  have hd : b.ds[i]? = some b.ds[i] := List.getElem?_eq_getElem h
  rw [side_ok hd]
  unfold Bld.step
  rw [if_pos (by omega), Int.toNat_natCast, hd]
  rfl
/-- the doors that lead out of e -/
def Bld.outs (b : Bld) (e : Int) : List Int := ((List.range b.ds.length).filter fun j => (b.step e (j : Nat)).isSome).map fun (j : Nat) => (j : Int)
def pickB (b : Bld) (e : Int) : D → Option D := fun d => match d with
  | .int j => if (b.step e j).isSome then some (.int j) else none
  | _ => none
theorem pick_outs {b : Bld} {e : Int} : (rangeL 0 b.ds.length).filterMap (pickB b e) = (b.outs e).map PyData.int := by
  rw [range_pick (fun j => (b.step e (j : Nat)).isSome)]
  · simp [Bld.outs]
  · intro j hj; simp [pickB]
theorem outs_mem {b : Bld} {e j : Int} (h : j ∈ b.outs e) : 0 ≤ j ∧ j < b.ds.length ∧ ∃ r, b.step e j = some r := by
  unfold Bld.outs at h
  obtain ⟨i, hi, rfl⟩ := List.mem_map.mp h
  obtain ⟨h1, h2⟩ := List.mem_filter.mp hi
  have := List.mem_range.mp h1
  exact ⟨by omega, by omega, Option.isSome_iff_exists.mp h2⟩
theorem rng1_nat {n : Nat} (h : n < 1000) : rng1 [.int (n : Int)] = .ok (rangeL 0 n) := by
  rw [rng1_eq, if_pos (by omega), Int.toNat_natCast]
theorem len_doors {b : Bld} {env : VI.Env} (h2 : sg env 2 = .val (bD b)) : (aCons (eCall lenG (aCons (e2 idxD (ePk 2) (eC (.int 1))) aNil)) aNil) env = .ok [.int b.ds.length] := by
  have E2 : idxD (bD b) (.int 1) = .ok (.tuple (b.ds.map doorD)) := rfl
  simp [E2, h2]
theorem range_doors {b : Bld} (hb : b.Ok) {env : VI.Env} (h2 : sg env 2 = .val (bD b)) : iRg rng1 (aCons (eCall lenG (aCons (e2 idxD (ePk 2) (eC (.int 1))) aNil)) aNil) env = .ok (rangeL 0 b.ds.length) := by
  rw [iRg_eq, len_doors h2, Out.bind_ok]
  exact rng1_nat (Nat.lt_of_le_of_lt hb.d8 (by decide))
theorem here_ok {b : Bld} (hb : b.Ok) {v0 v1 v3 v4 v5 v7 v8 v9 v10 : Slot} {e : Int} :
    fLc (iRg rng1 (aCons (eCall lenG (aCons (e2 idxD (ePk 2) (eC (.int 1))) aNil)) aNil)) (.nm 10) [10] (bCm .notN (eFn 3 _law_side (aCons (eVar 2) (aCons (eVar 10) (aCons (eVar 6) aNil)))) (eC .none)) (eVar 10)
      [v0, v1, .val (bD b), v3, v4, v5, .val (.int e), v7, v8, v9, v10] = .ok ((b.outs e).map .int) := by
  rw [← pick_outs]
  refine fLc_spec (ds := rangeL 0 b.ds.length) (pickB b e) (range_doors hb rfl) (by rw [range_len]; exact le_size (by have := hb.d8; omega)) fun d hd => ?_
  obtain ⟨j, hj, rfl⟩ := mem_range hd
  refine ⟨_, bindT_nm _, ?_⟩
  have hs := step_ok hj e
  have h0 : (0 : Int) + (j : Int) = (j : Int) := by omega
  rw [h0]
  unfold pickB
  cases ho : b.step e j with
  | none =>
    rw [ho] at hs
    simp [hs, ho]
  | some r =>
    rw [ho] at hs
    simp [hs, ho]
/-- what _law_walked gives -/
theorem walked_ok (ns : List Int) (a : Int) (h0 : 0 ≤ a) {b : Bld} (hb : b.Ok) (m : Int) (hm0 : 0 ≤ m) (hm9 : m ≤ 50) :
    ∃ (s : Int) (is : List Int) (e : Int), _law_walked [.list (ns.map .int), .int a, bD b, .int m] = .ok (.tuple [.int s, .tuple (is.map .int), .int e]) ∧ 0 ≤ s ∧ s < b.n ∧ b.go s is = some e ∧ (is.length : Int) ≤ m := by
  obtain ⟨ms, e0, hl, hm⟩ := row_ok ns a h0
  obtain ⟨z0, d0, z00, _⟩ := draw hl hm (k := 0) (by decide) (by decide)
  obtain ⟨z1, d1, z10, _⟩ := draw hl hm (k := 1) (by decide) (by decide)
  have hn0 : 0 < b.n := by have := hb.n1; omega
  have hm1 : (0 : Int) < m + 1 := by omega
  have q0 := Int.emod_nonneg z0 (b := b.n) (by omega)
  have q1 := Int.emod_lt_of_pos z0 hn0
  have p0 := Int.emod_nonneg z1 (b := m + 1) (by omega)
  have p1 := Int.emod_lt_of_pos z1 hm1
  have bL : L2.atI [PyData.int b.n, .tuple (b.ds.map doorD)] 0 = some (.int b.n) := rfl
  generalize hs : z0 % b.n = s at *
  generalize hk : z1 % (m + 1) = k at *
  have hk1 : k < 1000 := by omega
  unfold _law_walked _law_walked_b
  have E1 : idxD (bD b) (.int 0) = .ok (.int b.n) := rfl
  have E2 : idxD (bD b) (.int 1) = .ok (.tuple (b.ds.map doorD)) := rfl
  have hL : (b.ds.length : Int) < 1000 := by have := hb.d8; omega
  simp [e0, d0, d1, E1, E2, hn0, hm1, hs, hk, rng1_of p0 hk1]
  generalize hF : forS _ _ _ _ = R
  obtain ⟨env', rfl, is, e, x8, x9, x10, rfl, hgo, hil⟩ := forS_of hF
    (fun i env => ∃ (is : List Int) (e : Int) (x8 x9 x10 : Slot), env = [.val (.list (ns.map .int)), .val (.int a), .val (bD b), .val (.int m), .val (.list (ms.map .int)), .val (.int s), .val (.int e), .own (is.map .int), x8, x9, x10] ∧ b.go s is = some e ∧ is.length ≤ i)
    ⟨[], s, .un, .un, .un, rfl, rfl, Nat.le_refl _⟩ (by
      rintro i d env hd ⟨is, e, x8, x9, x10, rfl, hgo, hil⟩
      obtain ⟨hi, rfl⟩ := range_get hd
      have hi' : (i : Int) < k := by omega
      obtain ⟨w0, f0, g0, _⟩ := draw hl hm (k := 2 + (i : Int)) (by omega) (by omega)
      have hz : is.length < sizeLine := lt_size (by omega)
      have hne := cm_ne_nil (b.outs e)
      by_cases ho : b.outs e = []
      · have hne' : cmD .ne (.list ((b.outs e).map .int)) (.list []) = .ok false := by rw [hne, ho]; rfl
        refine ⟨_, ?_, is, e, .val (.int i), .val (.list ((b.outs e).map .int)), x10, rfl, hgo, by omega⟩
        simp [here_ok hb, hne']
      · have hne' : cmD .ne (.list ((b.outs e).map .int)) (.list []) = .ok true := by
          rw [hne]
          cases q : b.outs e with
          | nil => exact absurd q ho
          | cons _ _ => rfl
        have hp : 0 < (b.outs e).length := List.length_pos_iff.mpr ho
        have hp' : (0 : Int) < (b.outs e).length := by omega
        have m0 := Int.emod_nonneg w0 (b := ((b.outs e).length : Int)) (by omega)
        have m1 := Int.emod_lt_of_pos w0 hp'
        obtain ⟨t, ht⟩ := Int.eq_ofNat_of_zero_le m0
        have htl : t < (b.outs e).length := by omega
        have hmem := List.getElem_mem htl
        obtain ⟨j0, j1, r', hr'⟩ := outs_mem hmem
        have hat : L2.atI ((b.outs e).map PyData.int) (w0 % ((b.outs e).length : Int)) = some (.int (b.outs e)[t]) := by
          rw [ht]
          exact L2.atI_nat (by rw [List.getElem?_map, List.getElem?_eq_getElem htl]; rfl)
        generalize (b.outs e)[t] = j at *
        obtain ⟨jn, rfl⟩ := Int.eq_ofNat_of_zero_le j0
        have hs := step_ok (b := b) (i := jn) (by omega) e
        rw [hr'] at hs
        refine ⟨_, ?_, is ++ [(jn : Int)], r', .val (.int i), .val (.list ((b.outs e).map .int)), .val (.int jn), rfl, by rw [Bld.go_snoc, hgo]; exact hr', by simp; omega⟩
        simp [here_ok hb, hne', f0, hp, hat, hz, hs])
  rw [range_len] at hil
  refine ⟨s, is, e, ?_, q0, q1, hgo, by omega⟩
  simp
end Sem

/-! VM 3: is_building, other_side, in_range. -/
namespace Sem
open PySem VI
theorem other_side_eq : other_side = _law_side := rfl
theorem in_range_eq (x y z : D) : in_range [x, y, z] = _law_in [x, y, z] := by
  unfold in_range in_range_b _law_in _law_in_b _law_whole _law_whole_b
  cases h1 : isTy .int x <;> cases h2 : isTy .bool x <;> simp [h1, h2]
theorem in_range_int (x y z : Int) : in_range [.int x, .int y, .int z] = .ok (.bool (decide (y ≤ x) && decide (x ≤ z))) := by
  unfold in_range in_range_b
  have h1 : isTy .int (.int x) = true := rfl
  have h2 : isTy .bool (.int x) = false := rfl
  by_cases h : y ≤ x <;> by_cases h' : x ≤ z <;> simp [h1, h2, h, h']
theorem kind_in (t : Bool) : cmD .notIn (.str (kindS t)) (.tuple [.str "one-way", .str "two-way"]) = .ok false := by
  rw [cm_notIn_tuple (by cases t <;> decide +kernel) (by decide +kernel)]
  exact congrArg Out.ok (by cases t <;> decide +kernel)
theorem kind_ow (t : Bool) : cmD .eq (.str (kindS t)) (.str "one-way") = .ok (!t) := kind_one t
theorem is_door_ok {n : Int} {d : Door} (h : d.Ok n) : is_door [.int n, doorD d] = .ok (.bool true) := by
  have t : isTy .tuple (doorD d) = true := rfl
  have i0 : idxD (doorD d) (.int 0) = .ok (.int d.a) := rfl
  have i1 : idxD (doorD d) (.int 1) = .ok (.int d.b) := rfl
  have i2 : idxD (doorD d) (.int 2) = .ok (.str (kindS d.two)) := rfl
  have l : lenG [doorD d] = .ok (.int 3) := rfl
  unfold is_door is_door_b
  have ra := in_range_int d.a 0 (n - 1)
  have rb := in_range_int d.b 0 (n - 1)
  have ha : decide ((0 : Int) ≤ d.a) = true := decide_eq_true h.a0
  have hb : decide ((0 : Int) ≤ d.b) = true := decide_eq_true h.b0
  have ha2 : decide (d.a ≤ n - 1) = true := decide_eq_true (by have := h.an; omega)
  have hb2 : decide (d.b ≤ n - 1) = true := decide_eq_true (by have := h.bn; omega)
  rw [ha, ha2] at ra
  rw [hb, hb2] at rb
  cases ht : d.two with
  | true =>
    have hl := h.lt ht
    rw [ht] at i2
    simp [t, i0, i1, i2, l, ra, rb, kind_in, kind_ow, hl]
  | false =>
    rw [ht] at i2
    simp [t, i0, i1, i2, l, ra, rb, kind_in, kind_ow, h.ne]
theorem is_building_ok {b : Bld} (hb : b.Ok) : is_building [bD b] = .ok (.bool true) := by
  have t : isTy .tuple (bD b) = true := rfl
  have t1 : isTy .tuple (.tuple (b.ds.map doorD)) = true := rfl
  have i0 : idxD (bD b) (.int 0) = .ok (.int b.n) := rfl
  have i1 : idxD (bD b) (.int 1) = .ok (.tuple (b.ds.map doorD)) := rfl
  have l : lenG [bD b] = .ok (.int 2) := rfl
  have ra := in_range_int b.n 1 6
  rw [decide_eq_true hb.n1, decide_eq_true hb.n6] at ra
  have h8 : ¬ 8 < (b.ds.length : Int) := by have := hb.d8; omega
  have hc : fLc (iSeq (e2 idxD (ePk 0) (eC (.int 1)))) (.nm 1) [1] (bNot (bTru (eFn 2 is_door (aCons (e2 idxD (ePk 0) (eC (.int 0))) (aCons (eVar 1) aNil))))) (eVar 1) [.val (bD b), .un] = .ok [] := by
    have e := fLc_spec (it := iSeq (e2 idxD (ePk 0) (eC (.int 1)))) (t := .nm 1) (vs := [1]) (tt := bNot (bTru (eFn 2 is_door (aCons (e2 idxD (ePk 0) (eC (.int 0))) (aCons (eVar 1) aNil))))) (te := eVar 1) (env := [.val (bD b), .un]) (ds := b.ds.map doorD) (fun _ => none) (by simp [i1]) (by rw [List.length_map]; exact le_size (by have := hb.d8; omega)) fun d hd => by
      obtain ⟨d', hd', rfl⟩ := List.mem_map.mp hd
      refine ⟨_, bindT_nm _, ?_⟩
      simp [i0, is_door_ok (hb.ds d' hd')]
    rw [e]
    congr 1
    exact List.filterMap_eq_nil_iff.mpr fun _ _ => rfl
  unfold is_building is_building_b
  simp [t, t1, i0, i1, l, ra, h8, hc]
theorem check_building_ok {b : Bld} (hb : b.Ok) : check_building [bD b] = .ok .none := by
  unfold check_building check_building_b
  simp [is_building_ok hb]
end Sem

/-! VM 4: what a walk's rooms are. -/
namespace Sem
open PySem VI
theorem eFn_congr {n : Nat} {F G : List D → Out D} (h : ∀ ds, ds.length = n → F ds = G ds) : eFn n F = eFn n G := funext fun g => funext fun env => by
  show (g env).bind _ = (g env).bind _
  congr 1
  funext ds
  by_cases hl : ds.length = n
  · rw [if_pos hl, if_pos hl, h ds hl]
  · rw [if_neg hl, if_neg hl]
theorem in_range_fn : eFn 3 in_range = eFn 3 _law_in := eFn_congr fun ds hl => match ds, hl with
  | [x, y, z], _ => in_range_eq x y z
theorem trace_eq : trace = _law_rooms := by
  unfold trace trace_b _law_rooms _law_rooms_b
  rw [in_range_fn, other_side_eq]
def inI (x : D) (lo hi : Int) : Bool := match x with
  | .int i => decide (lo ≤ i) && decide (i ≤ hi)
  | _ => false
theorem in_ok (x : D) (lo hi : Int) : _law_in [x, .int lo, .int hi] = .ok (.bool (inI x lo hi)) := by
  cases x with
  | int i => rw [← in_range_eq, in_range_int]; rfl
  | bool b =>
    have h1 : isTy .int (.bool b) = true := rfl
    have h2 : isTy .bool (.bool b) = true := rfl
    unfold _law_in _law_in_b _law_whole _law_whole_b
    simp [h1, h2, inI]
  | none =>
    have h1 : isTy .int .none = false := rfl
    unfold _law_in _law_in_b _law_whole _law_whole_b
    simp [h1, inI]
  | str s =>
    have h1 : isTy .int (.str s) = false := rfl
    unfold _law_in _law_in_b _law_whole _law_whole_b
    simp [h1, inI]
  | list s =>
    have h1 : isTy .int (.list s) = false := rfl
    unfold _law_in _law_in_b _law_whole _law_whole_b
    simp [h1, inI]
  | tuple s =>
    have h1 : isTy .int (.tuple s) = false := rfl
    unfold _law_in _law_in_b _law_whole _law_whole_b
    simp [h1, inI]
  | dict s =>
    have h1 : isTy .int (.dict s) = false := rfl
    unfold _law_in _law_in_b _law_whole _law_whole_b
    simp [h1, inI]
theorem inI_int {x : D} {lo hi : Int} (h : inI x lo hi = true) : ∃ i, x = .int i ∧ lo ≤ i ∧ i ≤ hi := by
  cases x with
  | int i =>
    have h' : (decide (lo ≤ i) && decide (i ≤ hi)) = true := h
    simp at h'
    exact ⟨i, rfl, h'⟩
  | _ => cases h
/-- the rooms passed, from e on -/
def Bld.tr (b : Bld) : Int → List Int → List D → Option (List Int)
  | _, acc, [] => some acc
  | e, acc, .int i :: ds => if 0 ≤ i ∧ i ≤ b.ds.length - 1 then (b.step e i).bind fun r => b.tr r (acc ++ [r]) ds else none
  | _, _, _ :: _ => none
def Bld.rooms (b : Bld) (v : D) : Option (List Int) := match v with
  | .tuple [.int s, .tuple ds] => if 0 ≤ s ∧ s ≤ b.n - 1 ∧ ds.length ≤ 72 then b.tr s [s] ds else none
  | _ => none
def optL : Option (List Int) → D
  | none => .none
  | some rs => .list (rs.map .int)
theorem atI_last {rs : List Int} {e : Int} (h : rs.getLast? = some e) : L2.atI (rs.map PyData.int) (-1) = some (.int e) := by
  obtain ⟨l, rfl⟩ := List.getLast?_eq_some_iff.mp h
  rw [List.map_append]
  exact L2.atI_last _ _
theorem Bld.tr_bad {b : Bld} {e : Int} {acc : List Int} {d : D} {ds : List D} (h : inI d 0 (b.ds.length - 1) = false) : b.tr e acc (d :: ds) = none := by
  cases d with
  | int i =>
    have h' : (decide (0 ≤ i) && decide (i ≤ (b.ds.length : Int) - 1)) = false := h
    unfold Bld.tr
    rw [if_neg]
    intro hh
    rw [decide_eq_true hh.1, decide_eq_true hh.2] at h'
    cases h'
  | _ => rfl
theorem rooms_tuple {b : Bld} (hb : b.Ok) (s : Int) (ds : List D) (h0 : 0 ≤ s) (h1 : s ≤ b.n - 1) (hl : ds.length ≤ 72) :
    _law_rooms [bD b, .tuple [.int s, .tuple ds]] = .ok (optL (b.tr s [s] ds)) := by
  have i0 : idxD (bD b) (.int 0) = .ok (.int b.n) := rfl
  have i1 : idxD (bD b) (.int 1) = .ok (.tuple (b.ds.map doorD)) := rfl
  have t1 : isTy .tuple (.tuple [.int s, .tuple ds]) = true := rfl
  have t2 : isTy .tuple (.tuple ds) = true := rfl
  have hi := in_ok (.int s) 0 (b.n - 1)
  have hin : inI (.int s) 0 (b.n - 1) = true := by show (decide (0 ≤ s) && decide (s ≤ b.n - 1)) = true; rw [decide_eq_true h0, decide_eq_true h1]; rfl
  rw [hin] at hi
  have hl' : ¬ 72 < (ds.length : Int) := by omega
  unfold _law_rooms _law_rooms_b
  simp [t1, t2, i0, i1, hi, hl']
  generalize hF : forS _ _ _ _ = R
  rcases forS_ofQ hF
    (fun i env => ∃ (rs : List Int) (e : Int) (x3 x4 : Slot), env = [.val (bD b), .val (.tuple [.int s, .tuple ds]), .own (rs.map .int), x3, x4] ∧ rs.getLast? = some e ∧ rs.length = i + 1 ∧ b.tr s [s] ds = b.tr e rs (ds.drop i))
    (fun r => r = .rt .none ∧ b.tr s [s] ds = none)
    ⟨[s], s, .un, .un, rfl, rfl, rfl, rfl⟩ (by
      rintro i d env hd ⟨rs, e, x3, x4, rfl, hla, hrl, htr⟩
      have hil := (List.getElem?_eq_some_iff.mp hd).1
      rw [drop_cons hd] at htr
      have hz : rs.length < sizeLine := lt_size (by omega)
      have hin := in_ok d 0 ((b.ds.length : Int) - 1)
      cases hq : inI d 0 ((b.ds.length : Int) - 1) with
      | false =>
        rw [hq] at hin
        rw [Bld.tr_bad hq] at htr
        refine .inr (.inr ?_)
        simp [i1, hin, htr]
      | true =>
        rw [hq] at hin
        obtain ⟨j, rfl, j0, j1⟩ := inI_int hq
        obtain ⟨jn, rfl⟩ := Int.eq_ofNat_of_zero_le j0
        have hs := step_ok (b := b) (i := jn) (by omega) e
        have htr' : b.tr s [s] ds = (b.step e jn).bind fun r => b.tr r (rs ++ [r]) (ds.drop (i + 1)) := by
          rw [htr]
          conv => lhs; unfold Bld.tr
          rw [if_pos ⟨j0, j1⟩]
        cases ho : b.step e jn with
        | none =>
          rw [ho] at hs htr'
          refine .inr (.inr ?_)
          simp [i1, hin, atI_last hla, hs]
          exact htr'
        | some r =>
          rw [ho] at hs htr'
          refine .inl ⟨_, ?_, rs ++ [r], r, .val (.int jn), .val (.int r), rfl, by simp, by simp [hrl], htr'⟩
          simp [i1, hin, atI_last hla, hs, hz]) with ⟨env', rfl, rs, e, x3, x4, rfl, hla, hrl, htr⟩ | ⟨rfl, htr⟩
  · rw [htr, List.drop_length]
    simp [Bld.tr, optL]
  · rw [htr]
    simp [optL]
theorem rooms_ok {b : Bld} (hb : b.Ok) (v : D) : _law_rooms [bD b, v] = .ok (optL (b.rooms v)) := by
  have i0 : idxD (bD b) (.int 0) = .ok (.int b.n) := rfl
  have i1 : idxD (bD b) (.int 1) = .ok (.tuple (b.ds.map doorD)) := rfl
  have other : isTy .tuple v = false → _law_rooms [bD b, v] = .ok .none := fun t => by
    unfold _law_rooms _law_rooms_b
    simp [t]
  cases v with
  | tuple l =>
    have t1 : isTy .tuple (.tuple l) = true := rfl
    match l with
    | [] => unfold _law_rooms _law_rooms_b; simp [t1, Bld.rooms, optL]
    | [_] => unfold _law_rooms _law_rooms_b; simp [t1, Bld.rooms, optL]
    | _ :: _ :: _ :: r =>
      have hn : ¬ ((r.length : Int) + 1 + 1 + 1 = 2) := by omega
      unfold _law_rooms _law_rooms_b
      simp [t1, Bld.rooms, optL, hn]
    | [x, y] =>
      have hin := in_ok x 0 (b.n - 1)
      cases hq : inI x 0 (b.n - 1) with
      | false =>
        rw [hq] at hin
        have e : b.rooms (.tuple [x, y]) = none := by
          unfold Bld.rooms
          split
          · rename_i s ds hv
            cases hv
            rw [if_neg]
            intro hh
            have : inI (.int s) 0 (b.n - 1) = true := by show (decide (0 ≤ s) && decide (s ≤ b.n - 1)) = true; rw [decide_eq_true hh.1, decide_eq_true hh.2.1]; rfl
            rw [hq] at this; cases this
          · rfl
        rw [e]
        unfold _law_rooms _law_rooms_b
        simp [t1, i0, hin, optL]
      | true =>
        rw [hq] at hin
        obtain ⟨s, rfl, s0, s1⟩ := inI_int hq
        have noty : isTy .tuple y = false → _law_rooms [bD b, .tuple [.int s, y]] = .ok .none := fun t => by
          unfold _law_rooms _law_rooms_b
          simp [t1, i0, hin, t]
        cases y with
        | tuple ds =>
          have t2 : isTy .tuple (.tuple ds) = true := rfl
          by_cases hl : ds.length ≤ 72
          · rw [rooms_tuple hb s ds s0 s1 hl]
            show _ = Out.ok (optL (if 0 ≤ s ∧ s ≤ b.n - 1 ∧ ds.length ≤ 72 then b.tr s [s] ds else none))
            rw [if_pos ⟨s0, s1, hl⟩]
          · have e : b.rooms (.tuple [.int s, .tuple ds]) = none := by
              show (if 0 ≤ s ∧ s ≤ b.n - 1 ∧ ds.length ≤ 72 then b.tr s [s] ds else none) = none
              rw [if_neg fun hh => hl hh.2.2]
            rw [e]
            have hl' : 72 < (ds.length : Int) := by omega
            unfold _law_rooms _law_rooms_b
            simp [t1, t2, i0, hin, hl', optL]
        | _ => exact noty rfl
  | _ => exact other rfl
end Sem

/-! VM 5: counts of walks. -/
namespace Sem
open PySem VI
theorem checked_some {b : Bld} (hb : b.Ok) {v : D} {rs : List Int} (h : b.rooms v = some rs) : checked_rooms [bD b, v] = .ok (.list (rs.map .int)) := by
  have h' := rooms_ok hb v
  rw [h] at h'
  unfold checked_rooms checked_rooms_b
  rw [trace_eq]
  simp [h', optL]
theorem checked_none {b : Bld} (hb : b.Ok) {v : D} (h : b.rooms v = none) : checked_rooms [bD b, v] = .exc "InvalidWalk" none := by
  have h' := rooms_ok hb v
  rw [h] at h'
  unfold checked_rooms checked_rooms_b
  rw [trace_eq]
  simp [h', optL]
/-! walks that are walks -/
def wD (w : Int × List Int) : D := .tuple [.int w.1, .tuple (w.2.map .int)]
theorem tr_ints {b : Bld} : ∀ {ds : List D} {e : Int} {acc rs : List Int}, b.tr e acc ds = some rs → ∃ is : List Int, ds = is.map .int ∧ ∀ i ∈ is, 0 ≤ i ∧ i < b.ds.length
  | [], _, _, _, _ => ⟨[], rfl, fun _ h => nomatch h⟩
  | .int i :: ds, e, acc, rs, h => by
    unfold Bld.tr at h
    split at h
    · rename_i hi
      cases hs : b.step e i with
      | none => rw [hs] at h; cases h
      | some r =>
        rw [hs] at h
        obtain ⟨is, rfl, hh⟩ := tr_ints (ds := ds) (show b.tr r (acc ++ [r]) ds = some rs from h)
        refine ⟨i :: is, rfl, fun j hj => ?_⟩
        rcases List.mem_cons.mp hj with rfl | hj
        · exact ⟨hi.1, by omega⟩
        · exact hh j hj
    · cases h
  | .none :: _, _, _, _, h => by cases h
  | .bool _ :: _, _, _, _, h => by cases h
  | .str _ :: _, _, _, _, h => by cases h
  | .list _ :: _, _, _, _, h => by cases h
  | .tuple _ :: _, _, _, _, h => by cases h
  | .dict _ :: _, _, _, _, h => by cases h
def Fine (b : Bld) (w : Int × List Int) : Prop := ∀ i ∈ w.2, 0 ≤ i ∧ i < b.ds.length
theorem rooms_some {b : Bld} {v : D} {rs : List Int} (h : b.rooms v = some rs) : ∃ w, v = wD w ∧ Fine b w ∧ w.2.length ≤ 72 := by
  unfold Bld.rooms at h
  split at h
  · rename_i s ds
    split at h
    · rename_i hs
      obtain ⟨is, rfl, hi⟩ := tr_ints h
      exact ⟨(s, is), rfl, hi, by simpa using hs.2.2⟩
    · cases h
  · cases h
theorem go_tr {b : Bld} : ∀ {is : List Int} {s e : Int} {acc : List Int}, b.go s is = some e → ∃ rs, b.tr s acc (is.map .int) = some rs
  | [], _, _, acc, _ => ⟨acc, rfl⟩
  | i :: is, s, e, acc, h => by
    have h' : ((b.step s i).bind fun r' => b.go r' is) = some e := h
    cases hs : b.step s i with
    | none => rw [hs] at h'; cases h'
    | some r =>
      rw [hs] at h'
      obtain ⟨rs, e1⟩ := go_tr (b := b) (is := is) (s := r) (acc := acc ++ [r]) h'
      refine ⟨rs, ?_⟩
      rw [List.map_cons]
      unfold Bld.tr
      have hi : 0 ≤ i ∧ i ≤ (b.ds.length : Int) - 1 := by
        unfold Bld.step at hs
        split at hs
        · rename_i h0
          cases hd : b.ds[i.toNat]? with
          | none => rw [hd] at hs; cases hs
          | some d =>
            have := (List.getElem?_eq_some_iff.mp hd).1
            exact ⟨h0, by omega⟩
        · cases hs
      rw [if_pos hi, hs]
      exact e1
theorem walk_rooms {b : Bld} {s e : Int} {is : List Int} (h0 : 0 ≤ s) (h1 : s < b.n) (hl : is.length ≤ 72) (h : b.go s is = some e) : ∃ rs, b.rooms (wD (s, is)) = some rs := by
  obtain ⟨rs, hr⟩ := go_tr (acc := [s]) h
  refine ⟨rs, ?_⟩
  show (if 0 ≤ s ∧ s ≤ b.n - 1 ∧ (is.map PyData.int).length ≤ 72 then b.tr s [s] (is.map .int) else none) = some rs
  rw [if_pos ⟨h0, by omega, by simpa using hl⟩]
  exact hr
/-! counting -/
def add1 (cs : List Int) (i : Int) : List Int := cs.set i.toNat (cs.getD i.toNat 0 + 1)
def addW (cs : List Int) (is : List Int) : List Int := is.foldl add1 cs
def addAll (cs : List Int) (ws : List (Int × List Int)) : List Int := ws.foldl (fun cs w => addW cs w.2) cs
@[simp] theorem add1_len (cs : List Int) (i : Int) : (add1 cs i).length = cs.length := by unfold add1; simp
@[simp] theorem addW_len : ∀ (is : List Int) (cs : List Int), (addW cs is).length = cs.length
  | [], cs => rfl
  | i :: is, cs => by show (addW (add1 cs i) is).length = _; rw [addW_len is]; simp
@[simp] theorem addAll_len : ∀ (ws : List (Int × List Int)) (cs : List Int), (addAll cs ws).length = cs.length
  | [], cs => rfl
  | w :: ws, cs => by show (addAll (addW cs w.2) ws).length = _; rw [addAll_len ws]; simp
theorem ixN_of {n : Nat} {i : Int} (h0 : 0 ≤ i) (h1 : i < n) : L2.ixN n i = some i.toNat := by unfold L2.ixN; rw [if_pos h0, if_pos h1]
theorem get_int {cs : List Int} {i : Int} (h0 : 0 ≤ i) (h1 : i < cs.length) : (cs.map PyData.int)[i.toNat]? = some (.int (cs.getD i.toNat 0)) := by
  have : i.toNat < cs.length := by omega
  rw [List.getElem?_map, List.getD_eq_getElem?_getD, List.getElem?_eq_getElem this]; rfl
theorem put1 {cs : List Int} {i : Int} {v0 v1 v3 v4 : Slot} (h0 : 0 ≤ i) (h1 : i < cs.length) :
    (sPutA (fun i j => i + j) 2 (eVar 5) (eC (.int 1))) [v0, v1, .own (cs.map .int), v3, v4, .val (.int i)] = .nx [v0, v1, .own ((add1 cs i).map .int), v3, v4, .val (.int i)] := by
  have hx : L2.ixN (cs.map PyData.int).length i = some i.toNat := by rw [List.length_map]; exact ixN_of h0 h1
  simp only [sPutA_eq, sg_succ, sg_zero, ownK_own, eVar_eq, slotV_val, Out.toS_ok, ixD_int, hx, optK_some, get_int h0 h1, intK_int, eC_eq, Out.bind_ok, intD_int, List.set_cons_succ, List.set_cons_zero, add1, List.map_set]
theorem loop1 {v0 v1 v3 v4 : Slot} : ∀ (is : List Int) (cs : List Int) (x5 : Slot), (∀ i ∈ is, 0 ≤ i ∧ i < cs.length) → ∃ x5', forS (.nm 5) (sPutA (fun i j => i + j) 2 (eVar 5) (eC (.int 1))) (is.map .int) [v0, v1, .own (cs.map .int), v3, v4, x5] = .nx [v0, v1, .own ((addW cs is).map .int), v3, v4, x5']
  | [], cs, x5, _ => ⟨x5, rfl⟩
  | i :: is, cs, x5, h => by
    obtain ⟨h0, h1⟩ := h i List.mem_cons_self
    obtain ⟨x5', e⟩ := loop1 is (add1 cs i) (.val (.int i)) fun j hj => by rw [add1_len]; exact h j (List.mem_cons_of_mem _ hj)
    refine ⟨x5', ?_⟩
    rw [List.map_cons, forS_cons (bindT_nm _)]
    have := put1 (v0 := v0) (v1 := v1) (v3 := v3) (v4 := v4) h0 h1
    simp only [List.set_cons_succ, List.set_cons_zero]
    rw [this]
    exact e
theorem loop2 {v0 v1 : Slot} : ∀ (ws : List (Int × List Int)) (cs : List Int) (x3 x4 x5 : Slot), (∀ w ∈ ws, ∀ i ∈ w.2, 0 ≤ i ∧ i < (cs.length : Int)) → ∃ x3' x4' x5', forS (.tp (.cons (.nm 3) (.cons (.nm 4) .nil))) (sFor (iSeq (eVar 4)) (.nm 5) (sPutA (fun i j => i + j) 2 (eVar 5) (eC (.int 1)))) (ws.map wD) [v0, v1, .own (cs.map .int), x3, x4, x5] = .nx [v0, v1, .own ((addAll cs ws).map .int), x3', x4', x5']
  | [], cs, x3, x4, x5, _ => ⟨x3, x4, x5, rfl⟩
  | w :: ws, cs, x3, x4, x5, h => by
    obtain ⟨y5, e1⟩ := loop1 (v0 := v0) (v1 := v1) (v3 := .val (.int w.1)) (v4 := .val (.tuple (w.2.map .int))) w.2 cs x5 (h w List.mem_cons_self)
    obtain ⟨x3', x4', x5', e2⟩ := loop2 (v0 := v0) (v1 := v1) ws (addW cs w.2) (.val (.int w.1)) (.val (.tuple (w.2.map .int))) y5 fun u hu => by rw [addW_len]; exact h u (List.mem_cons_of_mem _ hu)
    refine ⟨x3', x4', x5', ?_⟩
    have hb : bindT (.tp (.cons (.nm 3) (.cons (.nm 4) .nil))) (wD w) [v0, v1, .own (cs.map .int), x3, x4, x5] = .ok [v0, v1, .own (cs.map .int), .val (.int w.1), .val (.tuple (w.2.map .int)), x5] := by
      unfold wD
      simp
    rw [List.map_cons, forS_cons hb]
    have : sFor (iSeq (eVar 4)) (.nm 5) (sPutA (fun i j => i + j) 2 (eVar 5) (eC (.int 1))) [v0, v1, .own (cs.map .int), .val (.int w.1), .val (.tuple (w.2.map .int)), x5] = .nx [v0, v1, .own ((addW cs w.2).map .int), .val (.int w.1), .val (.tuple (w.2.map .int)), y5] := by
      simp only [sFor_eq, iSeq_eq, eVar_eq, sg_succ, sg_zero, slotV_val, Out.bind_ok, itemsD_tuple, Out.toS_ok]
      exact e1
    rw [this]
    exact e2
theorem rep1 {α : Type} (v : α) : ∀ n : Nat, (List.replicate n [v]).flatten = List.replicate n v
  | 0 => rfl
  | n + 1 => by rw [List.replicate_succ, List.flatten_cons, rep1 v n]; rfl
theorem zeros (n : Nat) : List.replicate n (PyData.int 0) = (List.replicate n (0 : Int)).map .int := by rw [List.map_replicate]
end Sem

/-! K12, M1: the moves of the law. -/
namespace Sem
open PySem VI
inductive Mv where
  | rev (f l : Nat)
  | ex (f l o e : Nat)
def mvD : Mv → D
  | .rev f l => .tuple [.str "reverse", .int (f : Nat), .int (l : Nat)]
  | .ex f l o e => .tuple [.str "exchange", .int (f : Nat), .int (l : Nat), .int (o : Nat), .int (e : Nat)]
def mid (is : List Int) (a c : Nat) : List Int := (is.drop a).take (c - a)
def behind (is : List Int) : Mv → List Int
  | .rev f l => is.take f ++ (mid is f l).reverse ++ is.drop l
  | .ex f l o e => is.take f ++ (mid is o e ++ mid is l o ++ mid is f l) ++ is.drop e
def Bld.two (b : Bld) (i : Int) : Bool := ((b.ds[i.toNat]?).map (·.two)).getD true
def R (rs : List Int) (i : Nat) : Int := rs.getD i 0
def rn (a c : Nat) : List Nat := List.range' a (c - a)
theorem mem_rn {a c i : Nat} : i ∈ rn a c ↔ a ≤ i ∧ i < c := by unfold rn; rw [List.mem_range'_1]; omega
def exs (rs : List Int) (f l o e : Nat) : List Mv := if R rs f = R rs o ∧ R rs l = R rs e then [.ex f l o e] else []
def revs (b : Bld) (rs is : List Int) (f l : Nat) : List Mv := if R rs f = R rs l ∧ (mid is f l).all b.two = true then [.rev f l] else []
def dueO (rs : List Int) (f l o : Nat) : List Mv := (rn (o + 1) rs.length).flatMap fun e => exs rs f l o e
def dueL (b : Bld) (rs is : List Int) (f l : Nat) : List Mv := revs b rs is f l ++ (rn l rs.length).flatMap fun o => dueO rs f l o
def dueF (b : Bld) (rs is : List Int) (f : Nat) : List Mv := (rn (f + 1) rs.length).flatMap fun l => dueL b rs is f l
def due (b : Bld) (rs is : List Int) : List Mv := (rn 0 rs.length).flatMap fun f => dueF b rs is f
/-- a move with what is behind it -/
def dueD (is : List Int) (m : Mv) : D := .tuple [mvD m, .tuple ((behind is m).map .int)]
/-! lengths -/
theorem flat_le {α β : Type} (g : α → List β) (k : Nat) : ∀ xs : List α, (∀ x ∈ xs, (g x).length ≤ k) → (xs.flatMap g).length ≤ xs.length * k
  | [], _ => by simp
  | x :: xs, h => by
    rw [List.flatMap_cons, List.length_append, List.length_cons, Nat.succ_mul]
    have := flat_le g k xs fun y hy => h y (List.mem_cons_of_mem _ hy)
    have := h x List.mem_cons_self
    omega
theorem rn_len (a c : Nat) : (rn a c).length = c - a := by unfold rn; simp
theorem exs_len (rs : List Int) (f l o e : Nat) : (exs rs f l o e).length ≤ 1 := by unfold exs; split <;> simp
theorem dueO_len {rs : List Int} (h : rs.length ≤ 8) (f l o : Nat) : (dueO rs f l o).length ≤ 8 := by
  have := flat_le (fun e => exs rs f l o e) 1 (rn (o + 1) rs.length) fun e _ => exs_len rs f l o e
  rw [rn_len] at this
  unfold dueO
  omega
theorem dueL_len {b : Bld} {rs is : List Int} (h : rs.length ≤ 8) (f l : Nat) : (dueL b rs is f l).length ≤ 65 := by
  have := flat_le (fun o => dueO rs f l o) 8 (rn l rs.length) fun o _ => dueO_len h f l o
  rw [rn_len] at this
  have h2 : (revs b rs is f l).length ≤ 1 := by unfold revs; split <;> simp
  unfold dueL
  rw [List.length_append]
  omega
theorem dueF_len {b : Bld} {rs is : List Int} (h : rs.length ≤ 8) (f : Nat) : (dueF b rs is f).length ≤ 520 := by
  have := flat_le (fun l => dueL b rs is f l) 65 (rn (f + 1) rs.length) fun l _ => dueL_len h f l
  rw [rn_len] at this
  unfold dueF
  omega
theorem due_len {b : Bld} {rs is : List Int} (h : rs.length ≤ 8) : (due b rs is).length ≤ 4160 := by
  have := flat_le (fun f => dueF b rs is f) 520 (rn 0 rs.length) fun f _ => dueF_len h f
  rw [rn_len] at this
  unfold due
  omega
theorem room_at {rs : List Int} {i : Nat} (h : i < rs.length) : L2.atI (rs.map PyData.int) (i : Int) = some (.int (R rs i)) := L2.atI_nat (by
  rw [List.getElem?_map, List.getElem?_eq_getElem h]
  unfold R
  rw [List.getD_eq_getElem?_getD, List.getElem?_eq_getElem h]
  rfl)
theorem big {n : Nat} (h : n ≤ 8000) : n ≤ sizeLine := Nat.le_trans h (by decide)
theorem big' {n : Nat} (h : n < 8000) : n < sizeLine := Nat.lt_of_lt_of_le h (by decide)
/-- range(a, n) -/
theorem rng2_rn {a c : Nat} (h : c ≤ 900) (h2 : a ≤ 900) : rng2 [.int (a : Int), .int (c : Int)] = .ok ((rn a c).map fun (i : Nat) => PyData.int (i : Int)) := by
  rw [rng2_of (by omega) (by omega) (by omega) (by omega), rangeL_nat, rn, show ((c : Int) - (a : Int)).toNat = c - a by omega]
theorem rng1_rn {c : Nat} (h : c ≤ 900) : rng1 [.int (c : Int)] = .ok ((rn 0 c).map fun (i : Nat) => PyData.int (i : Int)) := by
  rw [rng1_of (by omega) (by omega), rn, show (c : Int).toNat = c by omega]
  exact congrArg Out.ok (rangeL_nat 0 c)
end Sem

/-! K12, M2: _law_moves. -/
namespace Sem
open PySem VI
def mkE (b : Bld) (s : D) (rs is : List Int) (acc : List D) (v5 v6 v7 v8 v9 v10 : Slot) : VI.Env := [.val (bD b), .val s, .val (.list (rs.map .int)), .val (.tuple (is.map .int)), .own acc, v5, v6, v7, v8, v9, v10, .un]
abbrev iS (i : Nat) : Slot := .val (.int (i : Int))
abbrev tD (l : List Int) : D := .tuple (l.map .int)
section
variable {b : Bld} {s : D} {rs is : List Int}
theorem mid_len {a c : Nat} : (mid is a c).length ≤ is.length := by unfold mid; simp; omega
/-- the innermost turn -/
theorem stepE (hl : rs.length = is.length + 1) (h8 : rs.length ≤ 8) {f l o e : Nat} (hf : f < l) (hlo : l ≤ o) (hoe : o < e) (he : e < rs.length) (acc : List D) (hacc : acc.length < 8000) (x9 x10 : Slot) :
    ∃ y9 y10, stepS (.nm 9) (sIf (bAnd (bCm .eq (e2 idxD (ePk 2) (ePk 5)) (e2 idxD (ePk 2) (ePk 8))) (bCm .eq (e2 idxD (ePk 2) (ePk 6)) (e2 idxD (ePk 2) (ePk 9)))) (sSeq (sSet 10 (e2 addD (e2 addD (eSl (ePk 3) (oSome (ePk 8)) (oSome (ePk 9))) (eSl (ePk 3) (oSome (ePk 6)) (oSome (ePk 8)))) (ePk 7)))
  (sApp 4 (eTup (aCons (eTup (aCons (eC (.str "exchange")) (aCons (eVar 5) (aCons (eVar 6) (aCons (eVar 8) (aCons (eVar 9) aNil)))))) (aCons (e2 addD (e2 addD (eSl (ePk 3) oNone (oSome (ePk 5))) (ePk 10)) (eSl (ePk 3) (oSome (ePk 9)) oNone)) aNil))))) sNil) (.int (e : Int)) (mkE b s rs is acc (iS f) (iS l) (.val (tD (mid is f l))) (iS o) x9 x10) = .nx (mkE b s rs is (acc ++ (exs rs f l o e).map (dueD is)) (iS f) (iS l) (.val (tD (mid is f l))) (iS o) y9 y10) := by
  have rf := room_at (rs := rs) (i := f) (by omega)
  have rl := room_at (rs := rs) (i := l) (by omega)
  have ro := room_at (rs := rs) (i := o) (by omega)
  have re := room_at (rs := rs) (i := e) he
  unfold exs mkE
  by_cases c1 : R rs f = R rs o
  · by_cases c2 : R rs l = R rs e
    · have k1 : cutD (is.map PyData.int) (some (o : Int)) (some (e : Int)) = (mid is o e).map .int := cut_mid _ _ (by omega) (by omega)
      have k2 : cutD (is.map PyData.int) (some (l : Int)) (some (o : Int)) = (mid is l o).map .int := cut_mid _ _ (by omega) (by omega)
      have k3 : cutD (is.map PyData.int) none (some (f : Int)) = (is.take f).map .int := cut_to _ _ (by omega)
      have k4 : cutD (is.map PyData.int) (some (e : Int)) none = (is.drop e).map .int := cut_from _ _ (by omega)
      have n1 := mid_len (is := is) (a := o) (c := e)
      have n2 := mid_len (is := is) (a := l) (c := o)
      have n3 := mid_len (is := is) (a := f) (c := l)
      have n4 : (is.take f).length ≤ is.length := by simp; omega
      have n5 : (is.drop e).length ≤ is.length := by simp
      have hb : behind is (.ex f l o e) = is.take f ++ (mid is o e ++ mid is l o ++ mid is f l) ++ is.drop e := rfl
      generalize mid is o e = A at *
      generalize mid is l o = B at *
      generalize mid is f l = C at *
      generalize is.take f = T at *
      generalize is.drop e = U at *
      have s1 : A.length + B.length ≤ sizeLine := big (by omega)
      have s2 : A.length + (B.length + C.length) ≤ sizeLine := big (by omega)
      have s3 : T.length + (A.length + (B.length + C.length)) ≤ sizeLine := big (by omega)
      have s4 : T.length + (A.length + (B.length + (C.length + U.length))) ≤ sizeLine := big (by omega)
      have s2' : A.length + B.length + C.length ≤ sizeLine := big (by omega)
      have s4' : T.length + (A.length + (B.length + C.length)) + U.length ≤ sizeLine := big (by omega)
      have s5 := big' hacc
      refine ⟨iS e, .val (tD (A ++ B ++ C)), ?_⟩
      simp [rf, rl, ro, re, c1, c2, k1, k2, k3, k4, s1, s2, s2', s3, s4, s4', s5, dueD, mvD, hb]
    · refine ⟨iS e, x10, ?_⟩
      simp [rf, rl, ro, re, c1, c2]
  · refine ⟨iS e, x10, ?_⟩
    simp [rf, rl, ro, re, c1]
theorem stepO (hl : rs.length = is.length + 1) (h8 : rs.length ≤ 8) {f l o : Nat} (hf : f < l) (hlo : l ≤ o) (ho : o < rs.length) (acc : List D) (hacc : acc.length + (dueO rs f l o).length ≤ 7999) (x8 x9 x10 : Slot) :
    ∃ y8 y9 y10, stepS (.nm 8) (sFor (iRg rng2 (aCons (e2 addD (ePk 8) (eC (.int 1))) (aCons (eCall lenG (aCons (ePk 2) aNil)) aNil))) (.nm 9) (sIf (bAnd (bCm .eq (e2 idxD (ePk 2) (ePk 5)) (e2 idxD (ePk 2) (ePk 8))) (bCm .eq (e2 idxD (ePk 2) (ePk 6)) (e2 idxD (ePk 2) (ePk 9)))) (sSeq (sSet 10 (e2 addD (e2 addD (eSl (ePk 3) (oSome (ePk 8)) (oSome (ePk 9))) (eSl (ePk 3) (oSome (ePk 6)) (oSome (ePk 8)))) (ePk 7)))
  (sApp 4 (eTup (aCons (eTup (aCons (eC (.str "exchange")) (aCons (eVar 5) (aCons (eVar 6) (aCons (eVar 8) (aCons (eVar 9) aNil)))))) (aCons (e2 addD (e2 addD (eSl (ePk 3) oNone (oSome (ePk 5))) (ePk 10)) (eSl (ePk 3) (oSome (ePk 9)) oNone)) aNil))))) sNil)) (.int (o : Int)) (mkE b s rs is acc (iS f) (iS l) (.val (tD (mid is f l))) x8 x9 x10) = .nx (mkE b s rs is (acc ++ (dueO rs f l o).map (dueD is)) (iS f) (iS l) (.val (tD (mid is f l))) y8 y9 y10) := by
  have hr : rng2 [.int ((o : Int) + 1), .int (rs.length : Int)] = .ok ((rn (o + 1) rs.length).map fun (i : Nat) => PyData.int (i : Int)) := rng2_rn (a := o + 1) (by omega) (by omega)
  obtain ⟨⟨y9, y10⟩, e⟩ := forS_app (t := .nm 9) (f := (sIf (bAnd (bCm .eq (e2 idxD (ePk 2) (ePk 5)) (e2 idxD (ePk 2) (ePk 8))) (bCm .eq (e2 idxD (ePk 2) (ePk 6)) (e2 idxD (ePk 2) (ePk 9)))) (sSeq (sSet 10 (e2 addD (e2 addD (eSl (ePk 3) (oSome (ePk 8)) (oSome (ePk 9))) (eSl (ePk 3) (oSome (ePk 6)) (oSome (ePk 8)))) (ePk 7)))
  (sApp 4 (eTup (aCons (eTup (aCons (eC (.str "exchange")) (aCons (eVar 5) (aCons (eVar 6) (aCons (eVar 8) (aCons (eVar 9) aNil)))))) (aCons (e2 addD (e2 addD (eSl (ePk 3) oNone (oSome (ePk 5))) (ePk 10)) (eSl (ePk 3) (oSome (ePk 9)) oNone)) aNil))))) sNil)) (fun (i : Nat) => PyData.int (i : Int)) (fun acc (j : Slot × Slot) => mkE b s rs is acc (iS f) (iS l) (.val (tD (mid is f l))) (iS o) j.1 j.2) (fun e => (exs rs f l o e).map (dueD is)) 7999
    (rn (o + 1) rs.length) acc (x9, x10) (by rw [← List.map_flatMap, List.length_map]; exact hacc) (fun e he acc j ha => by
      obtain ⟨he1, he2⟩ := mem_rn.mp he
      obtain ⟨z9, z10, q⟩ := stepE (b := b) (s := s) hl h8 hf hlo (show o < e by omega) he2 acc (by omega) j.1 j.2
      exact ⟨(z9, z10), q⟩)
  rw [← List.map_flatMap] at e
  refine ⟨iS o, y9, y10, ?_⟩
  unfold mkE at e ⊢
  simp only [stepS_eq, bindT_nm, envK_ok, List.set_cons_succ, List.set_cons_zero]
  simp [hr, -stepS_eq]
  exact congrArg ctK e
def pickO (b : Bld) : D → Option D
  | .int i => if b.two i = true then none else some (.int i)
  | _ => none
theorem pickO_ints (b : Bld) : ∀ l : List Int, (l.map PyData.int).filterMap (pickO b) = (l.filter fun i => !b.two i).map .int
  | [] => rfl
  | i :: l => by
    rw [List.map_cons, List.filterMap_cons, pickO_ints b l, List.filter_cons]
    unfold pickO
    dsimp only
    by_cases h : b.two i = true
    · rw [if_pos h, if_neg (by rw [h]; decide)]
    · rw [if_neg h, if_pos (by simpa using h)]; rfl
theorem filt_nil (b : Bld) (l : List Int) : decide ((l.filter fun i => !b.two i) = []) = l.all b.two := by
  rw [Bool.eq_iff_iff, decide_eq_true_iff, List.filter_eq_nil_iff, List.all_eq_true]
  exact ⟨fun h i hi => by have := h i hi; simpa using this, fun h i hi => by simp [h i hi]⟩
theorem door_two {b : Bld} {i : Int} (h0 : 0 ≤ i) (h1 : i < b.ds.length) : ∃ d : Door, L2.atI (b.ds.map doorD) i = some (.tuple [.int d.a, .int d.b, .str (kindS d.two)]) ∧ b.two i = d.two := by
  obtain ⟨j, rfl⟩ := Int.eq_ofNat_of_zero_le h0
  have hj : j < b.ds.length := by omega
  refine ⟨b.ds[j], door_at (List.getElem?_eq_getElem hj), ?_⟩
  unfold Bld.two
  rw [Int.toNat_natCast, List.getElem?_eq_getElem hj]
  rfl
theorem mid_mem {a c : Nat} {i : Int} (h : i ∈ mid is a c) : i ∈ is := List.mem_of_mem_drop (List.mem_of_mem_take h)
theorem comp_law {v1 v2 v3 v4 v5 v6 v8 v9 v10 v11 : Slot} {l : List Int} (hl : l.length ≤ 1000) (hd : ∀ i ∈ l, 0 ≤ i ∧ i < (b.ds.length : Int)) :
    (fLc (iSeq (ePk 7)) (.nm 11) [11] (bCm .eq (e2 idxD (e2 idxD (e2 idxD (ePk 0) (eC (.int 1))) (ePk 11)) (eC (.int 2))) (eC (.str "one-way"))) (eVar 11)) [.val (bD b), v1, v2, v3, v4, v5, v6, .val (tD l), v8, v9, v10, v11] = .ok ((l.filter fun i => !b.two i).map .int) := by
  rw [← pickO_ints]
  refine fLc_spec (pickO b) (by simp) (by rw [List.length_map]; exact le_size hl) fun d hd' => ?_
  obtain ⟨i, hi, rfl⟩ := List.mem_map.mp hd'
  obtain ⟨h0, h1⟩ := hd i hi
  obtain ⟨dr, e, et⟩ := door_two h0 h1
  have i1 : idxD (bD b) (.int 1) = .ok (.tuple (b.ds.map doorD)) := rfl
  refine ⟨_, bindT_nm _, ?_⟩
  unfold pickO
  dsimp only
  cases ht : dr.two with
  | true =>
    rw [ht] at et
    rw [if_pos et]
    have k := kind_one true
    rw [ht] at e
    simp [i1, e, k]
  | false =>
    rw [ht] at et
    rw [if_neg (by rw [et]; decide)]
    have k := kind_one false
    rw [ht] at e
    simp [i1, e, k]
theorem cm_nil (l : List Int) : cmD .eq (.list (l.map .int)) (.list []) = .ok (decide (l = [])) := by
  rw [cm_eq_of (shB_list_ints l) rfl]
  exact congrArg Out.ok (eqv_ints l [])
theorem stepL (hl : rs.length = is.length + 1) (h8 : rs.length ≤ 8) (hd : ∀ i ∈ is, 0 ≤ i ∧ i < (b.ds.length : Int)) {f l : Nat} (hf : f < l) (hlo : l < rs.length) (acc : List D) (hacc : acc.length + (dueL b rs is f l).length ≤ 7999) (x6 x7 x8 x9 x10 : Slot) :
    ∃ y6 y7 y8 y9 y10, stepS (.nm 6) (sSeq (sSet 7 (eSl (ePk 3) (oSome (ePk 5)) (oSome (ePk 6))))
  (sSeq (sIf (bAnd (bCm .eq (e2 idxD (ePk 2) (ePk 5)) (e2 idxD (ePk 2) (ePk 6))) (bCm .eq (eL (fLc (iSeq (ePk 7)) (.nm 11) [11] (bCm .eq (e2 idxD (e2 idxD (e2 idxD (ePk 0) (eC (.int 1))) (ePk 11)) (eC (.int 2))) (eC (.str "one-way"))) (eVar 11))) (eL (fLst aNil)))) (sApp 4 (eTup (aCons (eTup (aCons (eC (.str "reverse")) (aCons (eVar 5) (aCons (eVar 6) aNil)))) (aCons (e2 addD (e2 addD (eSl (ePk 3) oNone (oSome (ePk 5))) (e1 revO (ePk 7))) (eSl (ePk 3) (oSome (ePk 6)) oNone)) aNil)))) sNil)
  (sFor (iRg rng2 (aCons (ePk 6) (aCons (eCall lenG (aCons (ePk 2) aNil)) aNil))) (.nm 8) (sFor (iRg rng2 (aCons (e2 addD (ePk 8) (eC (.int 1))) (aCons (eCall lenG (aCons (ePk 2) aNil)) aNil))) (.nm 9) (sIf (bAnd (bCm .eq (e2 idxD (ePk 2) (ePk 5)) (e2 idxD (ePk 2) (ePk 8))) (bCm .eq (e2 idxD (ePk 2) (ePk 6)) (e2 idxD (ePk 2) (ePk 9)))) (sSeq (sSet 10 (e2 addD (e2 addD (eSl (ePk 3) (oSome (ePk 8)) (oSome (ePk 9))) (eSl (ePk 3) (oSome (ePk 6)) (oSome (ePk 8)))) (ePk 7)))
  (sApp 4 (eTup (aCons (eTup (aCons (eC (.str "exchange")) (aCons (eVar 5) (aCons (eVar 6) (aCons (eVar 8) (aCons (eVar 9) aNil)))))) (aCons (e2 addD (e2 addD (eSl (ePk 3) oNone (oSome (ePk 5))) (ePk 10)) (eSl (ePk 3) (oSome (ePk 9)) oNone)) aNil))))) sNil))))) (.int (l : Int)) (mkE b s rs is acc (iS f) x6 x7 x8 x9 x10) = .nx (mkE b s rs is (acc ++ (dueL b rs is f l).map (dueD is)) (iS f) y6 y7 y8 y9 y10) := by
  have hr : rng2 [.int (l : Int), .int (rs.length : Int)] = .ok ((rn l rs.length).map fun (i : Nat) => PyData.int (i : Int)) := rng2_rn (by omega) (by omega)
  have ha : acc.length + (revs b rs is f l).length + ((rn l rs.length).flatMap fun o => dueO rs f l o).length ≤ 7999 := by
    unfold dueL at hacc
    rw [List.length_append] at hacc
    omega
  have lo : ∀ (acc : List D) (x8 x9 x10 : Slot), acc.length + ((rn l rs.length).flatMap fun o => dueO rs f l o).length ≤ 7999 → ∃ y8 y9 y10, forS (.nm 8) (sFor (iRg rng2 (aCons (e2 addD (ePk 8) (eC (.int 1))) (aCons (eCall lenG (aCons (ePk 2) aNil)) aNil))) (.nm 9) (sIf (bAnd (bCm .eq (e2 idxD (ePk 2) (ePk 5)) (e2 idxD (ePk 2) (ePk 8))) (bCm .eq (e2 idxD (ePk 2) (ePk 6)) (e2 idxD (ePk 2) (ePk 9)))) (sSeq (sSet 10 (e2 addD (e2 addD (eSl (ePk 3) (oSome (ePk 8)) (oSome (ePk 9))) (eSl (ePk 3) (oSome (ePk 6)) (oSome (ePk 8)))) (ePk 7)))
  (sApp 4 (eTup (aCons (eTup (aCons (eC (.str "exchange")) (aCons (eVar 5) (aCons (eVar 6) (aCons (eVar 8) (aCons (eVar 9) aNil)))))) (aCons (e2 addD (e2 addD (eSl (ePk 3) oNone (oSome (ePk 5))) (ePk 10)) (eSl (ePk 3) (oSome (ePk 9)) oNone)) aNil))))) sNil)) ((rn l rs.length).map fun (i : Nat) => PyData.int (i : Int)) (mkE b s rs is acc (iS f) (iS l) (.val (tD (mid is f l))) x8 x9 x10) = .nx (mkE b s rs is (acc ++ ((rn l rs.length).flatMap fun o => dueO rs f l o).map (dueD is)) (iS f) (iS l) (.val (tD (mid is f l))) y8 y9 y10) := fun acc x8 x9 x10 ha => by
    obtain ⟨⟨y8, y9, y10⟩, e⟩ := forS_app (t := .nm 8) (f := (sFor (iRg rng2 (aCons (e2 addD (ePk 8) (eC (.int 1))) (aCons (eCall lenG (aCons (ePk 2) aNil)) aNil))) (.nm 9) (sIf (bAnd (bCm .eq (e2 idxD (ePk 2) (ePk 5)) (e2 idxD (ePk 2) (ePk 8))) (bCm .eq (e2 idxD (ePk 2) (ePk 6)) (e2 idxD (ePk 2) (ePk 9)))) (sSeq (sSet 10 (e2 addD (e2 addD (eSl (ePk 3) (oSome (ePk 8)) (oSome (ePk 9))) (eSl (ePk 3) (oSome (ePk 6)) (oSome (ePk 8)))) (ePk 7)))
  (sApp 4 (eTup (aCons (eTup (aCons (eC (.str "exchange")) (aCons (eVar 5) (aCons (eVar 6) (aCons (eVar 8) (aCons (eVar 9) aNil)))))) (aCons (e2 addD (e2 addD (eSl (ePk 3) oNone (oSome (ePk 5))) (ePk 10)) (eSl (ePk 3) (oSome (ePk 9)) oNone)) aNil))))) sNil))) (fun (i : Nat) => PyData.int (i : Int)) (fun acc (j : Slot × Slot × Slot) => mkE b s rs is acc (iS f) (iS l) (.val (tD (mid is f l))) j.1 j.2.1 j.2.2) (fun o => (dueO rs f l o).map (dueD is)) 7999
      (rn l rs.length) acc (x8, x9, x10) (by rw [← List.map_flatMap, List.length_map]; exact ha) (fun o ho acc j ha => by
        obtain ⟨ho1, ho2⟩ := mem_rn.mp ho
        obtain ⟨z8, z9, z10, q⟩ := stepO (b := b) (s := s) hl h8 hf ho1 ho2 acc (by rw [List.length_map] at ha; exact ha) j.1 j.2.1 j.2.2
        exact ⟨(z8, z9, z10), q⟩)
    rw [← List.map_flatMap] at e
    exact ⟨y8, y9, y10, e⟩
  have rf := room_at (rs := rs) (i := f) (by omega)
  have rl := room_at (rs := rs) (i := l) (by omega)
  have k0 : cutD (is.map PyData.int) (some (f : Int)) (some (l : Int)) = (mid is f l).map .int := cut_mid _ _ (by omega) (by omega)
  have k3 : cutD (is.map PyData.int) none (some (f : Int)) = (is.take f).map .int := cut_to _ _ (by omega)
  have k4 : cutD (is.map PyData.int) (some (l : Int)) none = (is.drop l).map .int := cut_from _ _ (by omega)
  have n3 := mid_len (is := is) (a := f) (c := l)
  have n4 : (is.take f).length ≤ is.length := by simp; omega
  have n5 : (is.drop l).length ≤ is.length := by simp
  have hb : behind is (.rev f l) = is.take f ++ (mid is f l).reverse ++ is.drop l := rfl
  have hC := @comp_law b (.val s) (.val (.list (rs.map .int))) (.val (tD is)) (.own acc) (iS f) (iS l) x8 x9 x10 .un (mid is f l) (by omega) (fun i hi => hd i (mid_mem hi))
  have hN := cm_nil ((mid is f l).filter fun i => !b.two i)
  rw [filt_nil] at hN
  unfold dueL revs at *
  by_cases c1 : R rs f = R rs l
  · by_cases c2 : (mid is f l).all b.two = true
    · rw [if_pos ⟨c1, c2⟩] at ha ⊢
      obtain ⟨y8, y9, y10, e⟩ := lo (acc ++ [dueD is (.rev f l)]) x8 x9 x10 (by rw [List.length_append]; exact ha)
      refine ⟨iS l, .val (tD (mid is f l)), y8, y9, y10, ?_⟩
      rw [c2] at hN
      rw [List.map_append, List.map_cons, List.map_nil, ← List.append_assoc]
      generalize (mid is f l) = C at *
      generalize is.take f = T at *
      generalize is.drop l = U at *
      have s1 : T.length + C.length ≤ sizeLine := big (by omega)
      have s2 : T.length + (C.length + U.length) ≤ sizeLine := big (by omega)
      have s2' : T.length + C.length + U.length ≤ sizeLine := big (by omega)
      have s5 : acc.length < sizeLine := big' (by omega)
      unfold mkE at e ⊢
      unfold dueD mvD at e ⊢
      rw [hb] at e ⊢
      simp [hr, rf, rl, c1, k0, k3, k4, hC, hN, s1, s2, s2', s5]
      simp at e
      exact congrArg ctK e
    · rw [if_neg (fun h => c2 h.2)] at ha ⊢
      obtain ⟨y8, y9, y10, e⟩ := lo acc x8 x9 x10 (by omega)
      refine ⟨iS l, .val (tD (mid is f l)), y8, y9, y10, ?_⟩
      rw [Bool.not_eq_true] at c2
      rw [c2] at hN
      unfold mkE at e ⊢
      simp [hr, rf, rl, c1, k0, hC, hN]
      exact congrArg ctK e
  · rw [if_neg (fun h => c1 h.1)] at ha ⊢
    obtain ⟨y8, y9, y10, e⟩ := lo acc x8 x9 x10 (by omega)
    refine ⟨iS l, .val (tD (mid is f l)), y8, y9, y10, ?_⟩
    unfold mkE at e ⊢
    simp [hr, rf, rl, c1, k0]
    exact congrArg ctK e
theorem stepF (hl : rs.length = is.length + 1) (h8 : rs.length ≤ 8) (hd : ∀ i ∈ is, 0 ≤ i ∧ i < (b.ds.length : Int)) {f : Nat} (hf : f < rs.length) (acc : List D) (hacc : acc.length + (dueF b rs is f).length ≤ 7999) (x5 x6 x7 x8 x9 x10 : Slot) :
    ∃ y5 y6 y7 y8 y9 y10, stepS (.nm 5) (sFor (iRg rng2 (aCons (e2 addD (ePk 5) (eC (.int 1))) (aCons (eCall lenG (aCons (ePk 2) aNil)) aNil))) (.nm 6) (sSeq (sSet 7 (eSl (ePk 3) (oSome (ePk 5)) (oSome (ePk 6))))
  (sSeq (sIf (bAnd (bCm .eq (e2 idxD (ePk 2) (ePk 5)) (e2 idxD (ePk 2) (ePk 6))) (bCm .eq (eL (fLc (iSeq (ePk 7)) (.nm 11) [11] (bCm .eq (e2 idxD (e2 idxD (e2 idxD (ePk 0) (eC (.int 1))) (ePk 11)) (eC (.int 2))) (eC (.str "one-way"))) (eVar 11))) (eL (fLst aNil)))) (sApp 4 (eTup (aCons (eTup (aCons (eC (.str "reverse")) (aCons (eVar 5) (aCons (eVar 6) aNil)))) (aCons (e2 addD (e2 addD (eSl (ePk 3) oNone (oSome (ePk 5))) (e1 revO (ePk 7))) (eSl (ePk 3) (oSome (ePk 6)) oNone)) aNil)))) sNil)
  (sFor (iRg rng2 (aCons (ePk 6) (aCons (eCall lenG (aCons (ePk 2) aNil)) aNil))) (.nm 8) (sFor (iRg rng2 (aCons (e2 addD (ePk 8) (eC (.int 1))) (aCons (eCall lenG (aCons (ePk 2) aNil)) aNil))) (.nm 9) (sIf (bAnd (bCm .eq (e2 idxD (ePk 2) (ePk 5)) (e2 idxD (ePk 2) (ePk 8))) (bCm .eq (e2 idxD (ePk 2) (ePk 6)) (e2 idxD (ePk 2) (ePk 9)))) (sSeq (sSet 10 (e2 addD (e2 addD (eSl (ePk 3) (oSome (ePk 8)) (oSome (ePk 9))) (eSl (ePk 3) (oSome (ePk 6)) (oSome (ePk 8)))) (ePk 7)))
  (sApp 4 (eTup (aCons (eTup (aCons (eC (.str "exchange")) (aCons (eVar 5) (aCons (eVar 6) (aCons (eVar 8) (aCons (eVar 9) aNil)))))) (aCons (e2 addD (e2 addD (eSl (ePk 3) oNone (oSome (ePk 5))) (ePk 10)) (eSl (ePk 3) (oSome (ePk 9)) oNone)) aNil))))) sNil)))))) (.int (f : Int)) (mkE b s rs is acc x5 x6 x7 x8 x9 x10) = .nx (mkE b s rs is (acc ++ (dueF b rs is f).map (dueD is)) y5 y6 y7 y8 y9 y10) := by
  have hr : rng2 [.int ((f : Int) + 1), .int (rs.length : Int)] = .ok ((rn (f + 1) rs.length).map fun (i : Nat) => PyData.int (i : Int)) := rng2_rn (a := f + 1) (by omega) (by omega)
  obtain ⟨⟨y6, y7, y8, y9, y10⟩, e⟩ := forS_app (t := .nm 6) (f := (sSeq (sSet 7 (eSl (ePk 3) (oSome (ePk 5)) (oSome (ePk 6))))
  (sSeq (sIf (bAnd (bCm .eq (e2 idxD (ePk 2) (ePk 5)) (e2 idxD (ePk 2) (ePk 6))) (bCm .eq (eL (fLc (iSeq (ePk 7)) (.nm 11) [11] (bCm .eq (e2 idxD (e2 idxD (e2 idxD (ePk 0) (eC (.int 1))) (ePk 11)) (eC (.int 2))) (eC (.str "one-way"))) (eVar 11))) (eL (fLst aNil)))) (sApp 4 (eTup (aCons (eTup (aCons (eC (.str "reverse")) (aCons (eVar 5) (aCons (eVar 6) aNil)))) (aCons (e2 addD (e2 addD (eSl (ePk 3) oNone (oSome (ePk 5))) (e1 revO (ePk 7))) (eSl (ePk 3) (oSome (ePk 6)) oNone)) aNil)))) sNil)
  (sFor (iRg rng2 (aCons (ePk 6) (aCons (eCall lenG (aCons (ePk 2) aNil)) aNil))) (.nm 8) (sFor (iRg rng2 (aCons (e2 addD (ePk 8) (eC (.int 1))) (aCons (eCall lenG (aCons (ePk 2) aNil)) aNil))) (.nm 9) (sIf (bAnd (bCm .eq (e2 idxD (ePk 2) (ePk 5)) (e2 idxD (ePk 2) (ePk 8))) (bCm .eq (e2 idxD (ePk 2) (ePk 6)) (e2 idxD (ePk 2) (ePk 9)))) (sSeq (sSet 10 (e2 addD (e2 addD (eSl (ePk 3) (oSome (ePk 8)) (oSome (ePk 9))) (eSl (ePk 3) (oSome (ePk 6)) (oSome (ePk 8)))) (ePk 7)))
  (sApp 4 (eTup (aCons (eTup (aCons (eC (.str "exchange")) (aCons (eVar 5) (aCons (eVar 6) (aCons (eVar 8) (aCons (eVar 9) aNil)))))) (aCons (e2 addD (e2 addD (eSl (ePk 3) oNone (oSome (ePk 5))) (ePk 10)) (eSl (ePk 3) (oSome (ePk 9)) oNone)) aNil))))) sNil)))))) (fun (i : Nat) => PyData.int (i : Int)) (fun acc (j : Slot × Slot × Slot × Slot × Slot) => mkE b s rs is acc (iS f) j.1 j.2.1 j.2.2.1 j.2.2.2.1 j.2.2.2.2) (fun l => (dueL b rs is f l).map (dueD is)) 7999
    (rn (f + 1) rs.length) acc (x6, x7, x8, x9, x10) (by rw [← List.map_flatMap, List.length_map]; exact hacc) (fun l hl' acc j ha => by
      obtain ⟨ho1, ho2⟩ := mem_rn.mp hl'
      obtain ⟨z6, z7, z8, z9, z10, q⟩ := stepL (b := b) (s := s) hl h8 hd (show f < l by omega) ho2 acc (by rw [List.length_map] at ha; exact ha) j.1 j.2.1 j.2.2.1 j.2.2.2.1 j.2.2.2.2
      exact ⟨(z6, z7, z8, z9, z10), q⟩)
  rw [← List.map_flatMap] at e
  refine ⟨iS f, y6, y7, y8, y9, y10, ?_⟩
  unfold mkE at e ⊢
  simp only [stepS_eq, bindT_nm, envK_ok, List.set_cons_succ, List.set_cons_zero]
  simp [hr, -stepS_eq]
  exact congrArg ctK e
end
end Sem

/-! K12, M3: sorting; _law_moves. -/
namespace Sem
open PySem VI
theorem alike_ints : ∀ xs ys : List Int, PySem.W.alikeAll (xs.map .int) (ys.map .int) = true
  | [], _ => by simp [PySem.W.alikeAll]
  | _ :: _, [] => by simp [PySem.W.alikeAll]
  | x :: xs, y :: ys => by simp [PySem.W.alikeAll, PySem.W.alike, alike_ints xs ys]
theorem mv_ints (m : Mv) : ∃ (x : Str) (l : List Int), mvD m = .tuple (.str x :: l.map .int) := by
  cases m with
  | rev f l => exact ⟨_, [(f : Int), l], rfl⟩
  | ex f l o e => exact ⟨_, [(f : Int), l, o, e], rfl⟩
theorem alike_mv (m m' : Mv) : PySem.W.alike (mvD m) (mvD m') = true := by
  obtain ⟨x, l, e⟩ := mv_ints m
  obtain ⟨x', l', e'⟩ := mv_ints m'
  rw [e, e']
  simp [PySem.W.alikeAll, PySem.W.alike, alike_ints]
theorem alike_due (is : List Int) (m m' : Mv) : PySem.W.alike (dueD is m) (dueD is m') = true := by
  unfold dueD
  simp [PySem.W.alikeAll, PySem.W.alike, alike_ints, alike_mv]
theorem dep_mv (m : Mv) : (mvD m).depth ≤ 2 := by
  obtain ⟨x, l, e⟩ := mv_ints m
  rw [e]
  show PyData.depthAll _ + 1 ≤ 2
  simp [PyData.depthAll, PyData.depth]
  rw [dep_ints]; omega
theorem dep_due (is : List Int) (m : Mv) : (dueD is m).depth ≤ 60 := by
  unfold dueD
  have h1 := dep_mv m
  have h2 := dep_ints (behind is m)
  simp [PyData.depthAll, PyData.depth]
  omega
theorem all_map {α : Type} {g : α → D} {p : D → Bool} (h : ∀ a, p (g a) = true) (l : List α) : (l.map g).all p = true := List.all_eq_true.mpr fun d hd => by
  obtain ⟨a, _, rfl⟩ := List.mem_map.mp hd
  exact h a
theorem sortOK_of {α : Type} (g : α → D) (l : List α) (h1 : ∀ a a', PySem.W.alike (g a) (g a') = true) (h2 : ∀ a, ∃ x r, g a = .tuple (x :: r)) (h3 : ∀ a, (g a).depth ≤ 60) : sortOK (l.map g) = true := by
  unfold sortOK
  rw [Bool.and_eq_true_iff, Bool.and_eq_true_iff]
  refine ⟨⟨all_map (fun a => all_map (fun a' => h1 a a') l) l, Bool.or_eq_true_iff.mpr (.inl (all_map (fun a => ?_) l))⟩, all_map (fun a => decide_eq_true (h3 a)) l⟩
  obtain ⟨x, r, e⟩ := h2 a
  rw [e]
theorem sortOK_due (is : List Int) (l : List Mv) : sortOK (l.map (dueD is)) = true := sortOK_of _ l (alike_due is) (fun a => ⟨_, _, rfl⟩) (dep_due is)
theorem sortOK_mv (l : List Mv) : sortOK (l.map mvD) = true := sortOK_of _ l alike_mv (fun a => by obtain ⟨x, l, e⟩ := mv_ints a; exact ⟨_, _, e⟩) fun a => Nat.le_trans (dep_mv a) (by decide)
theorem sortOK_ints (l : List Int) : sortOK (l.map .int) = true := by
  unfold sortOK
  rw [Bool.and_eq_true_iff, Bool.and_eq_true_iff]
  refine ⟨⟨all_map (fun a => all_map (fun a' => ?_) l) l, Bool.or_eq_true_iff.mpr (.inr (all_map (fun a => ?_) l))⟩, all_map (fun a => ?_) l⟩
  · rfl
  · rfl
  · rfl
end Sem

/-! K12, M4: sorting the moves. -/
namespace Sem
open PySem VI PyProof.Rows
abbrev LX := PyProof.Rows.lexLt PyProof.Rows.itemOrd
abbrev TK := Int ⊕ List Nat
theorem lx_self (x : TK) (a b : List TK) : LX (x :: a) (x :: b) = LX a b := lex_self (O := PyProof.Rows.itemOrd) x a b
theorem lx_diff {x y : TK} (h : x ≠ y) (a b a' b' : List TK) : LX (x :: a) (y :: b) = LX (x :: a') (y :: b') := (lex_diff (O := PyProof.Rows.itemOrd) h).trans (lex_diff (O := PyProof.Rows.itemOrd) h).symm
theorem lx_len : ∀ (p q a b : List TK), p.length = q.length → p ≠ q → LX (p ++ a) (q ++ b) = LX p q
  | [], [], _, _, _, h => absurd rfl h
  | [], _ :: _, _, _, h, _ => by simp at h
  | _ :: _, [], _, _, h, _ => by simp at h
  | x :: p, y :: q, a, b, h, hn => by
    rw [List.cons_append, List.cons_append]
    by_cases e : x = y
    · subst e
      rw [lx_self, lx_self]
      exact lx_len p q a b (by simpa using h) fun e => hn (by rw [e])
    · exact lx_diff e _ _ _ _
theorem le_eq (a b : D) : PySem.W.dataLe false id a b = !LX (PySem.W.keyToks b) (PySem.W.keyToks a) := rfl
theorem tok_due (is : List Int) (m : Mv) : ∃ a, PySem.W.keyToks (dueD is m) = .inl 1 :: (PySem.W.keyToks (mvD m) ++ a) := ⟨_, by
  unfold dueD
  simp only [PySem.W.keyToks, PySem.W.keyToksAll]
  rfl⟩
abbrev sR : Str := "reverse"
abbrev sX : Str := "exchange"
theorem tok_rev (f l : Nat) : PySem.W.keyToks (mvD (.rev f l)) = [.inl 1, .inr sR.cps.toList, .inl 1, .inl (f : Int), .inl 1, .inl (l : Int), .inl 0] := rfl
theorem tok_ex (f l o e : Nat) : PySem.W.keyToks (mvD (.ex f l o e)) = [.inl 1, .inr sX.cps.toList, .inl 1, .inl (f : Int), .inl 1, .inl (l : Int), .inl 1, .inl (o : Int), .inl 1, .inl (e : Int), .inl 0] := rfl
theorem sRX : sR.cps.toList ≠ sX.cps.toList := by decide +kernel
theorem le_due (is : List Int) (m m' : Mv) : PySem.W.dataLe false id (dueD is m) (dueD is m') = PySem.W.dataLe false id (mvD m) (mvD m') := by
  rw [le_eq, le_eq]
  obtain ⟨a, ea⟩ := tok_due is m
  obtain ⟨a', ea'⟩ := tok_due is m'
  congr 1
  by_cases he : m' = m
  · subst he
    rw [ea'] at ea ⊢
    have := lex_irrefl (O := PyProof.Rows.itemOrd) (.inl 1 :: (PySem.W.keyToks (mvD m') ++ a'))
    have h2 := lex_irrefl (O := PyProof.Rows.itemOrd) (PySem.W.keyToks (mvD m'))
    exact this.trans h2.symm
  · rw [ea, ea', lx_self]
    cases m with
    | rev f l => cases m' with
      | rev f' l' =>
        refine lx_len _ _ _ _ rfl fun e => he ?_
        rw [tok_rev, tok_rev] at e
        simp at e
        obtain ⟨e1, e2⟩ := e
        rw [show f' = f by omega, show l' = l by omega]
      | ex f' l' o' e' =>
        rw [tok_rev, tok_ex]
        exact (lx_self (.inl 1) _ _).trans ((lx_diff (fun e => sRX (Sum.inr.inj e).symm) _ _ _ _).trans (lx_self (.inl 1) _ _).symm)
    | ex f l o e => cases m' with
      | rev f' l' =>
        rw [tok_rev, tok_ex]
        exact (lx_self (.inl 1) _ _).trans ((lx_diff (fun e => sRX (Sum.inr.inj e)) _ _ _ _).trans (lx_self (.inl 1) _ _).symm)
      | ex f' l' o' e' =>
        refine lx_len _ _ _ _ rfl fun q => he ?_
        rw [tok_ex, tok_ex] at q
        simp at q
        obtain ⟨e1, e2, e3, e4⟩ := q
        rw [show f' = f by omega, show l' = l by omega, show o' = o by omega, show e' = e by omega]
def sortM (l : List Mv) : List Mv := l.mergeSort fun m m' => PySem.W.dataLe false id (mvD m) (mvD m')
theorem sort_mv (l : List Mv) : sortD (l.map mvD) = (sortM l).map mvD := (List.map_mergeSort (f := mvD) (l := l) (r := fun m m' => PySem.W.dataLe false id (mvD m) (mvD m')) (s := PySem.W.dataLe false id) fun _ _ _ _ => rfl).symm
theorem sort_due (is : List Int) (l : List Mv) : sortD (l.map (dueD is)) = (sortM l).map (dueD is) := (List.map_mergeSort fun a _ b _ => (le_due is a b).symm).symm
theorem sortM_mem {l : List Mv} {m : Mv} : m ∈ sortM l ↔ m ∈ l := List.mem_mergeSort
theorem sort_ints (l : List Int) : sortD (l.map .int) = (l.mergeSort fun a b => decide (a ≤ b)).map .int := by
  refine (List.map_mergeSort fun a _ b _ => ?_).symm
  rw [le_eq]
  have e : LX (PySem.W.keyToks (.int b)) (PySem.W.keyToks (.int a)) = decide (b < a) := by
    show (PyProof.Rows.itemLt (.inl b) (.inl a) || (!PyProof.Rows.itemLt (.inl a) (.inl b) && false)) = _
    rw [Bool.and_false, Bool.or_false]
    rfl
  rw [e, Bool.eq_iff_iff]
  simp
theorem sort_perm {l l' : List Int} (h : l.Perm l') : sortD (l.map .int) = sortD (l'.map .int) := by
  rw [sort_ints, sort_ints]
  congr 1
  have tr : ∀ a b c : Int, decide (a ≤ b) = true → decide (b ≤ c) = true → decide (a ≤ c) = true := fun a b c => by simp; omega
  have to : ∀ a b : Int, (decide (a ≤ b) || decide (b ≤ a)) = true := fun a b => by simp; omega
  refine List.Perm.eq_of_pairwise (le := fun a b => decide (a ≤ b) = true) (fun a b _ _ h1 h2 => by simp at h1 h2; omega) (List.pairwise_mergeSort tr to l) (List.pairwise_mergeSort tr to l') ?_
  exact ((List.mergeSort_perm l _).trans h).trans (List.mergeSort_perm l' _).symm
end Sem

/-! K12, M5: rooms of a walk, by time. -/
namespace Sem
open PySem VI
theorem step_lt {b : Bld} {r i r' : Int} (h : b.step r i = some r') : 0 ≤ i ∧ i < b.ds.length := by
  unfold Bld.step at h
  split at h
  · rename_i h0
    by_cases hj : i.toNat < b.ds.length
    · exact ⟨h0, by omega⟩
    · rw [List.getElem?_eq_none (by omega)] at h
      cases h
  · cases h
theorem go_fine {b : Bld} : ∀ {is : List Int} {s e : Int}, b.go s is = some e → ∀ i ∈ is, 0 ≤ i ∧ i < (b.ds.length : Int)
  | [], _, _, _, i, hi => by cases hi
  | j :: is, s, e, h, i, hi => by
    unfold Bld.go at h
    cases hs : b.step s j with
    | none => rw [hs] at h; cases h
    | some r =>
      rw [hs] at h
      rcases List.mem_cons.mp hi with rfl | hi
      · exact step_lt hs
      · exact go_fine (show b.go r is = some e from h) i hi
theorem tr_go {b : Bld} : ∀ {is : List Int} {s e : Int} (acc : List Int), b.go s is = some e → ∃ ts : List Int, b.tr s acc (is.map .int) = some (acc ++ ts) ∧ ts.length = is.length ∧ ∀ i, i < is.length → b.go s (is.take (i + 1)) = some (ts.getD i 0)
  | [], s, e, acc, _ => ⟨[], by simp [Bld.tr], rfl, fun i h => absurd h (by simp)⟩
  | j :: is, s, e, acc, h => by
    unfold Bld.go at h
    cases hs : b.step s j with
    | none => rw [hs] at h; cases h
    | some r =>
      rw [hs] at h
      have h : b.go r is = some e := h
      obtain ⟨h0, h1⟩ := step_lt hs
      obtain ⟨ts, e1, e2, e3⟩ := tr_go (acc ++ [r]) h
      refine ⟨r :: ts, ?_, by rw [List.length_cons, List.length_cons, e2], fun i hi => ?_⟩
      · rw [List.map_cons]
        unfold Bld.tr
        rw [if_pos ⟨h0, by omega⟩, hs]
        show b.tr r (acc ++ [r]) (is.map .int) = _
        rw [e1, List.append_assoc]
        rfl
      · rw [List.take_succ_cons]
        unfold Bld.go
        rw [hs]
        show b.go r (is.take i) = _
        cases i with
        | zero => rfl
        | succ i => exact e3 i (by simpa using hi)
theorem rooms_full {b : Bld} {is : List Int} {s e : Int} (h0 : 0 ≤ s) (h1 : s < b.n) (hl : is.length ≤ 72) (h : b.go s is = some e) : ∃ rs, b.rooms (wD (s, is)) = some rs ∧ rs.length = is.length + 1 ∧ ∀ i, i ≤ is.length → b.go s (is.take i) = some (R rs i) := by
  obtain ⟨ts, e1, e2, e3⟩ := tr_go [s] h
  refine ⟨s :: ts, ?_, by rw [List.length_cons, e2], fun i hi => ?_⟩
  · show (if 0 ≤ s ∧ s ≤ b.n - 1 ∧ (is.map PyData.int).length ≤ 72 then b.tr s [s] (is.map .int) else none) = _
    rw [if_pos ⟨h0, by omega, by rw [List.length_map]; exact hl⟩, e1]
    rfl
  · cases i with
    | zero => rfl
    | succ i => exact e3 i (by omega)
theorem go_append {b : Bld} : ∀ (xs ys : List Int) (s : Int), b.go s (xs ++ ys) = (b.go s xs).bind fun r => b.go r ys
  | [], ys, s => rfl
  | x :: xs, ys, s => by
    show ((b.step s x).bind fun r => b.go r (xs ++ ys)) = ((b.step s x).bind fun r => b.go r xs).bind fun r => b.go r ys
    cases hs : b.step s x with
    | none => rfl
    | some r => exact go_append xs ys r
end Sem

/-! K12, M6: _law_moves. -/
namespace Sem
open PySem VI
theorem law_moves_ok {b : Bld} (hb : b.Ok) {s e : Int} {is rs : List Int} (hg : b.go s is = some e) (hrs : b.rooms (wD (s, is)) = some rs) (hl : rs.length = is.length + 1) (h8 : rs.length ≤ 8) :
    _law_moves [bD b, wD (s, is)] = .ok ((sortM (due b rs is)).map (dueD is)) := by
  have hr := rooms_ok hb (wD (s, is))
  rw [hrs] at hr
  have hd := go_fine hg
  have h1 := rng1_rn (c := rs.length) (by omega)
  have i1 : idxD (wD (s, is)) (.int 1) = .ok (.tuple (is.map .int)) := rfl
  have hln := due_len (b := b) (is := is) h8
  obtain ⟨⟨y5, y6, y7, y8, y9, y10⟩, q⟩ := forS_app (t := .nm 5) (f := (sFor (iRg rng2 (aCons (e2 addD (ePk 5) (eC (.int 1))) (aCons (eCall lenG (aCons (ePk 2) aNil)) aNil))) (.nm 6) (sSeq (sSet 7 (eSl (ePk 3) (oSome (ePk 5)) (oSome (ePk 6))))
  (sSeq (sIf (bAnd (bCm .eq (e2 idxD (ePk 2) (ePk 5)) (e2 idxD (ePk 2) (ePk 6))) (bCm .eq (eL (fLc (iSeq (ePk 7)) (.nm 11) [11] (bCm .eq (e2 idxD (e2 idxD (e2 idxD (ePk 0) (eC (.int 1))) (ePk 11)) (eC (.int 2))) (eC (.str "one-way"))) (eVar 11))) (eL (fLst aNil)))) (sApp 4 (eTup (aCons (eTup (aCons (eC (.str "reverse")) (aCons (eVar 5) (aCons (eVar 6) aNil)))) (aCons (e2 addD (e2 addD (eSl (ePk 3) oNone (oSome (ePk 5))) (e1 revO (ePk 7))) (eSl (ePk 3) (oSome (ePk 6)) oNone)) aNil)))) sNil)
  (sFor (iRg rng2 (aCons (ePk 6) (aCons (eCall lenG (aCons (ePk 2) aNil)) aNil))) (.nm 8) (sFor (iRg rng2 (aCons (e2 addD (ePk 8) (eC (.int 1))) (aCons (eCall lenG (aCons (ePk 2) aNil)) aNil))) (.nm 9) (sIf (bAnd (bCm .eq (e2 idxD (ePk 2) (ePk 5)) (e2 idxD (ePk 2) (ePk 8))) (bCm .eq (e2 idxD (ePk 2) (ePk 6)) (e2 idxD (ePk 2) (ePk 9)))) (sSeq (sSet 10 (e2 addD (e2 addD (eSl (ePk 3) (oSome (ePk 8)) (oSome (ePk 9))) (eSl (ePk 3) (oSome (ePk 6)) (oSome (ePk 8)))) (ePk 7)))
  (sApp 4 (eTup (aCons (eTup (aCons (eC (.str "exchange")) (aCons (eVar 5) (aCons (eVar 6) (aCons (eVar 8) (aCons (eVar 9) aNil)))))) (aCons (e2 addD (e2 addD (eSl (ePk 3) oNone (oSome (ePk 5))) (ePk 10)) (eSl (ePk 3) (oSome (ePk 9)) oNone)) aNil))))) sNil))))))) (fun (i : Nat) => PyData.int (i : Int)) (fun acc (j : Slot × Slot × Slot × Slot × Slot × Slot) => mkE b (wD (s, is)) rs is acc j.1 j.2.1 j.2.2.1 j.2.2.2.1 j.2.2.2.2.1 j.2.2.2.2.2) (fun f => (dueF b rs is f).map (dueD is)) 7999
    (rn 0 rs.length) [] (.un, .un, .un, .un, .un, .un) (by rw [← List.map_flatMap, List.length_map]; show 0 + (due b rs is).length ≤ 7999; omega) (fun f hf acc j ha => by
      obtain ⟨ho1, ho2⟩ := mem_rn.mp hf
      obtain ⟨z5, z6, z7, z8, z9, z10, q⟩ := stepF (b := b) (s := wD (s, is)) hl h8 hd ho2 acc (by rw [List.length_map] at ha; exact ha) j.1 j.2.1 j.2.2.1 j.2.2.2.1 j.2.2.2.2.1 j.2.2.2.2.2
      exact ⟨(z5, z6, z7, z8, z9, z10), q⟩)
  rw [← List.map_flatMap, List.nil_append] at q
  have hs : sortedO ((due b rs is).map (dueD is)) = .ok ((sortM (due b rs is)).map (dueD is)) := by rw [sortedO_of (sortOK_due is _), sort_due]
  unfold due at hs
  unfold mkE at q
  unfold _law_moves _law_moves_b
  simp [hr, i1, optL, h1]
  erw [q]
  simp [hs]
  rfl
end Sem

/-! K12, M7: may_reverse, moves_of. -/
namespace Sem
open PySem VI
theorem kind_tw (t : Bool) : cmD .ne (.str (kindS t)) (.str "two-way") = .ok (!t) := by
  rw [cm_ne_of (by cases t <;> decide +kernel) (by decide +kernel)]
  exact congrArg Out.ok (by cases t <;> decide +kernel)
theorem comp_rev {b : Bld} {v1 v2 v3 v4 v5 : Slot} {is : List Int} {s : Int} (hl : is.length ≤ 1000) (hd : ∀ i ∈ is, 0 ≤ i ∧ i < (b.ds.length : Int)) {f l : Nat} (h1 : f ≤ l) (h2 : l ≤ is.length) :
    (fLc (iSeq (eSl (e2 idxD (ePk 1) (eC (.int 1))) (oSome (ePk 3)) (oSome (ePk 4)))) (.nm 5) [5] (bCm .ne (e2 idxD (e2 idxD (e2 idxD (ePk 0) (eC (.int 1))) (ePk 5)) (eC (.int 2))) (eC (.str "two-way"))) (eVar 5)) [.val (bD b), .val (wD (s, is)), v2, iS f, iS l, v5] = .ok (((mid is f l).filter fun i => !b.two i).map .int) := by
  have k0 : cutD (is.map PyData.int) (some (f : Int)) (some (l : Int)) = (mid is f l).map .int := cut_mid _ _ h1 h2
  have i1 : idxD (wD (s, is)) (.int 1) = .ok (.tuple (is.map .int)) := rfl
  have n1 := mid_len (is := is) (a := f) (c := l)
  rw [← pickO_ints]
  refine fLc_spec (pickO b) (by simp [i1, k0]) (by rw [List.length_map]; exact le_size (by omega)) fun d hd' => ?_
  obtain ⟨i, hi, rfl⟩ := List.mem_map.mp hd'
  obtain ⟨h0, h1⟩ := hd i (mid_mem hi)
  obtain ⟨dr, e, et⟩ := door_two h0 h1
  have i1 : idxD (bD b) (.int 1) = .ok (.tuple (b.ds.map doorD)) := rfl
  refine ⟨_, bindT_nm _, ?_⟩
  unfold pickO
  dsimp only
  cases ht : dr.two with
  | true =>
    rw [ht] at et
    rw [if_pos et]
    have k := kind_tw true
    rw [ht] at e
    simp [i1, e, k]
  | false =>
    rw [ht] at et
    rw [if_neg (by rw [et]; decide)]
    have k := kind_tw false
    rw [ht] at e
    simp [i1, e, k]
theorem may_reverse_ok {b : Bld} {s : Int} {is rs : List Int} (hl : rs.length = is.length + 1) (h8 : rs.length ≤ 900) (hd : ∀ i ∈ is, 0 ≤ i ∧ i < (b.ds.length : Int)) {f l : Nat} (h1 : f < l) (h2 : l < rs.length) :
    may_reverse [bD b, wD (s, is), .list (rs.map .int), .int (f : Int), .int (l : Int)] = .ok (.bool (decide (R rs f = R rs l) && (mid is f l).all b.two)) := by
  have rf := room_at (rs := rs) (i := f) (by omega)
  have rl := room_at (rs := rs) (i := l) (by omega)
  have hC := @comp_rev b (.val (wD (s, is))) (.val (.list (rs.map .int))) (iS f) (iS l) .un is s (by omega) hd f l (by omega) (by omega)
  have e := filt_nil b (mid is f l)
  have z1 : (0 : Int) ≤ f := by omega
  have z2 : (f : Int) < l := by omega
  have z3 : (l : Int) < rs.length := by omega
  generalize (mid is f l).filter (fun i => !b.two i) = X at *
  rw [← e]
  unfold may_reverse may_reverse_b
  by_cases c : R rs f = R rs l
  · simp [rf, rl, hC, z1, z2, z3, c]
    cases X with
    | nil => rfl
    | cons x X => simp
  · simp [rf, rl, hC, z1, z2, z3, c]
end Sem

/-! K12, M8: moves_of. -/
namespace Sem
open PySem VI
abbrev iD (i : Nat) : D := .int (i : Int)
def prP (p : Nat × Nat) : D := .tuple [iD p.1, iD p.2]
def prs (n : Nat) : List (Nat × Nat) := (rn 0 n).flatMap fun f => (rn (f + 1) n).map fun l => (f, l)
theorem mem_prs {n : Nat} {p : Nat × Nat} (h : p ∈ prs n) : p.1 < p.2 ∧ p.2 < n := by
  unfold prs at h
  obtain ⟨f, hf, h⟩ := List.mem_flatMap.mp h
  obtain ⟨l, hl, rfl⟩ := List.mem_map.mp h
  have := mem_rn.mp hl
  exact ⟨by show f < l; omega, this.2⟩
theorem rn_split {a n : Nat} (h : a ≤ n) : rn 0 n = rn 0 a ++ rn a n := by
  unfold rn
  have := List.range'_append_1 (s := 0) (m := a) (n := n - a)
  rw [Nat.zero_add] at this
  rw [Nat.sub_zero, Nat.sub_zero, this]
  congr 1
  omega
def pickL (i : Nat) : D → Option D
  | .int j => if (i : Int) < j then some (.tuple [iD i, .int j]) else none
  | _ => none
theorem pickL_rn {i n : Nat} (h : i < n) : ((rn 0 n).map iD).filterMap (pickL i) = ((rn (i + 1) n).map fun l => (i, l)).map prP := by
  rw [rn_split (show i + 1 ≤ n from h), List.map_append, List.filterMap_append]
  have e1 : ((rn 0 (i + 1)).map iD).filterMap (pickL i) = [] := by
    rw [List.filterMap_eq_nil_iff]
    intro d hd
    obtain ⟨j, hj, rfl⟩ := List.mem_map.mp hd
    have := mem_rn.mp hj
    show (if (i : Int) < (j : Int) then _ else _) = _
    rw [if_neg (by omega)]
  have e2 : ∀ l : List Nat, (∀ j ∈ l, i < j) → (l.map iD).filterMap (pickL i) = (l.map fun l => (i, l)).map prP := fun l => by
    induction l with
    | nil => intro _; rfl
    | cons j l ih =>
      intro h
      have hj := h j List.mem_cons_self
      rw [List.map_cons, List.filterMap_cons_some (b := prP (i, j)), ih fun k hk => h k (List.mem_cons_of_mem _ hk)]
      · rfl
      · show (if (i : Int) < (j : Int) then _ else _) = _
        rw [if_pos (by omega)]
        rfl
  rw [e1, List.nil_append, e2 _ fun j hj => by have := mem_rn.mp hj; omega]
def gP (n : Nat) : D → List D
  | .int i => (((rn (i.toNat + 1) n).map fun l => (i.toNat, l)).map prP)
  | _ => []
theorem comp_prs {v0 v1 v2 v4 v5 v6 v7 v8 v9 : Slot} {n : Nat} (h : n ≤ 30) :
    (fLc2 (iSeq (ePk 3)) (.nm 6) [6, 7] bYes (iSeq (eVar 3)) (.nm 7) [7] (bCm .lt (ePk 6) (ePk 7)) (eTup (aCons (eVar 6) (aCons (eVar 7) aNil)))) [v0, v1, v2, .val (.list ((rn 0 n).map iD)), v4, v5, v6, v7, v8, v9] = .ok ((prs n).map prP) := by
  have e : ((rn 0 n).map iD).flatMap (gP n) = (prs n).map prP := by
    unfold prs
    rw [List.flatMap_map, List.map_flatMap]
    rfl
  have hlen : ((prs n).map prP).length ≤ sizeLine := by
    rw [List.length_map]
    have := flat_le (fun f => (rn (f + 1) n).map fun l => (f, l)) n (rn 0 n) fun f _ => by rw [List.length_map, rn_len]; omega
    rw [rn_len, Nat.sub_zero] at this
    have h2 : n * n ≤ 30 * 30 := Nat.mul_le_mul h h
    exact big (by unfold prs; omega)
  rw [← e]
  refine fLc2_spec (gP n) (by simp) (by rw [e]; exact hlen) fun d hd => ?_
  obtain ⟨i, hi, rfl⟩ := List.mem_map.mp hd
  have hi2 := (mem_rn.mp hi).2
  refine ⟨_, (rn 0 n).map iD, bindT_nm _, rfl, ?_, ?_⟩
  · simp
  · show _ = Out.ok (((rn (i + 1) n).map fun l => (i, l)).map prP)
    rw [← pickL_rn hi2]
    refine lcL_spec (pickL i) _ fun d hd => ?_
    obtain ⟨j, hj, rfl⟩ := List.mem_map.mp hd
    refine ⟨_, bindT_nm _, ?_⟩
    show (match (if (i : Int) < (j : Int) then some (PyData.tuple [iD i, .int (j : Int)]) else none) with
      | some y => _
      | none => _)
    by_cases c : (i : Int) < (j : Int)
    · rw [if_pos c]
      simp [c]
    · rw [if_neg c]
      simp [c]
end Sem

/-! K12, M9: moves_of, its loops. -/
namespace Sem
open PySem VI
def mkM (b : Bld) (w : D) (rs : List Int) (acc : List D) (v6 v7 v8 v9 : Slot) : VI.Env := [.val (bD b), .val w, .val (.list (rs.map .int)), .val (.list ((rn 0 rs.length).map iD)), .val (.list ((prs rs.length).map prP)), .own acc, v6, v7, v8, v9]
def exP (rs : List Int) (p q : Nat × Nat) : List Mv := if p.2 ≤ q.1 then exs rs p.1 p.2 q.1 q.2 else []
def mvP (b : Bld) (rs is : List Int) (p : Nat × Nat) : List Mv := revs b rs is p.1 p.2 ++ (prs rs.length).flatMap (exP rs p)
section
variable {b : Bld} {s : Int} {rs is : List Int}
theorem stepI {f l : Nat} (hf : f < l) (hln : l < rs.length) {p : Nat × Nat} (hp : p ∈ prs rs.length) (acc : List D) (hacc : acc.length < 8000) (x8 x9 : Slot) :
    ∃ y8 y9, stepS (.tp (.cons (.nm 8) (.cons (.nm 9) .nil))) (sIf (bAnd (bCm .le (ePk 7) (ePk 8)) (bAnd (bCm .eq (e2 idxD (ePk 2) (ePk 6)) (e2 idxD (ePk 2) (ePk 8))) (bCm .eq (e2 idxD (ePk 2) (ePk 7)) (e2 idxD (ePk 2) (ePk 9))))) (sApp 5 (eTup (aCons (eC (.str "exchange")) (aCons (eVar 6) (aCons (eVar 7) (aCons (eVar 8) (aCons (eVar 9) aNil))))))) sNil) (prP p) (mkM b (wD (s, is)) rs acc (iS f) (iS l) x8 x9) = .nx (mkM b (wD (s, is)) rs (acc ++ (exP rs (f, l) p).map mvD) (iS f) (iS l) y8 y9) := by
  obtain ⟨o, e⟩ := p
  obtain ⟨h1, h2⟩ := mem_prs hp
  dsimp only at h1 h2
  have rf := room_at (rs := rs) (i := f) (by omega)
  have rl := room_at (rs := rs) (i := l) hln
  have ro := room_at (rs := rs) (i := o) (by omega)
  have re := room_at (rs := rs) (i := e) h2
  have s5 := big' hacc
  refine ⟨iS o, iS e, ?_⟩
  unfold exP exs mkM prP
  dsimp only
  by_cases c0 : l ≤ o
  · have c0' : (l : Int) ≤ o := by omega
    by_cases c1 : R rs f = R rs o
    · by_cases c2 : R rs l = R rs e
      · simp [rf, rl, ro, re, c0, c0', c1, c2, s5, mvD]
      · simp [rf, rl, ro, re, c0, c0', c1, c2]
    · simp [rf, rl, ro, re, c0, c0', c1]
  · have c0' : ¬ (l : Int) ≤ o := by omega
    simp [rf, rl, ro, re, c0, c0']
theorem stepP (hl : rs.length = is.length + 1) (h8 : rs.length ≤ 8) (hd : ∀ i ∈ is, 0 ≤ i ∧ i < (b.ds.length : Int)) {p : Nat × Nat} (hp : p ∈ prs rs.length) (acc : List D) (hacc : acc.length + (mvP b rs is p).length ≤ 7999) (x6 x7 x8 x9 : Slot) :
    ∃ y6 y7 y8 y9, stepS (.tp (.cons (.nm 6) (.cons (.nm 7) .nil))) (sSeq (sIf (bTru (eFn 5 may_reverse (aCons (eVar 0) (aCons (eVar 1) (aCons (eVar 2) (aCons (eVar 6) (aCons (eVar 7) aNil))))))) (sApp 5 (eTup (aCons (eC (.str "reverse")) (aCons (eVar 6) (aCons (eVar 7) aNil))))) sNil)
  (sFor (iSeq (eVar 4)) (.tp (.cons (.nm 8) (.cons (.nm 9) .nil))) (sIf (bAnd (bCm .le (ePk 7) (ePk 8)) (bAnd (bCm .eq (e2 idxD (ePk 2) (ePk 6)) (e2 idxD (ePk 2) (ePk 8))) (bCm .eq (e2 idxD (ePk 2) (ePk 7)) (e2 idxD (ePk 2) (ePk 9))))) (sApp 5 (eTup (aCons (eC (.str "exchange")) (aCons (eVar 6) (aCons (eVar 7) (aCons (eVar 8) (aCons (eVar 9) aNil))))))) sNil))) (prP p) (mkM b (wD (s, is)) rs acc x6 x7 x8 x9) = .nx (mkM b (wD (s, is)) rs (acc ++ (mvP b rs is p).map mvD) y6 y7 y8 y9) := by
  obtain ⟨f, l⟩ := p
  obtain ⟨h1, h2⟩ := mem_prs hp
  dsimp only at h1 h2
  have ha : acc.length + (revs b rs is f l).length + ((prs rs.length).flatMap (exP rs (f, l))).length ≤ 7999 := by
    unfold mvP at hacc
    rw [List.length_append] at hacc
    dsimp only at hacc
    omega
  have lo : ∀ (acc : List D), acc.length + ((prs rs.length).flatMap (exP rs (f, l))).length ≤ 7999 → ∃ y8 y9, forS (.tp (.cons (.nm 8) (.cons (.nm 9) .nil))) (sIf (bAnd (bCm .le (ePk 7) (ePk 8)) (bAnd (bCm .eq (e2 idxD (ePk 2) (ePk 6)) (e2 idxD (ePk 2) (ePk 8))) (bCm .eq (e2 idxD (ePk 2) (ePk 7)) (e2 idxD (ePk 2) (ePk 9))))) (sApp 5 (eTup (aCons (eC (.str "exchange")) (aCons (eVar 6) (aCons (eVar 7) (aCons (eVar 8) (aCons (eVar 9) aNil))))))) sNil) ((prs rs.length).map prP) (mkM b (wD (s, is)) rs acc (iS f) (iS l) x8 x9) = .nx (mkM b (wD (s, is)) rs (acc ++ ((prs rs.length).flatMap (exP rs (f, l))).map mvD) (iS f) (iS l) y8 y9) := fun acc ha => by
    obtain ⟨⟨y8, y9⟩, e⟩ := forS_app (t := .tp (.cons (.nm 8) (.cons (.nm 9) .nil))) (f := (sIf (bAnd (bCm .le (ePk 7) (ePk 8)) (bAnd (bCm .eq (e2 idxD (ePk 2) (ePk 6)) (e2 idxD (ePk 2) (ePk 8))) (bCm .eq (e2 idxD (ePk 2) (ePk 7)) (e2 idxD (ePk 2) (ePk 9))))) (sApp 5 (eTup (aCons (eC (.str "exchange")) (aCons (eVar 6) (aCons (eVar 7) (aCons (eVar 8) (aCons (eVar 9) aNil))))))) sNil)) prP (fun acc (j : Slot × Slot) => mkM b (wD (s, is)) rs acc (iS f) (iS l) j.1 j.2) (fun q => (exP rs (f, l) q).map mvD) 7999
      (prs rs.length) acc (x8, x9) (by rw [← List.map_flatMap, List.length_map]; exact ha) (fun q hq acc j ha => by
        obtain ⟨z8, z9, q⟩ := stepI (b := b) (s := s) (is := is) h1 h2 hq acc (by omega) j.1 j.2
        exact ⟨(z8, z9), q⟩)
    rw [← List.map_flatMap] at e
    exact ⟨y8, y9, e⟩
  have hm := may_reverse_ok (b := b) (s := s) hl (by omega) hd h1 h2
  unfold mvP revs at *
  dsimp only at *
  by_cases c : R rs f = R rs l ∧ (mid is f l).all b.two = true
  · rw [if_pos c] at ha ⊢
    rw [decide_eq_true c.1, c.2] at hm
    obtain ⟨y8, y9, e⟩ := lo (acc ++ [mvD (.rev f l)]) (by rw [List.length_append]; exact ha)
    refine ⟨iS f, iS l, y8, y9, ?_⟩
    have s5 : acc.length < sizeLine := big' (by omega)
    rw [List.map_append, List.map_cons, List.map_nil, ← List.append_assoc]
    unfold mkM prP at e ⊢
    unfold mvD at e ⊢
    simp [hm, s5]
    simp at e
    exact congrArg ctK e
  · rw [if_neg c] at ha ⊢
    obtain ⟨y8, y9, e⟩ := lo acc (by omega)
    refine ⟨iS f, iS l, y8, y9, ?_⟩
    have c' : (decide (R rs f = R rs l) && (mid is f l).all b.two) = false := by
      cases h : (decide (R rs f = R rs l) && (mid is f l).all b.two) with
      | false => rfl
      | true =>
        rw [Bool.and_eq_true, decide_eq_true_iff] at h
        exact absurd h c
    rw [c'] at hm
    unfold mkM prP at e ⊢
    simp [hm]
    exact congrArg ctK e
end
end Sem

/-! K12, M10: moves_of is due, sorted. -/
namespace Sem
open PySem VI
theorem flat_congr {α β : Type} {f g : α → List β} : ∀ {l : List α}, (∀ x ∈ l, f x = g x) → l.flatMap f = l.flatMap g
  | [], _ => rfl
  | x :: l, h => by rw [List.flatMap_cons, List.flatMap_cons, h x List.mem_cons_self, flat_congr fun y hy => h y (List.mem_cons_of_mem _ hy)]
theorem flat_nil {α β : Type} {f : α → List β} : ∀ {l : List α}, (∀ x ∈ l, f x = []) → l.flatMap f = []
  | [], _ => rfl
  | x :: l, h => by rw [List.flatMap_cons, h x List.mem_cons_self, flat_nil fun y hy => h y (List.mem_cons_of_mem _ hy)]; rfl
theorem flat_prs {β : Type} (n : Nat) (E : Nat × Nat → List β) : (prs n).flatMap E = (rn 0 n).flatMap fun o => (rn (o + 1) n).flatMap fun e => E (o, e) := by
  unfold prs
  rw [List.flatMap_assoc]
  refine flat_congr fun o _ => ?_
  rw [List.flatMap_map]
theorem ex_due {rs : List Int} {f l : Nat} (h : l ≤ rs.length) : (prs rs.length).flatMap (exP rs (f, l)) = (rn l rs.length).flatMap fun o => dueO rs f l o := by
  rw [flat_prs, rn_split h, List.flatMap_append, flat_nil, List.nil_append]
  · refine flat_congr fun o ho => ?_
    have := mem_rn.mp ho
    unfold dueO
    refine flat_congr fun e _ => ?_
    unfold exP
    rw [if_pos this.1]
  · intro o ho
    have := mem_rn.mp ho
    refine flat_nil fun e _ => ?_
    unfold exP
    rw [if_neg (by dsimp only; omega)]
theorem mv_due (b : Bld) (rs is : List Int) : (prs rs.length).flatMap (mvP b rs is) = due b rs is := by
  rw [flat_prs]
  unfold due dueF
  refine flat_congr fun f _ => flat_congr fun l hl => ?_
  have := mem_rn.mp hl
  unfold mvP dueL
  rw [ex_due (by omega)]
theorem moves_of_ok {b : Bld} {s : Int} {rs is : List Int} (hl : rs.length = is.length + 1) (h8 : rs.length ≤ 8) (hd : ∀ i ∈ is, 0 ≤ i ∧ i < (b.ds.length : Int)) :
    moves_of [bD b, wD (s, is), .list (rs.map .int)] = .ok ((sortM (due b rs is)).map mvD) := by
  have hln := due_len (b := b) (is := is) h8
  have h1 : lrg1 (.int (rs.length : Int)) = .ok ((rn 0 rs.length).map iD) := by
    rw [lrg1_of (by omega) (by omega)]
    have := rangeL_nat 0 rs.length
    rw [show ((rs.length : Nat) : Int).toNat = rs.length by omega]
    exact congrArg Out.ok this
  have h2 := @comp_prs (.val (bD b)) (.val (wD (s, is))) (.val (.list (rs.map .int))) .un .un .un .un .un .un rs.length (by omega)
  obtain ⟨⟨y6, y7, y8, y9⟩, q⟩ := forS_app (t := .tp (.cons (.nm 6) (.cons (.nm 7) .nil))) (f := (sSeq (sIf (bTru (eFn 5 may_reverse (aCons (eVar 0) (aCons (eVar 1) (aCons (eVar 2) (aCons (eVar 6) (aCons (eVar 7) aNil))))))) (sApp 5 (eTup (aCons (eC (.str "reverse")) (aCons (eVar 6) (aCons (eVar 7) aNil))))) sNil)
  (sFor (iSeq (eVar 4)) (.tp (.cons (.nm 8) (.cons (.nm 9) .nil))) (sIf (bAnd (bCm .le (ePk 7) (ePk 8)) (bAnd (bCm .eq (e2 idxD (ePk 2) (ePk 6)) (e2 idxD (ePk 2) (ePk 8))) (bCm .eq (e2 idxD (ePk 2) (ePk 7)) (e2 idxD (ePk 2) (ePk 9))))) (sApp 5 (eTup (aCons (eC (.str "exchange")) (aCons (eVar 6) (aCons (eVar 7) (aCons (eVar 8) (aCons (eVar 9) aNil))))))) sNil)))) prP (fun acc (j : Slot × Slot × Slot × Slot) => mkM b (wD (s, is)) rs acc j.1 j.2.1 j.2.2.1 j.2.2.2) (fun p => (mvP b rs is p).map mvD) 7999
    (prs rs.length) [] (.un, .un, .un, .un) (by rw [← List.map_flatMap, List.length_map, mv_due]; show 0 + (due b rs is).length ≤ 7999; omega) (fun p hp acc j ha => by
      obtain ⟨z6, z7, z8, z9, q⟩ := stepP (s := s) hl h8 hd hp acc (by rw [List.length_map] at ha; exact ha) j.1 j.2.1 j.2.2.1 j.2.2.2
      exact ⟨(z6, z7, z8, z9), q⟩)
  rw [← List.map_flatMap, List.nil_append, mv_due] at q
  have hs : sortedO ((due b rs is).map mvD) = .ok ((sortM (due b rs is)).map mvD) := by rw [sortedO_of (sortOK_mv _), sort_mv]
  unfold mkM at q
  unfold moves_of moves_of_b
  simp [h1, h2]
  erw [q]
  simp [hs]
end Sem

/-! K12, M11: moves; allowed; after; moved. -/
namespace Sem
open PySem VI
section
variable {b : Bld} {s : Int} {rs is : List Int}
theorem moves_ok (hb : b.Ok) (hrs : b.rooms (wD (s, is)) = some rs) (hl : rs.length = is.length + 1) (h8 : rs.length ≤ 8) (hd : ∀ i ∈ is, 0 ≤ i ∧ i < (b.ds.length : Int)) :
    moves [bD b, wD (s, is)] = .ok ((sortM (due b rs is)).map mvD) := by
  have h1 := check_building_ok hb
  have h2 := checked_some hb hrs
  have h3 := moves_of_ok (s := s) hl h8 hd
  have z : ¬ ((11 : Int) < (rs.length : Int)) := by omega
  unfold moves moves_b
  simp [h1, h2, h3, z]
/-- a move within a walk -/
def Good (b : Bld) (rs is : List Int) : Mv → Prop
  | .rev f l => f < l ∧ l < rs.length ∧ R rs f = R rs l ∧ (mid is f l).all b.two = true
  | .ex f l o e => f < l ∧ l ≤ o ∧ o < e ∧ e < rs.length ∧ R rs f = R rs o ∧ R rs l = R rs e
theorem due_good {m : Mv} (h : m ∈ due b rs is) : Good b rs is m := by
  unfold due at h
  obtain ⟨f, hf, h⟩ := List.mem_flatMap.mp h
  unfold dueF at h
  obtain ⟨l, hl, h⟩ := List.mem_flatMap.mp h
  have h1 := mem_rn.mp hf
  have h2 := mem_rn.mp hl
  unfold dueL at h
  rcases List.mem_append.mp h with h | h
  · unfold revs at h
    split at h
    · rename_i c
      cases List.mem_singleton.mp h
      exact ⟨by omega, h2.2, c.1, c.2⟩
    · cases h
  · obtain ⟨o, ho, h⟩ := List.mem_flatMap.mp h
    unfold dueO at h
    obtain ⟨e, he, h⟩ := List.mem_flatMap.mp h
    have h3 := mem_rn.mp ho
    have h4 := mem_rn.mp he
    unfold exs at h
    split at h
    · rename_i c
      cases List.mem_singleton.mp h
      exact ⟨by omega, h3.1, by omega, h4.2, c.1, c.2⟩
    · cases h
theorem sR1 : cmD .eq (.str "reverse") (.str "reverse") = .ok true := by
  rw [cm_eq_of (by decide +kernel) (by decide +kernel)]
  exact congrArg Out.ok (by decide +kernel)
theorem sR2 : cmD .eq (.str "exchange") (.str "reverse") = .ok false := by
  rw [cm_eq_of (by decide +kernel) (by decide +kernel)]
  exact congrArg Out.ok (by decide +kernel)
theorem sR3 : cmD .eq (.str "exchange") (.str "exchange") = .ok true := by
  rw [cm_eq_of (by decide +kernel) (by decide +kernel)]
  exact congrArg Out.ok (by decide +kernel)
theorem cut1 (x : D) (l : List D) : cutD (x :: l) (some 1) none = l := by
  unfold cutD
  rw [show (1 : Int) = ((1 : Nat) : Int) from rfl, HT.sIx_nat, HT.sIx_none, List.length_cons]
  rw [show min 1 (l.length + 1) = 1 by omega]
  simp
theorem after_ok (hl : rs.length = is.length + 1) (h8 : rs.length ≤ 8) {m : Mv} (hm : Good b rs is m) : after [wD (s, is), mvD m] = .ok (.tuple [.int s, .tuple ((behind is m).map .int)]) := by
  have i0 : idxD (wD (s, is)) (.int 0) = .ok (.int s) := rfl
  have i1 : idxD (wD (s, is)) (.int 1) = .ok (.tuple (is.map .int)) := rfl
  have r1 := sR1
  have r2 := sR2
  cases m with
  | rev f l =>
    obtain ⟨h1, h2, h3, h4⟩ := hm
    have k0 : cutD (is.map PyData.int) (some (f : Int)) (some (l : Int)) = (mid is f l).map .int := cut_mid _ _ (by omega) (by omega)
    have k3 : cutD (is.map PyData.int) none (some (f : Int)) = (is.take f).map .int := cut_to _ _ (by omega)
    have k4 : cutD (is.map PyData.int) (some (l : Int)) none = (is.drop l).map .int := cut_from _ _ (by omega)
    have n3 := mid_len (is := is) (a := f) (c := l)
    have n4 : (is.take f).length ≤ is.length := by simp; omega
    have n5 : (is.drop l).length ≤ is.length := by simp
    have hb : behind is (.rev f l) = is.take f ++ (mid is f l).reverse ++ is.drop l := rfl
    generalize (mid is f l) = C at *
    generalize is.take f = T at *
    generalize is.drop l = U at *
    have s1 : T.length + C.length ≤ sizeLine := big (by omega)
    have s2 : T.length + (C.length + U.length) ≤ sizeLine := big (by omega)
    have s2' : T.length + C.length + U.length ≤ sizeLine := big (by omega)
    rw [hb]
    unfold mvD
    unfold after after_b
    simp [i0, i1, r1, k0, k3, k4, s1, s2, s2']
  | ex f l o e =>
    obtain ⟨h1, h2, h3, h4, h5, h6⟩ := hm
    have k1 : cutD (is.map PyData.int) (some (o : Int)) (some (e : Int)) = (mid is o e).map .int := cut_mid _ _ (by omega) (by omega)
    have k2 : cutD (is.map PyData.int) (some (l : Int)) (some (o : Int)) = (mid is l o).map .int := cut_mid _ _ (by omega) (by omega)
    have k5 : cutD (is.map PyData.int) (some (f : Int)) (some (l : Int)) = (mid is f l).map .int := cut_mid _ _ (by omega) (by omega)
    have k3 : cutD (is.map PyData.int) none (some (f : Int)) = (is.take f).map .int := cut_to _ _ (by omega)
    have k4 : cutD (is.map PyData.int) (some (e : Int)) none = (is.drop e).map .int := cut_from _ _ (by omega)
    have n1 := mid_len (is := is) (a := o) (c := e)
    have n2 := mid_len (is := is) (a := l) (c := o)
    have n3 := mid_len (is := is) (a := f) (c := l)
    have n4 : (is.take f).length ≤ is.length := by simp; omega
    have n5 : (is.drop e).length ≤ is.length := by simp
    have hb : behind is (.ex f l o e) = is.take f ++ (mid is o e ++ mid is l o ++ mid is f l) ++ is.drop e := rfl
    have kc := cut1 (.str "exchange") [.int (f : Int), .int (l : Int), .int (o : Int), .int (e : Int)]
    generalize mid is o e = A at *
    generalize mid is l o = B at *
    generalize mid is f l = C at *
    generalize is.take f = T at *
    generalize is.drop e = U at *
    have s1 : A.length + B.length ≤ sizeLine := big (by omega)
    have s2 : A.length + (B.length + C.length) ≤ sizeLine := big (by omega)
    have s3 : T.length + (A.length + (B.length + C.length)) ≤ sizeLine := big (by omega)
    have s4 : T.length + (A.length + (B.length + (C.length + U.length))) ≤ sizeLine := big (by omega)
    have s2' : A.length + B.length + C.length ≤ sizeLine := big (by omega)
    have s4' : T.length + (A.length + (B.length + C.length)) + U.length ≤ sizeLine := big (by omega)
    rw [hb]
    unfold mvD
    unfold after after_b
    simp [i0, i1, r2, kc, k1, k2, k3, k4, k5, s1, s2, s2', s3, s4, s4']
end
end Sem

/-! K12, M12: allowed; moved. -/
namespace Sem
open PySem VI
section
variable {b : Bld} {s : Int} {rs is : List Int}
theorem comp_all {v0 v1 v4 : Slot} {x : D} {l : List Nat} (hr : rs.length ≤ 900) (hl : l.length ≤ 100) (h : ∀ i ∈ l, i < rs.length) :
    (fLc (iSeq (eSl (ePk 3) (oSome (eC (.int 1))) oNone)) (.nm 4) [4] (bNot (bTru (eFn 3 in_range (aCons (eVar 4) (aCons (eC (.int 0)) (aCons (e2 subD (eCall lenG (aCons (ePk 2) aNil)) (eC (.int 1))) aNil)))))) (eVar 4)) [v0, v1, .val (.list (rs.map .int)), .val (.tuple (x :: l.map iD)), v4] = .ok [] := by
  have kc := cut1 x (l.map iD)
  have e := fLc_spec (it := (iSeq (eSl (ePk 3) (oSome (eC (.int 1))) oNone))) (t := .nm 4) (vs := [4]) (tt := (bNot (bTru (eFn 3 in_range (aCons (eVar 4) (aCons (eC (.int 0)) (aCons (e2 subD (eCall lenG (aCons (ePk 2) aNil)) (eC (.int 1))) aNil))))))) (te := eVar 4)
    (env := [v0, v1, .val (.list (rs.map .int)), .val (.tuple (x :: l.map iD)), v4]) (ds := l.map iD) (fun _ => none) (by simp [kc]) (by rw [List.length_map]; exact le_size (by omega)) fun d hd => by
      obtain ⟨i, hi, rfl⟩ := List.mem_map.mp hd
      have := h i hi
      have z1 : (0 : Int) ≤ i := by omega
      have z2 : (i : Int) ≤ rs.length - 1 := by omega
      refine ⟨_, bindT_nm _, ?_⟩
      dsimp only
      simp [in_range_int, z1, z2]
  rw [e]
  congr 1
  exact List.filterMap_eq_nil_iff.mpr fun _ _ => rfl
theorem may_exchange_ok {f l o e : Nat} (h1 : f < l) (h2 : l ≤ o) (h3 : o < e) (h4 : e < rs.length) (h5 : R rs f = R rs o) (h6 : R rs l = R rs e) :
    may_exchange [.list (rs.map .int), .tuple [iD f, iD l, iD o, iD e]] = .ok (.bool true) := by
  have rf := room_at (rs := rs) (i := f) (by omega)
  have rl := room_at (rs := rs) (i := l) (by omega)
  have ro := room_at (rs := rs) (i := o) (by omega)
  have re := room_at (rs := rs) (i := e) h4
  have z0 : (0 : Int) ≤ f := by omega
  have z1 : (f : Int) < l := by omega
  have z2 : (l : Int) ≤ o := by omega
  have z3 : (o : Int) < e := by omega
  have z4 : (e : Int) < rs.length := by omega
  unfold may_exchange may_exchange_b
  simp [rf, rl, ro, re, h5, h6, z0, z1, z2, z3, z4]
theorem allowed_ok (hl : rs.length = is.length + 1) (h8 : rs.length ≤ 8) (hd : ∀ i ∈ is, 0 ≤ i ∧ i < (b.ds.length : Int)) {m : Mv} (hm : Good b rs is m) :
    allowed [bD b, wD (s, is), .list (rs.map .int), mvD m] = .ok (.bool true) := by
  have r1 := sR1
  have r2 := sR2
  have r3 := sR3
  have it : ∀ l : List D, isTy .tuple (.tuple l) = true := fun _ => rfl
  cases m with
  | rev f l =>
    obtain ⟨h1, h2, h3, h4⟩ := hm
    have hC := @comp_all rs (.val (bD b)) (.val (wD (s, is))) .un (.str "reverse") [f, l] (by omega) (by simp) (by simp; omega)
    have hR := may_reverse_ok (b := b) (s := s) hl (by omega) hd h1 h2
    rw [decide_eq_true h3, h4] at hR
    simp only [List.map_cons, List.map_nil] at hC
    unfold mvD
    unfold allowed allowed_b
    simp [it, r1, hC, hR]
  | ex f l o e =>
    obtain ⟨h1, h2, h3, h4, h5, h6⟩ := hm
    have hC := @comp_all rs (.val (bD b)) (.val (wD (s, is))) .un (.str "exchange") [f, l, o, e] (by omega) (by simp) (by simp; omega)
    have hR := may_exchange_ok h1 h2 h3 h4 h5 h6
    have kc := cut1 (.str "exchange") [.int (f : Int), .int (l : Int), .int (o : Int), .int (e : Int)]
    simp only [List.map_cons, List.map_nil] at hC
    unfold mvD
    unfold allowed allowed_b
    simp [it, r2, r3, hC, hR, kc]
theorem moved_ok (hb : b.Ok) (hrs : b.rooms (wD (s, is)) = some rs) (hl : rs.length = is.length + 1) (h8 : rs.length ≤ 8) (hd : ∀ i ∈ is, 0 ≤ i ∧ i < (b.ds.length : Int)) {m : Mv} (hm : Good b rs is m) :
    moved [bD b, wD (s, is), mvD m] = .ok (.tuple [.int s, .tuple ((behind is m).map .int)]) := by
  have h1 := check_building_ok hb
  have h2 := checked_some hb hrs
  have h3 := allowed_ok (s := s) hl h8 hd hm
  have h4 := after_ok (b := b) (s := s) hl h8 hm
  unfold moved moved_b
  simp [h1, h2, h3, h4]
end
end Sem

/-! K12, M13: the walk behind a move. -/
namespace Sem
open PySem VI
theorem take_mid (is : List Int) {f l : Nat} (h : f ≤ l) : is.take l = is.take f ++ mid is f l := by
  unfold mid
  rw [← List.take_add]
  congr 1
  omega
theorem drop_mid (is : List Int) {f l : Nat} (h : f ≤ l) : is.drop f = mid is f l ++ is.drop l := by
  unfold mid
  have := List.take_append_drop (l - f) (is.drop f)
  rw [List.drop_drop, show f + (l - f) = l by omega] at this
  exact this.symm
theorem side_back {d : Door} {r r1 : Int} (h : d.side r = some r1) (ht : d.two = true) : d.side r1 = some r := by
  unfold Door.side at h ⊢
  by_cases h1 : r = d.a
  · rw [if_pos h1] at h
    cases h
    by_cases h2 : d.b = d.a
    · rw [if_pos h2, h1, h2]
    · rw [if_neg h2, if_pos ⟨rfl, ht⟩, h1]
  · rw [if_neg h1] at h
    by_cases h2 : r = d.b ∧ d.two = true
    · rw [if_pos h2] at h
      cases h
      rw [if_pos rfl, h2.1]
    · rw [if_neg h2] at h
      cases h
theorem step_back {b : Bld} {r i r1 : Int} (h : b.step r i = some r1) (ht : b.two i = true) : b.step r1 i = some r := by
  unfold Bld.step at h ⊢
  unfold Bld.two at ht
  by_cases h0 : 0 ≤ i
  · rw [if_pos h0] at h ⊢
    cases hd : b.ds[i.toNat]? with
    | none => rw [hd] at h; cases h
    | some d =>
      rw [hd] at h ht
      exact side_back (show d.side r = some r1 from h) (show d.two = true from ht)
  · rw [if_neg h0] at h
    cases h
theorem go_one {b : Bld} {r i : Int} : b.go r [i] = b.step r i := by
  show ((b.step r i).bind fun r' => some r') = _
  cases b.step r i <;> rfl
theorem go_rev {b : Bld} : ∀ {p : List Int} {r r' : Int}, b.go r p = some r' → p.all b.two = true → b.go r' p.reverse = some r
  | [], r, r', h, _ => by cases h; rfl
  | i :: p, r, r', h, ht => by
    rw [List.all_cons, Bool.and_eq_true] at ht
    have h' : ((b.step r i).bind fun r1 => b.go r1 p) = some r' := h
    cases hs : b.step r i with
    | none => rw [hs] at h'; cases h'
    | some r1 =>
      rw [hs] at h'
      rw [List.reverse_cons, go_append, go_rev (show b.go r1 p = some r' from h') ht.2]
      show b.go r1 [i] = _
      rw [go_one]
      exact step_back hs ht.1
section
variable {b : Bld} {s e : Int} {rs is : List Int}
theorem go_mid (hR : ∀ i, i ≤ is.length → b.go s (is.take i) = some (R rs i)) {f l : Nat} (h : f ≤ l) (h2 : l ≤ is.length) : b.go (R rs f) (mid is f l) = some (R rs l) := by
  have e1 := hR l h2
  rw [take_mid is h, go_append, hR f (by omega)] at e1
  exact e1
theorem go_drop (hg : b.go s is = some e) (hR : ∀ i, i ≤ is.length → b.go s (is.take i) = some (R rs i)) {l : Nat} (h2 : l ≤ is.length) : b.go (R rs l) (is.drop l) = some e := by
  rw [← List.take_append_drop l is, go_append, hR l h2] at hg
  exact hg
theorem behind_go (hg : b.go s is = some e) (hl : rs.length = is.length + 1) (hR : ∀ i, i ≤ is.length → b.go s (is.take i) = some (R rs i)) {m : Mv} (hm : Good b rs is m) : b.go s (behind is m) = some e := by
  cases m with
  | rev f l =>
    obtain ⟨h1, h2, h3, h4⟩ := hm
    have g1 := go_rev (go_mid (l := l) hR (by omega) (by omega)) h4
    have g2 := go_drop (l := l) hg hR (by omega)
    show b.go s (is.take f ++ (mid is f l).reverse ++ is.drop l) = _
    rw [go_append, go_append, hR f (by omega)]
    show ((b.go (R rs f) (mid is f l).reverse).bind fun r => b.go r (is.drop l)) = _
    rw [h3, g1, h3]
    exact g2
  | ex f l o e' =>
    obtain ⟨h1, h2, h3, h4, h5, h6⟩ := hm
    have g1 := go_mid (f := f) (l := l) hR (by omega) (by omega)
    have g2 := go_mid (f := l) (l := o) hR (by omega) (by omega)
    have g3 := go_mid (f := o) (l := e') hR (by omega) (by omega)
    have g4 := go_drop (l := e') hg hR (by omega)
    show b.go s (is.take f ++ (mid is o e' ++ mid is l o ++ mid is f l) ++ is.drop e') = _
    rw [go_append, go_append, hR f (by omega)]
    show ((b.go (R rs f) (mid is o e' ++ mid is l o ++ mid is f l)).bind fun r => b.go r (is.drop e')) = _
    rw [go_append, go_append, h5, g3]
    show ((((b.go (R rs e') (mid is l o)).bind fun r => b.go r (mid is f l))).bind fun r => b.go r (is.drop e')) = _
    rw [← h6, g2]
    show ((b.go (R rs o) (mid is f l)).bind fun r => b.go r (is.drop e')) = _
    rw [← h5, g1, h6]
    exact g4
theorem behind_perm (hl : rs.length = is.length + 1) {m : Mv} (hm : Good b rs is m) : (behind is m).Perm is := by
  cases m with
  | rev f l =>
    obtain ⟨h1, h2, h3, h4⟩ := hm
    show (is.take f ++ (mid is f l).reverse ++ is.drop l).Perm is
    have e : is = is.take f ++ mid is f l ++ is.drop l := by rw [← take_mid is (by omega), List.take_append_drop]
    have p : (is.take f ++ (mid is f l).reverse ++ is.drop l).Perm (is.take f ++ mid is f l ++ is.drop l) := ((List.reverse_perm _).append_left _).append_right _
    rw [← e] at p
    exact p
  | ex f l o e' =>
    obtain ⟨h1, h2, h3, h4, h5, h6⟩ := hm
    show (is.take f ++ (mid is o e' ++ mid is l o ++ mid is f l) ++ is.drop e').Perm is
    have e : is = is.take f ++ (mid is f l ++ mid is l o ++ mid is o e') ++ is.drop e' := by
      rw [← List.append_assoc, ← List.append_assoc, ← take_mid is (by omega), ← take_mid is (by omega), ← take_mid is (by omega), List.take_append_drop]
    have p0 : (mid is o e' ++ mid is l o ++ mid is f l).Perm (mid is f l ++ mid is l o ++ mid is o e') := by
      refine List.perm_append_comm.trans ?_
      rw [List.append_assoc]
      exact List.perm_append_comm.append_left _
    have p : (is.take f ++ (mid is o e' ++ mid is l o ++ mid is f l) ++ is.drop e').Perm (is.take f ++ (mid is f l ++ mid is l o ++ mid is o e') ++ is.drop e') := (p0.append_left _).append_right _
    rw [← e] at p
    exact p
end
end Sem

/-! K12, M14: one turn of the law's loop. -/
namespace Sem
open PySem VI
theorem cm_ne_self {d : D} (h : shB d = true) : cmD .ne d d = .ok false := by
  rw [cm_ne_of h h, PySem.SeqAt.eqv_refl d (shB_iff.mp h).1]
  rfl
theorem lay_mv (m : Mv) : (mvD m).canLay0 = true := by
  cases m with
  | rev f l => simp [mvD, PyData.canLay0, PyData.canLayAll0]; decide +kernel
  | ex f l o e => simp [mvD, PyData.canLay0, PyData.canLayAll0]; decide +kernel
theorem lay_mvs : ∀ l : List Mv, PyData.canLayAll0 (l.map mvD) = true
  | [] => rfl
  | m :: l => by rw [List.map_cons, PyData.canLayAll0, lay_mv, lay_mvs l]; rfl
theorem dep_mvs : ∀ l : List Mv, PyData.depthAll (l.map mvD) ≤ 2
  | [] => by simp [PyData.depthAll]
  | m :: l => by
    have := dep_mvs l
    have := dep_mv m
    rw [List.map_cons, PyData.depthAll]
    omega
theorem sh_mvs (l : List Mv) : shB (.list (l.map mvD)) = true := shB_iff.mpr ⟨lay_mvs l, by show PyData.depthAll _ + 1 ≤ 64; have := dep_mvs l; omega⟩
theorem sh_walk (s : Int) (is : List Int) : shB (.tuple [.int s, .tuple (is.map .int)]) = true := by
  refine shB_iff.mpr ⟨?_, ?_⟩
  · simp [PyData.canLay0, PyData.canLayAll0, lay_ints]
  · simp [PyData.depth, PyData.depthAll, dep_ints]
end Sem

/-! K12, M15: the law. -/
namespace Sem
open PySem VI
theorem tx1 : subX "TooManyPassages" "DoorError" = true := by decide +kernel
theorem tx2 : subX "TooManyPassages" "TooManyPassages" = true := by decide +kernel
theorem tx3 : subX "TooManyPassages" "InvalidWalk" = false := by decide +kernel
theorem wx1 : subX "InvalidWalk" "DoorError" = true := by decide +kernel
theorem wx2 : subX "InvalidWalk" "TooManyPassages" = false := by decide +kernel
theorem wx3 : subX "InvalidWalk" "InvalidWalk" = true := by decide +kernel
theorem wx4 : subX "InvalidWalk" "InvalidMove" = false := by decide +kernel
theorem lmoved_many {bd v : D} (h : moves [bd, v] = .exc "TooManyPassages" none) : _law_moved [bd, v, .none] = .ok (.str "many") := by
  unfold _law_moved _law_moved_b
  simp only [env0_cons, env0_nil, rep_un_succ, rep_un_zero, sSeq_eq]
  rw [sTry_exc (c := "TooManyPassages") (env' := [.val bd, .val v, .val .none, .un]) (by simp [h]) (by decide +kernel), hdRun_yes (x := .rt (.str "many")) tx2 (fun a => ?_)]
  · simp
  · simp [tx1, tx3, closeT]
theorem lmoved_walk {bd v : D} (h : moves [bd, v] = .exc "InvalidWalk" none) : _law_moved [bd, v, .none] = .ok (.str "walk") := by
  unfold _law_moved _law_moved_b
  simp only [env0_cons, env0_nil, rep_un_succ, rep_un_zero, sSeq_eq]
  rw [sTry_exc (c := "InvalidWalk") (env' := [.val bd, .val v, .val .none, .un]) (by simp [h]) (by decide +kernel), hdRun_no wx2, hdRun_yes (x := .rt (.str "walk")) wx3 (fun a => ?_)]
  · simp
  · simp [wx1, wx4, closeT]
def twoB : Bld := ⟨2, [⟨0, 1, true⟩]⟩
theorem twoB_ok : twoB.Ok := ⟨by decide, by decide, by decide, fun d hd => by
  cases List.mem_singleton.mp hd
  exact ⟨by decide, by decide, by decide, by decide, by decide, fun _ => by decide⟩⟩
theorem many_ok : moves [bD twoB, wD (0, List.replicate 11 0)] = .exc "TooManyPassages" none := by
  obtain ⟨rs, h1, h2, h9⟩ := rooms_full (b := twoB) (is := List.replicate 11 0) (s := 0) (e := 1) (by decide) (by decide) (by decide) (by decide)
  have h3 := check_building_ok twoB_ok
  have h4 := checked_some twoB_ok h1
  have z : (11 : Int) < (rs.length : Int) := by rw [h2]; decide
  clear h1 h2 h9
  generalize wD (0, List.replicate 11 0) = w at *
  unfold moves moves_b
  simp [h3, h4, z]
theorem none_ok {b : Bld} (hb : b.Ok) : moves [bD b, .none] = .exc "InvalidWalk" none := by
  have h3 := check_building_ok hb
  have h4 := checked_none hb (v := .none) rfl
  unfold moves moves_b
  simp [h3, h4]
theorem comp_mv (is : List Int) (l : List Mv) (hl : l.length ≤ 8000) {v0 v1 v2 v3 v4 v5 v7 v8 v9 : Slot} :
    (fLc (iSeq (ePk 6)) (.tp (.cons (.nm 7) (.cons (.nm 8) .nil))) [7, 8] bYes (eVar 7)) [v0, v1, v2, v3, v4, v5, .val (.list (l.map (dueD is))), v7, v8, v9] = .ok (l.map mvD) := by
  have e := fLc_spec (it := iSeq (ePk 6)) (t := .tp (.cons (.nm 7) (.cons (.nm 8) .nil))) (vs := [7, 8]) (tt := bYes) (te := eVar 7) (env := [v0, v1, v2, v3, v4, v5, .val (.list (l.map (dueD is))), v7, v8, v9]) (ds := l.map (dueD is))
    (fun d => match d with | .tuple [m, _] => some m | _ => none) (by simp) (by rw [List.length_map]; exact big hl) fun d hd => by
      obtain ⟨m, hm, rfl⟩ := List.mem_map.mp hd
      refine ⟨[v0, v1, v2, v3, v4, v5, .val (.list (l.map (dueD is))), .val (mvD m), .val (.tuple ((behind is m).map .int)), v9], ?_, ?_⟩
      · show bindT _ (.tuple [mvD m, .tuple ((behind is m).map .int)]) _ = _
        simp
      · exact ⟨rfl, rfl⟩
  rw [e, List.filterMap_map]
  congr 1
  exact List.filterMap_eq_map (f := mvD) ▸ rfl
end Sem

/-! K12, M16: the law is true. -/
namespace Sem
open PySem VI
theorem last_at {rs : List Int} {n : Nat} {e : Int} (hl : rs.length = n + 1) (h : R rs n = e) : L2.atI (rs.map PyData.int) (-1) = some (.int e) := by
  refine atI_last ?_
  rw [List.getLast?_eq_getElem?, hl, Nat.add_sub_cancel, List.getElem?_eq_getElem (by omega)]
  unfold R at h
  rw [List.getD_eq_getElem?_getD, List.getElem?_eq_getElem (by omega)] at h
  exact congrArg some h
theorem turn_ok {b : Bld} (hb : b.Ok) {s e : Int} {rs is : List Int} (hs0 : 0 ≤ s) (hs1 : s < b.n) (hg : b.go s is = some e) (hrs : b.rooms (wD (s, is)) = some rs) (hl : rs.length = is.length + 1) (h8 : rs.length ≤ 8)
    (hR : ∀ i, i ≤ is.length → b.go s (is.take i) = some (R rs i)) {m : Mv} (hm : Good b rs is m) (v0 v6 x7 x8 : Slot) :
    stepS (.tp (.cons (.nm 7) (.cons (.nm 8) .nil))) (sSeq (sIf (bCm .ne (eFn 3 moved (aCons (eVar 1) (aCons (eVar 5) (aCons (eVar 7) aNil)))) (eTup (aCons (eVar 2) (aCons (eVar 8) aNil)))) (sRet (eC (.bool false))) sNil)
  (sIf (bOr (bCm .ne (eL (fCall sortedF (aCons (ePk 8) aNil))) (eL (fCall sortedF (aCons (ePk 3) aNil)))) (bCm .ne (e2 idxD (eFn 2 _law_rooms (aCons (eVar 1) (aCons (eTup (aCons (eVar 2) (aCons (eVar 8) aNil))) aNil))) (e1 negD (eC (.int 1)))) (ePk 4))) (sRet (eC (.bool false))) sNil)) (dueD is m) [v0, .val (bD b), .val (.int s), .val (tD is), .val (.int e), .val (wD (s, is)), v6, x7, x8, .un] = .nx [v0, .val (bD b), .val (.int s), .val (tD is), .val (.int e), .val (wD (s, is)), v6, .val (mvD m), .val (tD (behind is m)), .un] := by
  have hd := go_fine hg
  have hmv := moved_ok hb hrs hl h8 hd hm
  have hp := behind_perm hl hm
  have hg2 := behind_go hg hl hR hm
  have hlen : (behind is m).length = is.length := hp.length_eq
  obtain ⟨rs2, q1, q2, q3⟩ := rooms_full hs0 hs1 (by omega) hg2
  have q4 := q3 (behind is m).length (Nat.le_refl _)
  rw [List.take_length, hg2] at q4
  have hla := last_at q2 (Option.some.inj q4).symm
  have hro := rooms_ok hb (wD (s, behind is m))
  rw [q1] at hro
  have so1 : sortedO ((behind is m).map .int) = .ok (sortD (is.map .int)) := by rw [sortedO_of (sortOK_ints _), sort_perm hp]
  have so2 : sortedO (is.map .int) = .ok (sortD (is.map .int)) := sortedO_of (sortOK_ints _)
  have n1 : cmD .ne (.list (sortD (is.map .int))) (.list (sortD (is.map .int))) = .ok false := cm_ne_self (by rw [sort_ints]; exact shB_list_ints _)
  have n2 := cm_ne_self (sh_walk s (behind is m))
  unfold wD at hro hmv ⊢
  unfold dueD tD
  dsimp only at hro hmv ⊢
  generalize behind is m = T at *
  simp [hmv, n2, so1, so2, n1, hro, optL, hla]
theorem law_true (ns : List Int) : law [.list (ns.map .int)] = .ok (.bool true) := by
  obtain ⟨b, eb, hb, hbn, hbd⟩ := bld_ok ns 2 (by decide) 4 4 (by decide) (by decide) (by decide) (by decide)
  obtain ⟨s, is, e, ew, hs0, hs1, hgo, hil⟩ := walked_ok ns 3 (by decide) hb 7 (by decide) (by decide)
  obtain ⟨rs, hrs, hl, hR⟩ := rooms_full hs0 hs1 (by omega) hgo
  have h8 : rs.length ≤ 8 := by omega
  have hd := go_fine hgo
  have e1 := law_moves_ok hb hgo hrs hl h8
  have e2 := moves_ok hb hrs hl h8 hd
  have hmem : ∀ m ∈ sortM (due b rs is), Good b rs is m := fun m hm => due_good (sortM_mem.mp hm)
  have hlen : (sortM (due b rs is)).length ≤ 8000 := by
    have := due_len (b := b) (is := is) h8
    unfold sortM
    rw [List.length_mergeSort]
    omega
  generalize sortM (due b rs is) = L at *
  have n1 := cm_ne_self (sh_mvs L)
  have hw : wD (s, is) = .tuple [.int s, .tuple (is.map .int)] := rfl
  have many := lmoved_many many_ok
  have walk := lmoved_walk (none_ok hb)
  have ht : bD twoB = .tuple [.int 2, .tuple [.tuple [.int 0, .int 1, .str "two-way"]]] := rfl
  have hz : wD (0, List.replicate 11 0) = .tuple [.int 0, .tuple [.int 0, .int 0, .int 0, .int 0, .int 0, .int 0, .int 0, .int 0, .int 0, .int 0, .int 0]] := rfl
  rw [ht, hz] at many
  have hC := fun v0 => comp_mv is L hlen (v0 := v0) (v1 := .val (bD b)) (v2 := .val (.int s)) (v3 := .val (.tuple (is.map .int))) (v4 := .val (.int e)) (v5 := .val (wD (s, is))) (v7 := .un) (v8 := .un) (v9 := .un)
  unfold law law_b
  rw [hw] at e1 e2 hC
  simp [eb, ew, e1, e2, hC, n1]
  generalize hF : forS _ _ _ _ = RR
  obtain ⟨env', rfl, x7, x8, rfl⟩ := forS_of hF (fun i env => ∃ x7 x8, env = [Slot.val (.list (ns.map .int)), .val (bD b), .val (.int s), .val (tD is), .val (.int e), .val (wD (s, is)), .val (.list (L.map (dueD is))), x7, x8, .un]) ⟨.un, .un, rfl⟩ (by
    rintro i d env hdi ⟨x7, x8, rfl⟩
    obtain ⟨m, hm, rfl⟩ := List.mem_map.mp (List.mem_of_getElem? hdi)
    exact ⟨_, turn_ok hb hs0 hs1 hgo hrs hl h8 hR (hmem m hm) _ _ _ _, _, _, rfl⟩)
  clear hF
  have c1 : cmD .eq (.str "many") (.str "many") = .ok true := by
    rw [cm_eq_of (by decide +kernel) (by decide +kernel)]
    exact congrArg Out.ok (by decide +kernel)
  have c2 : cmD .eq (.str "walk") (.str "walk") = .ok true := by
    rw [cm_eq_of (by decide +kernel) (by decide +kernel)]
    exact congrArg Out.ok (by decide +kernel)
  simp [many, walk, c1, c2]
end Sem

namespace Row
open PySem PySem.Spec PyProof.Rows L2 VI Sem
def top (i : Nat) : Stmt := PySem.Challenge.pw_doorcounters_k12_moves.main.body.getD i (.Pass ⟨0, 0, 0, 0⟩)
structure Glob (K : PySem.W.Frag) (mg : Str → Option Value) : Prop where
  b_bool : mg "bool" = none
  b_int : mg "int" = none
  b_isinstance : mg "isinstance" = none
  b_len : mg "len" = none
  b_list : mg "list" = none
  b_max : mg "max" = none
  b_min : mg "min" = none
  b_range : mg "range" = none
  b_sorted : mg "sorted" = none
  b_tuple : mg "tuple" = none
  c_MAX_DOORS : GInt mg "MAX_DOORS" 8
  c_MAX_PASSAGES : GInt mg "MAX_PASSAGES" 10
  c_MAX_ROOMS : GInt mg "MAX_ROOMS" 6
  c_MAX_STEPS : GInt mg "MAX_STEPS" 72
  c_ONE_WAY : GStr mg "ONE_WAY" "one-way"
  c_TWO_WAY : GStr mg "TWO_WAY" "two-way"
  x_InvalidBuilding : ExcG K mg "InvalidBuilding"
  x_InvalidMove : ExcG K mg "InvalidMove"
  x_InvalidWalk : ExcG K mg "InvalidWalk"
  x_TooManyPassages : ExcG K mg "TooManyPassages"
  r : ∀ c ∈ known, ∀ h ∈ hcls, ExcR K mg c h
  k : ∀ c ∈ known, ExcK K mg c
  g__law_cell : FunG K mg "_law_cell" (top 31) ["_law_script", "_law_k"]
  g__law_row : FunG K mg "_law_row" (top 33) ["_law_script", "_law_at"]
  g__law_building : FunG K mg "_law_building" (top 35) ["_law_script", "_law_at", "_law_most_rooms", "_law_most_doors"]
  g__law_side : FunG K mg "_law_side" (top 36) ["_law_building_here", "_law_number", "_law_room"]
  g__law_walked : FunG K mg "_law_walked" (top 37) ["_law_script", "_law_at", "_law_building_here", "_law_most"]
  g__law_whole : FunG K mg "_law_whole" (top 32) ["_law_found"]
  g__law_in : FunG K mg "_law_in" (top 34) ["_law_thing", "_law_low", "_law_high"]
  g__law_rooms : FunG K mg "_law_rooms" (top 38) ["_law_building_here", "_law_value"]
  g__law_moves : FunG K mg "_law_moves" (top 39) ["_law_building_here", "_law_walk"]
  g_in_range : FunG K mg "in_range" (top 12) ["value", "low", "high"]
  g_is_door : FunG K mg "is_door" (top 13) ["rooms", "value"]
  g_is_building : FunG K mg "is_building" (top 14) ["value"]
  g_check_building : FunG K mg "check_building" (top 15) ["building"]
  g_other_side : FunG K mg "other_side" (top 16) ["building", "number", "room"]
  g_trace : FunG K mg "trace" (top 19) ["building", "value"]
  g_checked_rooms : FunG K mg "checked_rooms" (top 20) ["building", "walk"]
  g_may_reverse : FunG K mg "may_reverse" (top 23) ["building", "walk", "rooms", "first", "last"]
  g_moves_of : FunG K mg "moves_of" (top 28) ["building", "walk", "rooms"]
  g_moves : FunG K mg "moves" (top 29) ["building", "walk"]
  g_after : FunG K mg "after" (top 26) ["walk", "move"]
  g_may_exchange : FunG K mg "may_exchange" (top 24) ["rooms", "times"]
  g_allowed : FunG K mg "allowed" (top 25) ["building", "walk", "rooms", "move"]
  g_moved : FunG K mg "moved" (top 27) ["building", "walk", "move"]
  g__law_moved : FunG K mg "_law_moved" (top 40) ["_law_building_here", "_law_walk", "_law_move"]
section
variable {P : Program} {w : World} {K : PySem.W.Frag} {mg : Str → Option Value} {base : Heap}
theorem sc__law_cell : FnScope ["_law_script", "_law_k"] ["_law_script", "_law_k"] (defScope (top 31)) := ⟨rfl, rfl, rfl, by decide +kernel, rfl, by decide +kernel, by decide +kernel⟩
theorem ok__law_cell (G : Glob K mg) : FnV P w K mg base 1 "_law_cell" ["_law_script", "_law_k"] 2 _law_cell := by
  have nd := sc__law_cell.nd
  refine mk_fnv (k := 0) (body := _law_cell_b) G.g__law_cell sc__law_cell 0 rfl fun f cdv A outer s H E hr => ?_
  exact (vss_cons (vs_if (vt_cmp .lt (hu_room hr) (vp_var 1) (VE.p (ve_len G.b_len (vp_var 0))) (mark_of _)) (vss_one (vs_ret (ve_idx (vp_var 0) (vp_var 1)))) vss_nil)
  (vss_one (vs_ret ve_int)))
theorem sc__law_row : FnScope ["_law_script", "_law_at", "_law_cell_here", "_law_found", "_law_time"] ["_law_script", "_law_at"] (defScope (top 33)) := ⟨rfl, rfl, rfl, by decide +kernel, rfl, by decide +kernel, by decide +kernel⟩
theorem ok__law_row (G : Glob K mg) : FnF P w K mg base 2 "_law_row" ["_law_script", "_law_at"] 2 _law_row := by
  have nd := sc__law_row.nd
  refine mk_fnf (k := 1) (body := _law_row_b) G.g__law_row sc__law_row 3 rfl fun f cdv A outer s H E hr => ?_
  exact (vss_cons (vs_set 2 nd (ve_fn (ok__law_cell G) (hr.mono (by decide)) (takes_of rfl rfl rfl rfl) (va_cons (ve_var 0) (va_cons (ve_var 1) va_nil))))
  (vss_cons (vs_own 3 nd (vf_lst va_nil))
  (vss_cons (vs_for (passes_of rfl) rfl (vi_range1 G.b_range (vap_cons (VE.p ve_int) vap_nil)) (vg_name 4 nd) (vss_one (vs_if (vt_cmp .lt (hu_room hr) (VE.p (ve_fn (ok__law_cell G) (hr.mono (by decide)) (takes_of rfl rfl rfl rfl) (va_cons (ve_var 0) (va_cons (ve_var 1) va_nil)))) (VE.p (ve_pow (VE.p ve_int) (VE.p ve_int))) (mark_of _)) (vss_cons (vs_set 2 nd (ve_mod (VE.p (ve_add (VE.p (ve_add (VE.p (ve_add (VE.p (ve_mul (vp_var 2) (VE.p ve_int))) (VE.p (ve_mul (VE.p ve_int) (vp_var 4))))) (VE.p ve_int))) (VE.p (ve_fn (ok__law_cell G) (hr.mono (by decide)) (takes_of rfl rfl rfl rfl) (va_cons (ve_var 0) (va_cons (ve_mod (VE.p (ve_add (VE.p (ve_add (vp_var 1) (VE.p ve_int))) (vp_var 4))) (VE.p ve_int)) va_nil)))))) (VE.p ve_int)))
  (vss_one (vs_app 3 (ve_mod (VE.p (ve_div (vp_var 2) (VE.p ve_int))) (VE.p ve_int))))) (vss_cons (vs_app 3 (ve_mod (vp_var 2) (VE.p ve_int)))
  (vss_one (vs_set 2 nd (ve_div (vp_var 2) (VE.p ve_int))))))))
  (vss_one (vs_retO 3)))))
theorem sc__law_building : FnScope ["_law_script", "_law_at", "_law_most_rooms", "_law_most_doors", "_law_draws", "_law_rooms_here", "_law_doors", "_law_time", "_law_one", "_law_other"] ["_law_script", "_law_at", "_law_most_rooms", "_law_most_doors"] (defScope (top 35)) := ⟨rfl, rfl, rfl, by decide +kernel, rfl, by decide +kernel, by decide +kernel⟩
theorem ok__law_building (G : Glob K mg) : FnV P w K mg base 3 "_law_building" ["_law_script", "_law_at", "_law_most_rooms", "_law_most_doors"] 4 _law_building := by
  have nd := sc__law_building.nd
  refine mk_fnv (k := 2) (body := _law_building_b) G.g__law_building sc__law_building 6 rfl fun f cdv A outer s H E hr => ?_
  exact (vss_cons (vs_own 4 nd (vf_fn (ok__law_row G) (hr.mono (by decide)) (takes_of rfl rfl rfl rfl) (va_cons (ve_var 0) (va_cons (ve_var 1) va_nil))))
  (vss_frz 4 (vss_cons (vs_set 5 nd (ve_add (VE.p ve_int) (VE.p (ve_mod (VE.p (ve_idx (vp_var 4) (VE.p ve_int))) (vp_var 2)))))
  (vss_cons (vs_own 6 nd (vf_lst va_nil))
  (vss_cons (vs_if (vt_cmp .gt (hu_room hr) (vp_var 5) (VE.p ve_int) (mark_of _)) (vss_one (vs_for (passes_of rfl) rfl (vi_range1 G.b_range (vap_cons (VE.p (ve_mod (VE.p (ve_idx (vp_var 4) (VE.p ve_int))) (VE.p (ve_add (vp_var 3) (VE.p ve_int))))) vap_nil)) (vg_name 7 nd) (vss_cons (vs_set 8 nd (ve_mod (VE.p (ve_idx (vp_var 4) (VE.p (ve_add (VE.p ve_int) (VE.p (ve_mul (VE.p ve_int) (vp_var 7))))))) (vp_var 5)))
  (vss_cons (vs_set 9 nd (ve_mod (VE.p (ve_add (VE.p (ve_add (vp_var 8) (VE.p ve_int))) (VE.p (ve_mod (VE.p (ve_idx (vp_var 4) (VE.p (ve_add (VE.p ve_int) (VE.p (ve_mul (VE.p ve_int) (vp_var 7))))))) (VE.p (ve_sub (vp_var 5) (VE.p ve_int))))))) (vp_var 5)))
  (vss_one (vs_if (vt_tru (VE.p (ve_idx (VF.p (vf_lst (va_cons ve_bl (va_cons ve_bl (va_cons (ve_cmp .eq (hu_room hr) (VE.p (ve_mod (VE.p (ve_idx (vp_var 4) (VE.p (ve_add (VE.p ve_int) (VE.p (ve_mul (VE.p ve_int) (vp_var 7))))))) (VE.p ve_int))) (VE.p ve_int) (mark_of _)) va_nil))))) (VE.p (ve_mod (VE.p (ve_idx (vp_var 4) (VE.p ve_int))) (VE.p ve_int)))))) (vss_one (vs_app 6 (ve_tup (va_cons (ve_min G.b_min (vap_cons (vp_var 8) (vap_cons (vp_var 9) vap_nil))) (va_cons (ve_max G.b_max (vap_cons (vp_var 8) (vap_cons (vp_var 9) vap_nil))) (va_cons ve_str va_nil)))))) (vss_one (vs_app 6 (ve_tup (va_cons (ve_var 8) (va_cons (ve_var 9) (va_cons ve_str va_nil)))))))))))) vss_nil)
  (vss_one (vs_ret (ve_tup (va_cons (ve_var 5) (va_cons (ve_tuple G.b_tuple (vp_var 6)) va_nil))))))))))
theorem sc__law_side : FnScope ["_law_building_here", "_law_number", "_law_room", "_law_one", "_law_other", "_law_kind"] ["_law_building_here", "_law_number", "_law_room"] (defScope (top 36)) := ⟨rfl, rfl, rfl, by decide +kernel, rfl, by decide +kernel, by decide +kernel⟩
theorem ok__law_side (G : Glob K mg) : FnV P w K mg base 1 "_law_side" ["_law_building_here", "_law_number", "_law_room"] 3 _law_side := by
  have nd := sc__law_side.nd
  refine mk_fnv (k := 0) (body := _law_side_b) G.g__law_side sc__law_side 3 rfl fun f cdv A outer s H E hr => ?_
  exact (vss_cons (vs_tgt (ve_idx (VE.p (ve_idx (vp_var 0) (VE.p ve_int))) (vp_var 1)) (vg_tup rfl (vgs_cons (vg_name 3 nd) (vgs_cons (vg_name 4 nd) (vgs_cons (vg_name 5 nd) vgs_nil)))))
  (vss_cons (vs_if (vt_cmp .eq (hu_room hr) (vp_var 2) (vp_var 3) (mark_of _)) (vss_one (vs_ret (ve_var 4))) vss_nil)
  (vss_one (vs_ret (ve_if (VW.t (vw_and (vt_cmp .eq (hu_room hr) (vp_var 2) (vp_var 4) (mark_of _)) (vw_and1 (vt_cmp .eq (hu_room hr) (vp_var 5) (VE.p ve_str) (mark_of _))))) (ve_var 3) ve_non)))))
theorem sc__law_walked : FnScope ["_law_script", "_law_at", "_law_building_here", "_law_most", "_law_draws", "_law_start", "_law_room", "_law_doors", "_law_time", "_law_here", "_law_number"] ["_law_script", "_law_at", "_law_building_here", "_law_most"] (defScope (top 37)) := ⟨rfl, rfl, rfl, by decide +kernel, rfl, by decide +kernel, by decide +kernel⟩
theorem ok__law_walked (G : Glob K mg) : FnV P w K mg base 3 "_law_walked" ["_law_script", "_law_at", "_law_building_here", "_law_most"] 4 _law_walked := by
  have nd := sc__law_walked.nd
  refine mk_fnv (k := 2) (body := _law_walked_b) G.g__law_walked sc__law_walked 7 rfl fun f cdv A outer s H E hr => ?_
  exact (vss_cons (vs_own 4 nd (vf_fn (ok__law_row G) (hr.mono (by decide)) (takes_of rfl rfl rfl rfl) (va_cons (ve_var 0) (va_cons (ve_var 1) va_nil))))
  (vss_frz 4 (vss_cons (vs_set 5 nd (ve_mod (VE.p (ve_idx (vp_var 4) (VE.p ve_int))) (VE.p (ve_idx (vp_var 2) (VE.p ve_int)))))
  (vss_cons (vs_set 6 nd (ve_var 5))
  (vss_cons (vs_own 7 nd (vf_lst va_nil))
  (vss_cons (vs_for (passes_of rfl) rfl (vi_range1 G.b_range (vap_cons (VE.p (ve_mod (VE.p (ve_idx (vp_var 4) (VE.p ve_int))) (VE.p (ve_add (vp_var 3) (VE.p ve_int))))) vap_nil)) (vg_name 8 nd) (vss_cons (vs_ownLc 9 [("_law_number", 10)] rfl nd (VI.pk (vi_range1 G.b_range (vap_cons (VE.p (ve_len G.b_len (VE.p (ve_idx (vp_var 2) (VE.p ve_int))))) vap_nil))) (by show blkC ["_law_script", "_law_at", "_law_building_here", "_law_most", "_law_draws", "_law_start", "_law_room", "_law_doors", "_law_time", "_law_here", "_law_number"] (defScope (top 37)) _ _ = true; decide +kernel) (fun _ _ _ _ _ => (vg_name 10 nd)) (fun _ _ _ _ _ => (vts_one (vt_cmp .notN (hu_room hr) (VE.p (ve_fn (ok__law_side G) (hr.mono (by decide)) takes0 (va_cons (ve_var 2) (va_cons (ve_var 10) (va_cons (ve_var 6) va_nil))))) (VE.p ve_non) (mark_of _)))) (fun _ _ _ _ _ => (ve_var 10)))
  (vss_frz 9 (vss_one (vs_if (vt_cmp .ne (hu_room hr) (vp_var 9) (VF.p (vf_lst va_nil)) (mark_of _)) (vss_cons (vs_set 10 nd (ve_idx (vp_var 9) (VE.p (ve_mod (VE.p (ve_idx (vp_var 4) (VE.p (ve_add (VE.p ve_int) (vp_var 8))))) (VE.p (ve_len G.b_len (vp_var 9)))))))
  (vss_cons (vs_app 7 (ve_var 10))
  (vss_one (vs_set 6 nd (ve_fn (ok__law_side G) (hr.mono (by decide)) (takes_of rfl rfl rfl rfl) (va_cons (ve_var 2) (va_cons (ve_var 10) (va_cons (ve_var 6) va_nil)))))))) vss_nil)))))
  (vss_one (vs_ret (ve_tup (va_cons (ve_var 5) (va_cons (ve_tuple G.b_tuple (vp_var 7)) (va_cons (ve_var 6) va_nil))))))))))))
theorem sc__law_whole : FnScope ["_law_found"] ["_law_found"] (defScope (top 32)) := ⟨rfl, rfl, rfl, by decide +kernel, rfl, by decide +kernel, by decide +kernel⟩
theorem ok__law_whole (G : Glob K mg) : FnV P w K mg base 1 "_law_whole" ["_law_found"] 1 _law_whole := by
  have nd := sc__law_whole.nd
  refine mk_fnv (k := 0) (body := _law_whole_b) G.g__law_whole sc__law_whole 0 rfl fun f cdv A outer s H E hr => ?_
  exact (vss_one (vs_ret (ve_and (ve_isi .int G.b_isinstance G.b_int rfl (vp_var 0)) (ve_one (ve_not (VE.p (ve_isi .bool G.b_isinstance G.b_bool rfl (vp_var 0))))))))
theorem sc__law_in : FnScope ["_law_thing", "_law_low", "_law_high"] ["_law_thing", "_law_low", "_law_high"] (defScope (top 34)) := ⟨rfl, rfl, rfl, by decide +kernel, rfl, by decide +kernel, by decide +kernel⟩
theorem ok__law_in (G : Glob K mg) : FnV P w K mg base 2 "_law_in" ["_law_thing", "_law_low", "_law_high"] 3 _law_in := by
  have nd := sc__law_in.nd
  refine mk_fnv (k := 1) (body := _law_in_b) G.g__law_in sc__law_in 0 rfl fun f cdv A outer s H E hr => ?_
  exact (vss_one (vs_ret (ve_and (ve_fn (ok__law_whole G) (hr.mono (by decide)) (takes_of rfl rfl rfl rfl) (va_cons (ve_var 0) va_nil)) (ve_one (ve_ch (hu_room hr) (vp_var 1) (VCh.more (c := .le) (vp_var 0) (VCh.one (c := .le) (vp_var 2))))))))
theorem sc__law_rooms : FnScope ["_law_building_here", "_law_value", "_law_found", "_law_number", "_law_there"] ["_law_building_here", "_law_value"] (defScope (top 38)) := ⟨rfl, rfl, rfl, by decide +kernel, rfl, by decide +kernel, by decide +kernel⟩
theorem ok__law_rooms (G : Glob K mg) : FnV P w K mg base 3 "_law_rooms" ["_law_building_here", "_law_value"] 2 _law_rooms := by
  have nd := sc__law_rooms.nd
  refine mk_fnv (k := 2) (body := _law_rooms_b) G.g__law_rooms sc__law_rooms 3 rfl fun f cdv A outer s H E hr => ?_
  exact (vss_cons (vs_if (VW.t (vw_or (vt_not (vt_tru (VE.p (ve_isi .tuple G.b_isinstance G.b_tuple rfl (vp_var 1))))) (vw_or (vt_cmp .ne (hu_room hr) (VE.p (ve_len G.b_len (vp_var 1))) (VE.p ve_int) (mark_of _)) (vw_or1 (vt_not (vt_tru (VE.p (ve_fn (ok__law_in G) (hr.mono (by decide)) (takes_of rfl rfl rfl rfl) (va_cons (ve_idx (vp_var 1) (VE.p ve_int)) (va_cons ve_int (va_cons (ve_sub (VE.p (ve_idx (vp_var 0) (VE.p ve_int))) (VE.p ve_int)) va_nil))))))))))) (vss_one (vs_ret ve_non)) vss_nil)
  (vss_cons (vs_if (VW.t (vw_or (vt_not (vt_tru (VE.p (ve_isi .tuple G.b_isinstance G.b_tuple rfl (VE.p (ve_idx (vp_var 1) (VE.p ve_int))))))) (vw_or1 (vt_cmp .gt (hu_room hr) (VE.p (ve_len G.b_len (VE.p (ve_idx (vp_var 1) (VE.p ve_int))))) (VE.p ve_int) (mark_of _))))) (vss_one (vs_ret ve_non)) vss_nil)
  (vss_cons (vs_own 2 nd (vf_lst (va_cons (ve_idx (vp_var 1) (VE.p ve_int)) va_nil)))
  (vss_cons (vs_for (passes_of rfl) rfl (vi_seq (ve_idx (vp_var 1) (VE.p ve_int))) (vg_name 3 nd) (vss_cons (vs_if (vt_not (vt_tru (VE.p (ve_fn (ok__law_in G) (hr.mono (by decide)) (takes_of rfl rfl rfl rfl) (va_cons (ve_var 3) (va_cons ve_int (va_cons (ve_sub (VE.p (ve_len G.b_len (VE.p (ve_idx (vp_var 0) (VE.p ve_int))))) (VE.p ve_int)) va_nil))))))) (vss_one (vs_ret ve_non)) vss_nil)
  (vss_cons (vs_set 4 nd (ve_fn (ok__law_side G) (hr.mono (by decide)) (takes_of rfl rfl rfl rfl) (va_cons (ve_var 0) (va_cons (ve_var 3) (va_cons (ve_idx (vp_var 2) (VE.p (ve_neg (VE.p ve_int)))) va_nil)))))
  (vss_cons (vs_if (vt_cmp .isN (hu_room hr) (vp_var 4) (VE.p ve_non) (mark_of _)) (vss_one (vs_ret ve_non)) vss_nil)
  (vss_one (vs_app 2 (ve_var 4)))))))
  (vss_one (vs_frz 2 (vs_ret (ve_var 2))))))))
theorem sc__law_moves : FnScope ["_law_building_here", "_law_walk", "_law_rooms_here", "_law_doors", "_law_found", "_law_first", "_law_last", "_law_part", "_law_other", "_law_end", "_law_middle", "_law_one"] ["_law_building_here", "_law_walk"] (defScope (top 39)) := ⟨rfl, rfl, rfl, by decide +kernel, rfl, by decide +kernel, by decide +kernel⟩
theorem ok__law_moves (G : Glob K mg) : FnF P w K mg base 4 "_law_moves" ["_law_building_here", "_law_walk"] 2 _law_moves := by
  have nd := sc__law_moves.nd
  refine mk_fnf (k := 3) (body := _law_moves_b) G.g__law_moves sc__law_moves 10 rfl fun f cdv A outer s H E hr => ?_
  exact (vss_cons (vs_par 2 3 rfl nd (va_cons (ve_fn (ok__law_rooms G) (hr.mono (by decide)) (takes_of rfl rfl rfl rfl) (va_cons (ve_var 0) (va_cons (ve_var 1) va_nil))) (va_cons (ve_idx (vp_var 1) (VE.p ve_int)) va_nil)))
  (vss_cons (vs_own 4 nd (vf_lst va_nil))
  (vss_cons (vs_for (passes_of rfl) rfl (vi_range1 G.b_range (vap_cons (VE.p (ve_len G.b_len (vp_var 2))) vap_nil)) (vg_name 5 nd) (vss_one (vs_for (passes_of rfl) rfl (vi_range2 G.b_range (vap_cons (VE.p (ve_add (vp_var 5) (VE.p ve_int))) (vap_cons (VE.p (ve_len G.b_len (vp_var 2))) vap_nil))) (vg_name 6 nd) (vss_cons (vs_set 7 nd (ve_sl (vp_var 3) (vo_some (vp_var 5)) (vo_some (vp_var 6))))
  (vss_cons (vs_if (VW.t (vw_and (vt_cmp .eq (hu_room hr) (VE.p (ve_idx (vp_var 2) (vp_var 5))) (VE.p (ve_idx (vp_var 2) (vp_var 6))) (mark_of _)) (vw_and1 (vt_cmp .eq (hu_room hr) (VF.p (vf_lc [("_law_one", 11)] rfl nd (vip_seq (vp_var 7)) (by show blkC ["_law_building_here", "_law_walk", "_law_rooms_here", "_law_doors", "_law_found", "_law_first", "_law_last", "_law_part", "_law_other", "_law_end", "_law_middle", "_law_one"] (defScope (top 39)) _ _ = true; decide +kernel) (fun _ _ _ _ _ => (vg_name 11 nd)) (fun _ _ _ _ _ => (vts_one (vt_cmp .eq (hu_room hr) (VE.p (ve_idx (VE.p (ve_idx (VE.p (ve_idx (vp_var 0) (VE.p ve_int))) (vp_var 11))) (VE.p ve_int))) (VE.p ve_str) (mark_of _)))) (fun _ _ _ _ _ => (ve_var 11)))) (VF.p (vf_lst va_nil)) (mark_of _))))) (vss_one (vs_app 4 (ve_tup (va_cons (ve_tup (va_cons ve_str (va_cons (ve_var 5) (va_cons (ve_var 6) va_nil)))) (va_cons (ve_add (VE.p (ve_add (VE.p (ve_sl (vp_var 3) vo_none (vo_some (vp_var 5)))) (VE.p (ve_rev (vp_var 7))))) (VE.p (ve_sl (vp_var 3) (vo_some (vp_var 6)) vo_none))) va_nil))))) vss_nil)
  (vss_one (vs_for (passes_of rfl) rfl (vi_range2 G.b_range (vap_cons (vp_var 6) (vap_cons (VE.p (ve_len G.b_len (vp_var 2))) vap_nil))) (vg_name 8 nd) (vss_one (vs_for (passes_of rfl) rfl (vi_range2 G.b_range (vap_cons (VE.p (ve_add (vp_var 8) (VE.p ve_int))) (vap_cons (VE.p (ve_len G.b_len (vp_var 2))) vap_nil))) (vg_name 9 nd) (vss_one (vs_if (VW.t (vw_and (vt_cmp .eq (hu_room hr) (VE.p (ve_idx (vp_var 2) (vp_var 5))) (VE.p (ve_idx (vp_var 2) (vp_var 8))) (mark_of _)) (vw_and1 (vt_cmp .eq (hu_room hr) (VE.p (ve_idx (vp_var 2) (vp_var 6))) (VE.p (ve_idx (vp_var 2) (vp_var 9))) (mark_of _))))) (vss_cons (vs_set 10 nd (ve_add (VE.p (ve_add (VE.p (ve_sl (vp_var 3) (vo_some (vp_var 8)) (vo_some (vp_var 9)))) (VE.p (ve_sl (vp_var 3) (vo_some (vp_var 6)) (vo_some (vp_var 8)))))) (vp_var 7)))
  (vss_one (vs_app 4 (ve_tup (va_cons (ve_tup (va_cons ve_str (va_cons (ve_var 5) (va_cons (ve_var 6) (va_cons (ve_var 8) (va_cons (ve_var 9) va_nil)))))) (va_cons (ve_add (VE.p (ve_add (VE.p (ve_sl (vp_var 3) vo_none (vo_some (vp_var 5)))) (vp_var 10))) (VE.p (ve_sl (vp_var 3) (vo_some (vp_var 9)) vo_none))) va_nil)))))) vss_nil)))))))))))
  (vss_one (vs_retF (vf_sorted G.b_sorted (hu_room hr) (vp_var 4)))))))
theorem sc_in_range : FnScope ["value", "low", "high"] ["value", "low", "high"] (defScope (top 12)) := ⟨rfl, rfl, rfl, by decide +kernel, rfl, by decide +kernel, by decide +kernel⟩
theorem ok_in_range (G : Glob K mg) : FnV P w K mg base 1 "in_range" ["value", "low", "high"] 3 in_range := by
  have nd := sc_in_range.nd
  refine mk_fnv (k := 0) (body := in_range_b) G.g_in_range sc_in_range 0 rfl fun f cdv A outer s H E hr => ?_
  exact (vss_one (vs_ret (ve_and (ve_isi .int G.b_isinstance G.b_int rfl (vp_var 0)) (ve_and (ve_not (VE.p (ve_isi .bool G.b_isinstance G.b_bool rfl (vp_var 0)))) (ve_one (ve_ch (hu_room hr) (vp_var 1) (VCh.more (c := .le) (vp_var 0) (VCh.one (c := .le) (vp_var 2)))))))))
theorem sc_is_door : FnScope ["rooms", "value"] ["rooms", "value"] (defScope (top 13)) := ⟨rfl, rfl, rfl, by decide +kernel, rfl, by decide +kernel, by decide +kernel⟩
theorem ok_is_door (G : Glob K mg) : FnV P w K mg base 2 "is_door" ["rooms", "value"] 2 is_door := by
  have nd := sc_is_door.nd
  refine mk_fnv (k := 1) (body := is_door_b) G.g_is_door sc_is_door 0 rfl fun f cdv A outer s H E hr => ?_
  exact (vss_cons (vs_if (VW.t (vw_or (vt_not (vt_tru (VE.p (ve_isi .tuple G.b_isinstance G.b_tuple rfl (vp_var 1))))) (vw_or (vt_cmp .ne (hu_room hr) (VE.p (ve_len G.b_len (vp_var 1))) (VE.p ve_int) (mark_of _)) (vw_or1 (vt_cmp .notIn (hu_room hr) (VE.p (ve_idx (vp_var 1) (VE.p ve_int))) (VE.p (ve_tup (va_cons (ve_cs G.c_ONE_WAY) (va_cons (ve_cs G.c_TWO_WAY) va_nil)))) rfl))))) (vss_one (vs_ret ve_bl)) vss_nil)
  (vss_cons (vs_if (VW.t (vw_or (vt_not (vt_tru (VE.p (ve_fn (ok_in_range G) (hr.mono (by decide)) (takes_of rfl rfl rfl rfl) (va_cons (ve_idx (vp_var 1) (VE.p ve_int)) (va_cons ve_int (va_cons (ve_sub (vp_var 0) (VE.p ve_int)) va_nil))))))) (vw_or1 (vt_not (vt_tru (VE.p (ve_fn (ok_in_range G) (hr.mono (by decide)) (takes_of rfl rfl rfl rfl) (va_cons (ve_idx (vp_var 1) (VE.p ve_int)) (va_cons ve_int (va_cons (ve_sub (vp_var 0) (VE.p ve_int)) va_nil)))))))))) (vss_one (vs_ret ve_bl)) vss_nil)
  (vss_one (vs_ret (ve_if (vt_cmp .eq (hu_room hr) (VE.p (ve_idx (vp_var 1) (VE.p ve_int))) (VE.p (ve_cs G.c_ONE_WAY)) (mark_of _)) (ve_cmp .ne (hu_room hr) (VE.p (ve_idx (vp_var 1) (VE.p ve_int))) (VE.p (ve_idx (vp_var 1) (VE.p ve_int))) (mark_of _)) (ve_cmp .lt (hu_room hr) (VE.p (ve_idx (vp_var 1) (VE.p ve_int))) (VE.p (ve_idx (vp_var 1) (VE.p ve_int))) (mark_of _)))))))
theorem sc_is_building : FnScope ["value", "door"] ["value"] (defScope (top 14)) := ⟨rfl, rfl, rfl, by decide +kernel, rfl, by decide +kernel, by decide +kernel⟩
theorem ok_is_building (G : Glob K mg) : FnV P w K mg base 3 "is_building" ["value"] 1 is_building := by
  have nd := sc_is_building.nd
  refine mk_fnv (k := 2) (body := is_building_b) G.g_is_building sc_is_building 1 rfl fun f cdv A outer s H E hr => ?_
  exact (vss_cons (vs_if (VW.t (vw_or (vt_not (vt_tru (VE.p (ve_isi .tuple G.b_isinstance G.b_tuple rfl (vp_var 0))))) (vw_or (vt_cmp .ne (hu_room hr) (VE.p (ve_len G.b_len (vp_var 0))) (VE.p ve_int) (mark_of _)) (vw_or1 (vt_not (vt_tru (VE.p (ve_fn (ok_in_range G) (hr.mono (by decide)) (takes_of rfl rfl rfl rfl) (va_cons (ve_idx (vp_var 0) (VE.p ve_int)) (va_cons ve_int (va_cons (ve_cn G.c_MAX_ROOMS) va_nil))))))))))) (vss_one (vs_ret ve_bl)) vss_nil)
  (vss_cons (vs_if (VW.t (vw_or (vt_not (vt_tru (VE.p (ve_isi .tuple G.b_isinstance G.b_tuple rfl (VE.p (ve_idx (vp_var 0) (VE.p ve_int))))))) (vw_or1 (vt_cmp .gt (hu_room hr) (VE.p (ve_len G.b_len (VE.p (ve_idx (vp_var 0) (VE.p ve_int))))) (VE.p (ve_cn G.c_MAX_DOORS)) (mark_of _))))) (vss_one (vs_ret ve_bl)) vss_nil)
  (vss_one (vs_ret (ve_not (VF.p (vf_lc [("door", 1)] rfl nd (vip_seq (VE.p (ve_idx (vp_var 0) (VE.p ve_int)))) (by show blkC ["value", "door"] (defScope (top 14)) _ _ = true; decide +kernel) (fun _ _ _ _ _ => (vg_name 1 nd)) (fun _ _ _ _ _ => (vts_one (vt_not (vt_tru (VE.p (ve_fn (ok_is_door G) (hr.mono (by decide)) takes0 (va_cons (ve_idx (vp_var 0) (VE.p ve_int)) (va_cons (ve_var 1) va_nil)))))))) (fun _ _ _ _ _ => (ve_var 1)))))))))
theorem sc_check_building : FnScope ["building"] ["building"] (defScope (top 15)) := ⟨rfl, rfl, rfl, by decide +kernel, rfl, by decide +kernel, by decide +kernel⟩
theorem ok_check_building (G : Glob K mg) : FnV P w K mg base 4 "check_building" ["building"] 1 check_building := by
  have nd := sc_check_building.nd
  refine mk_fnv (k := 3) (body := check_building_b) G.g_check_building sc_check_building 0 rfl fun f cdv A outer s H E hr => ?_
  exact (vss_one (vs_if (vt_not (vt_tru (VE.p (ve_fn (ok_is_building G) (hr.mono (by decide)) (takes_of rfl rfl rfl rfl) (va_cons (ve_var 0) va_nil))))) (vss_one (vs_rse G.x_InvalidBuilding rfl (takes_of rfl rfl rfl rfl))) vss_nil))
theorem sc_other_side : FnScope ["building", "number", "room", "one", "other", "kind"] ["building", "number", "room"] (defScope (top 16)) := ⟨rfl, rfl, rfl, by decide +kernel, rfl, by decide +kernel, by decide +kernel⟩
theorem ok_other_side (G : Glob K mg) : FnV P w K mg base 1 "other_side" ["building", "number", "room"] 3 other_side := by
  have nd := sc_other_side.nd
  refine mk_fnv (k := 0) (body := other_side_b) G.g_other_side sc_other_side 3 rfl fun f cdv A outer s H E hr => ?_
  exact (vss_cons (vs_tgt (ve_idx (VE.p (ve_idx (vp_var 0) (VE.p ve_int))) (vp_var 1)) (vg_tup rfl (vgs_cons (vg_name 3 nd) (vgs_cons (vg_name 4 nd) (vgs_cons (vg_name 5 nd) vgs_nil)))))
  (vss_cons (vs_if (vt_cmp .eq (hu_room hr) (vp_var 2) (vp_var 3) (mark_of _)) (vss_one (vs_ret (ve_var 4))) vss_nil)
  (vss_one (vs_ret (ve_if (VW.t (vw_and (vt_cmp .eq (hu_room hr) (vp_var 2) (vp_var 4) (mark_of _)) (vw_and1 (vt_cmp .eq (hu_room hr) (vp_var 5) (VE.p (ve_cs G.c_TWO_WAY)) (mark_of _))))) (ve_var 3) ve_non)))))
theorem sc_trace : FnScope ["building", "value", "rooms", "number", "room"] ["building", "value"] (defScope (top 19)) := ⟨rfl, rfl, rfl, by decide +kernel, rfl, by decide +kernel, by decide +kernel⟩
theorem ok_trace (G : Glob K mg) : FnV P w K mg base 2 "trace" ["building", "value"] 2 trace := by
  have nd := sc_trace.nd
  refine mk_fnv (k := 1) (body := trace_b) G.g_trace sc_trace 3 rfl fun f cdv A outer s H E hr => ?_
  exact (vss_cons (vs_if (VW.t (vw_or (vt_not (vt_tru (VE.p (ve_isi .tuple G.b_isinstance G.b_tuple rfl (vp_var 1))))) (vw_or (vt_cmp .ne (hu_room hr) (VE.p (ve_len G.b_len (vp_var 1))) (VE.p ve_int) (mark_of _)) (vw_or1 (vt_not (vt_tru (VE.p (ve_fn (ok_in_range G) (hr.mono (by decide)) (takes_of rfl rfl rfl rfl) (va_cons (ve_idx (vp_var 1) (VE.p ve_int)) (va_cons ve_int (va_cons (ve_sub (VE.p (ve_idx (vp_var 0) (VE.p ve_int))) (VE.p ve_int)) va_nil))))))))))) (vss_one (vs_ret ve_non)) vss_nil)
  (vss_cons (vs_if (VW.t (vw_or (vt_not (vt_tru (VE.p (ve_isi .tuple G.b_isinstance G.b_tuple rfl (VE.p (ve_idx (vp_var 1) (VE.p ve_int))))))) (vw_or1 (vt_cmp .gt (hu_room hr) (VE.p (ve_len G.b_len (VE.p (ve_idx (vp_var 1) (VE.p ve_int))))) (VE.p (ve_cn G.c_MAX_STEPS)) (mark_of _))))) (vss_one (vs_ret ve_non)) vss_nil)
  (vss_cons (vs_own 2 nd (vf_lst (va_cons (ve_idx (vp_var 1) (VE.p ve_int)) va_nil)))
  (vss_cons (vs_for (passes_of rfl) rfl (vi_seq (ve_idx (vp_var 1) (VE.p ve_int))) (vg_name 3 nd) (vss_cons (vs_if (vt_not (vt_tru (VE.p (ve_fn (ok_in_range G) (hr.mono (by decide)) (takes_of rfl rfl rfl rfl) (va_cons (ve_var 3) (va_cons ve_int (va_cons (ve_sub (VE.p (ve_len G.b_len (VE.p (ve_idx (vp_var 0) (VE.p ve_int))))) (VE.p ve_int)) va_nil))))))) (vss_one (vs_ret ve_non)) vss_nil)
  (vss_cons (vs_set 4 nd (ve_fn (ok_other_side G) (hr.mono (by decide)) (takes_of rfl rfl rfl rfl) (va_cons (ve_var 0) (va_cons (ve_var 3) (va_cons (ve_idx (vp_var 2) (VE.p (ve_neg (VE.p ve_int)))) va_nil)))))
  (vss_cons (vs_if (vt_cmp .isN (hu_room hr) (vp_var 4) (VE.p ve_non) (mark_of _)) (vss_one (vs_ret ve_non)) vss_nil)
  (vss_one (vs_app 2 (ve_var 4)))))))
  (vss_one (vs_frz 2 (vs_ret (ve_var 2))))))))
theorem sc_checked_rooms : FnScope ["building", "walk", "rooms"] ["building", "walk"] (defScope (top 20)) := ⟨rfl, rfl, rfl, by decide +kernel, rfl, by decide +kernel, by decide +kernel⟩
theorem ok_checked_rooms (G : Glob K mg) : FnV P w K mg base 3 "checked_rooms" ["building", "walk"] 2 checked_rooms := by
  have nd := sc_checked_rooms.nd
  refine mk_fnv (k := 2) (body := checked_rooms_b) G.g_checked_rooms sc_checked_rooms 1 rfl fun f cdv A outer s H E hr => ?_
  exact (vss_cons (vs_set 2 nd (ve_fn (ok_trace G) (hr.mono (by decide)) (takes_of rfl rfl rfl rfl) (va_cons (ve_var 0) (va_cons (ve_var 1) va_nil))))
  (vss_cons (vs_if (vt_cmp .isN (hu_room hr) (vp_var 2) (VE.p ve_non) (mark_of _)) (vss_one (vs_rse G.x_InvalidWalk rfl (takes_of rfl rfl rfl rfl))) vss_nil)
  (vss_one (vs_ret (ve_var 2)))))
theorem sc_may_reverse : FnScope ["building", "walk", "rooms", "first", "last", "number"] ["building", "walk", "rooms", "first", "last"] (defScope (top 23)) := ⟨rfl, rfl, rfl, by decide +kernel, rfl, by decide +kernel, by decide +kernel⟩
theorem ok_may_reverse (G : Glob K mg) : FnV P w K mg base 1 "may_reverse" ["building", "walk", "rooms", "first", "last"] 5 may_reverse := by
  have nd := sc_may_reverse.nd
  refine mk_fnv (k := 0) (body := may_reverse_b) G.g_may_reverse sc_may_reverse 1 rfl fun f cdv A outer s H E hr => ?_
  exact (vss_cons (vs_if (VW.t (vw_or (vt_not (vt_ch (hu_room hr) (VE.p ve_int) (VCh.more (c := .le) (vp_var 3) (VCh.more (c := .lt) (vp_var 4) (VCh.one (c := .lt) (VE.p (ve_len G.b_len (vp_var 2)))))))) (vw_or1 (vt_cmp .ne (hu_room hr) (VE.p (ve_idx (vp_var 2) (vp_var 3))) (VE.p (ve_idx (vp_var 2) (vp_var 4))) (mark_of _))))) (vss_one (vs_ret ve_bl)) vss_nil)
  (vss_one (vs_ret (ve_not (VF.p (vf_lc [("number", 5)] rfl nd (vip_seq (VE.p (ve_sl (VE.p (ve_idx (vp_var 1) (VE.p ve_int))) (vo_some (vp_var 3)) (vo_some (vp_var 4))))) (by show blkC ["building", "walk", "rooms", "first", "last", "number"] (defScope (top 23)) _ _ = true; decide +kernel) (fun _ _ _ _ _ => (vg_name 5 nd)) (fun _ _ _ _ _ => (vts_one (vt_cmp .ne (hu_room hr) (VE.p (ve_idx (VE.p (ve_idx (VE.p (ve_idx (vp_var 0) (VE.p ve_int))) (vp_var 5))) (VE.p ve_int))) (VE.p (ve_cs G.c_TWO_WAY)) (mark_of _)))) (fun _ _ _ _ _ => (ve_var 5))))))))
theorem sc_moves_of : FnScope ["building", "walk", "rooms", "times", "pairs", "result", "first", "last", "other", "end"] ["building", "walk", "rooms"] (defScope (top 28)) := ⟨rfl, rfl, rfl, by decide +kernel, rfl, by decide +kernel, by decide +kernel⟩
theorem ok_moves_of (G : Glob K mg) : FnF P w K mg base 2 "moves_of" ["building", "walk", "rooms"] 3 moves_of := by
  have nd := sc_moves_of.nd
  refine mk_fnf (k := 1) (body := moves_of_b) G.g_moves_of sc_moves_of 7 rfl fun f cdv A outer s H E hr => ?_
  exact (vss_cons (vs_own 3 nd (vf_listRg1 G.b_list G.b_range (VE.p (ve_len G.b_len (vp_var 2)))))
  (vss_frz 3 (vss_cons (vs_ownLc2 4 [("first", 6), ("last", 7)] [7] rfl nd (vip_seq (vp_var 3)) (by show blkC ["building", "walk", "rooms", "times", "pairs", "result", "first", "last", "other", "end"] (defScope (top 28)) _ _ = true; decide +kernel) (fun _ _ _ _ _ => (vg_name 6 nd)) (fun _ _ _ _ _ => vts_nil) (fun _ _ _ _ _ => (vi_seq (ve_var 3))) (fun _ _ _ _ _ => (vg_name 7 nd)) (fun _ _ _ _ _ => (vts_one (vt_cmp .lt (hu_room hr) (vp_var 6) (vp_var 7) (mark_of _)))) (fun _ _ _ _ _ => (ve_tup (va_cons (ve_var 6) (va_cons (ve_var 7) va_nil)))))
  (vss_frz 4 (vss_cons (vs_own 5 nd (vf_lst va_nil))
  (vss_cons (vs_for (passes_of rfl) rfl (vi_seq (ve_var 4)) (vg_tup rfl (vgs_cons (vg_name 6 nd) (vgs_cons (vg_name 7 nd) vgs_nil))) (vss_cons (vs_if (vt_tru (VE.p (ve_fn (ok_may_reverse G) (hr.mono (by decide)) (takes_of rfl rfl rfl rfl) (va_cons (ve_var 0) (va_cons (ve_var 1) (va_cons (ve_var 2) (va_cons (ve_var 6) (va_cons (ve_var 7) va_nil)))))))) (vss_one (vs_app 5 (ve_tup (va_cons ve_str (va_cons (ve_var 6) (va_cons (ve_var 7) va_nil)))))) vss_nil)
  (vss_one (vs_for (passes_of rfl) rfl (vi_seq (ve_var 4)) (vg_tup rfl (vgs_cons (vg_name 8 nd) (vgs_cons (vg_name 9 nd) vgs_nil))) (vss_one (vs_if (VW.t (vw_and (vt_cmp .le (hu_room hr) (vp_var 7) (vp_var 8) (mark_of _)) (vw_and (vt_cmp .eq (hu_room hr) (VE.p (ve_idx (vp_var 2) (vp_var 6))) (VE.p (ve_idx (vp_var 2) (vp_var 8))) (mark_of _)) (vw_and1 (vt_cmp .eq (hu_room hr) (VE.p (ve_idx (vp_var 2) (vp_var 7))) (VE.p (ve_idx (vp_var 2) (vp_var 9))) (mark_of _)))))) (vss_one (vs_app 5 (ve_tup (va_cons ve_str (va_cons (ve_var 6) (va_cons (ve_var 7) (va_cons (ve_var 8) (va_cons (ve_var 9) va_nil)))))))) vss_nil))))))
  (vss_one (vs_retF (vf_sorted G.b_sorted (hu_room hr) (vp_var 5))))))))))
theorem sc_moves : FnScope ["building", "walk", "rooms"] ["building", "walk"] (defScope (top 29)) := ⟨rfl, rfl, rfl, by decide +kernel, rfl, by decide +kernel, by decide +kernel⟩
theorem ok_moves (G : Glob K mg) : FnF P w K mg base 5 "moves" ["building", "walk"] 2 moves := by
  have nd := sc_moves.nd
  refine mk_fnf (k := 4) (body := moves_b) G.g_moves sc_moves 1 rfl fun f cdv A outer s H E hr => ?_
  exact (vss_cons (vs_drop (ve_fn (ok_check_building G) (hr.mono (by decide)) (takes_of rfl rfl rfl rfl) (va_cons (ve_var 0) va_nil)))
  (vss_cons (vs_set 2 nd (ve_fn (ok_checked_rooms G) (hr.mono (by decide)) (takes_of rfl rfl rfl rfl) (va_cons (ve_var 0) (va_cons (ve_var 1) va_nil))))
  (vss_cons (vs_if (vt_cmp .gt (hu_room hr) (VE.p (ve_len G.b_len (vp_var 2))) (VE.p (ve_add (VE.p (ve_cn G.c_MAX_PASSAGES)) (VE.p ve_int))) (mark_of _)) (vss_one (vs_rse G.x_TooManyPassages rfl (takes_of rfl rfl rfl rfl))) vss_nil)
  (vss_one (vs_retF (vf_fn (ok_moves_of G) (hr.mono (by decide)) (takes_of rfl rfl rfl rfl) (va_cons (ve_var 0) (va_cons (ve_var 1) (va_cons (ve_var 2) va_nil)))))))))
theorem sc_after : FnScope ["walk", "move", "doors", "first", "last", "other", "end", "middle"] ["walk", "move"] (defScope (top 26)) := ⟨rfl, rfl, rfl, by decide +kernel, rfl, by decide +kernel, by decide +kernel⟩
theorem ok_after (G : Glob K mg) : FnV P w K mg base 1 "after" ["walk", "move"] 2 after := by
  have nd := sc_after.nd
  refine mk_fnv (k := 0) (body := after_b) G.g_after sc_after 6 rfl fun f cdv A outer s H E hr => ?_
  exact (vss_cons (vs_set 2 nd (ve_idx (vp_var 0) (VE.p ve_int)))
  (vss_cons (vs_if (vt_cmp .eq (hu_room hr) (VE.p (ve_idx (vp_var 1) (VE.p ve_int))) (VE.p ve_str) (mark_of _)) (vss_one (vs_ret (ve_tup (va_cons (ve_idx (vp_var 0) (VE.p ve_int)) (va_cons (ve_add (VE.p (ve_add (VE.p (ve_sl (vp_var 2) vo_none (vo_some (VE.p (ve_idx (vp_var 1) (VE.p ve_int)))))) (VE.p (ve_rev (VE.p (ve_sl (vp_var 2) (vo_some (VE.p (ve_idx (vp_var 1) (VE.p ve_int)))) (vo_some (VE.p (ve_idx (vp_var 1) (VE.p ve_int)))))))))) (VE.p (ve_sl (vp_var 2) (vo_some (VE.p (ve_idx (vp_var 1) (VE.p ve_int)))) vo_none))) va_nil))))) vss_nil)
  (vss_cons (vs_tgt (ve_sl (vp_var 1) (vo_some (VE.p ve_int)) vo_none) (vg_tup rfl (vgs_cons (vg_name 3 nd) (vgs_cons (vg_name 4 nd) (vgs_cons (vg_name 5 nd) (vgs_cons (vg_name 6 nd) vgs_nil))))))
  (vss_cons (vs_set 7 nd (ve_add (VE.p (ve_add (VE.p (ve_sl (vp_var 2) (vo_some (vp_var 5)) (vo_some (vp_var 6)))) (VE.p (ve_sl (vp_var 2) (vo_some (vp_var 4)) (vo_some (vp_var 5)))))) (VE.p (ve_sl (vp_var 2) (vo_some (vp_var 3)) (vo_some (vp_var 4))))))
  (vss_one (vs_ret (ve_tup (va_cons (ve_idx (vp_var 0) (VE.p ve_int)) (va_cons (ve_add (VE.p (ve_add (VE.p (ve_sl (vp_var 2) vo_none (vo_some (vp_var 3)))) (vp_var 7))) (VE.p (ve_sl (vp_var 2) (vo_some (vp_var 6)) vo_none))) va_nil)))))))))
theorem sc_may_exchange : FnScope ["rooms", "times", "first", "last", "other", "end"] ["rooms", "times"] (defScope (top 24)) := ⟨rfl, rfl, rfl, by decide +kernel, rfl, by decide +kernel, by decide +kernel⟩
theorem ok_may_exchange (G : Glob K mg) : FnV P w K mg base 1 "may_exchange" ["rooms", "times"] 2 may_exchange := by
  have nd := sc_may_exchange.nd
  refine mk_fnv (k := 0) (body := may_exchange_b) G.g_may_exchange sc_may_exchange 4 rfl fun f cdv A outer s H E hr => ?_
  exact (vss_cons (vs_tgt (ve_var 1) (vg_tup rfl (vgs_cons (vg_name 2 nd) (vgs_cons (vg_name 3 nd) (vgs_cons (vg_name 4 nd) (vgs_cons (vg_name 5 nd) vgs_nil))))))
  (vss_cons (vs_if (vt_not (vt_ch (hu_room hr) (VE.p ve_int) (VCh.more (c := .le) (vp_var 2) (VCh.more (c := .lt) (vp_var 3) (VCh.more (c := .le) (vp_var 4) (VCh.more (c := .lt) (vp_var 5) (VCh.one (c := .lt) (VE.p (ve_len G.b_len (vp_var 0)))))))))) (vss_one (vs_ret ve_bl)) vss_nil)
  (vss_one (vs_ret (ve_and (ve_cmp .eq (hu_room hr) (VE.p (ve_idx (vp_var 0) (vp_var 2))) (VE.p (ve_idx (vp_var 0) (vp_var 4))) (mark_of _)) (ve_one (ve_cmp .eq (hu_room hr) (VE.p (ve_idx (vp_var 0) (vp_var 3))) (VE.p (ve_idx (vp_var 0) (vp_var 5))) (mark_of _))))))))
theorem sc_allowed : FnScope ["building", "walk", "rooms", "move", "time"] ["building", "walk", "rooms", "move"] (defScope (top 25)) := ⟨rfl, rfl, rfl, by decide +kernel, rfl, by decide +kernel, by decide +kernel⟩
theorem ok_allowed (G : Glob K mg) : FnV P w K mg base 2 "allowed" ["building", "walk", "rooms", "move"] 4 allowed := by
  have nd := sc_allowed.nd
  refine mk_fnv (k := 1) (body := allowed_b) G.g_allowed sc_allowed 1 rfl fun f cdv A outer s H E hr => ?_
  exact (vss_cons (vs_if (VW.t (vw_or (vt_not (vt_tru (VE.p (ve_isi .tuple G.b_isinstance G.b_tuple rfl (vp_var 3))))) (vw_or1 (vt_tru (VF.p (vf_lc [("time", 4)] rfl nd (vip_seq (VE.p (ve_sl (vp_var 3) (vo_some (VE.p ve_int)) vo_none))) (by show blkC ["building", "walk", "rooms", "move", "time"] (defScope (top 25)) _ _ = true; decide +kernel) (fun _ _ _ _ _ => (vg_name 4 nd)) (fun _ _ _ _ _ => (vts_one (vt_not (vt_tru (VE.p (ve_fn (ok_in_range G) (hr.mono (by decide)) takes0 (va_cons (ve_var 4) (va_cons ve_int (va_cons (ve_sub (VE.p (ve_len G.b_len (vp_var 2))) (VE.p ve_int)) va_nil))))))))) (fun _ _ _ _ _ => (ve_var 4)))))))) (vss_one (vs_ret ve_bl)) vss_nil)
  (vss_cons (vs_if (VW.t (vw_and (vt_cmp .eq (hu_room hr) (VE.p (ve_len G.b_len (vp_var 3))) (VE.p ve_int) (mark_of _)) (vw_and1 (vt_cmp .eq (hu_room hr) (VE.p (ve_idx (vp_var 3) (VE.p ve_int))) (VE.p ve_str) (mark_of _))))) (vss_one (vs_ret (ve_fn (ok_may_reverse G) (hr.mono (by decide)) (takes_of rfl rfl rfl rfl) (va_cons (ve_var 0) (va_cons (ve_var 1) (va_cons (ve_var 2) (va_cons (ve_idx (vp_var 3) (VE.p ve_int)) (va_cons (ve_idx (vp_var 3) (VE.p ve_int)) va_nil)))))))) vss_nil)
  (vss_one (vs_ret (ve_and (ve_cmp .eq (hu_room hr) (VE.p (ve_len G.b_len (vp_var 3))) (VE.p ve_int) (mark_of _)) (ve_and (ve_cmp .eq (hu_room hr) (VE.p (ve_idx (vp_var 3) (VE.p ve_int))) (VE.p ve_str) (mark_of _)) (ve_one (ve_fn (ok_may_exchange G) (hr.mono (by decide)) (takes_of rfl rfl rfl rfl) (va_cons (ve_var 2) (va_cons (ve_sl (vp_var 3) (vo_some (VE.p ve_int)) vo_none) va_nil))))))))))
theorem sc_moved : FnScope ["building", "walk", "move", "rooms"] ["building", "walk", "move"] (defScope (top 27)) := ⟨rfl, rfl, rfl, by decide +kernel, rfl, by decide +kernel, by decide +kernel⟩
theorem ok_moved (G : Glob K mg) : FnV P w K mg base 5 "moved" ["building", "walk", "move"] 3 moved := by
  have nd := sc_moved.nd
  refine mk_fnv (k := 4) (body := moved_b) G.g_moved sc_moved 1 rfl fun f cdv A outer s H E hr => ?_
  exact (vss_cons (vs_drop (ve_fn (ok_check_building G) (hr.mono (by decide)) (takes_of rfl rfl rfl rfl) (va_cons (ve_var 0) va_nil)))
  (vss_cons (vs_set 3 nd (ve_fn (ok_checked_rooms G) (hr.mono (by decide)) (takes_of rfl rfl rfl rfl) (va_cons (ve_var 0) (va_cons (ve_var 1) va_nil))))
  (vss_cons (vs_if (vt_not (vt_tru (VE.p (ve_fn (ok_allowed G) (hr.mono (by decide)) (takes_of rfl rfl rfl rfl) (va_cons (ve_var 0) (va_cons (ve_var 1) (va_cons (ve_var 3) (va_cons (ve_var 2) va_nil)))))))) (vss_one (vs_rse G.x_InvalidMove rfl (takes_of rfl rfl rfl rfl))) vss_nil)
  (vss_one (vs_ret (ve_fn (ok_after G) (hr.mono (by decide)) (takes_of rfl rfl rfl rfl) (va_cons (ve_var 1) (va_cons (ve_var 2) va_nil))))))))
theorem sc__law_moved : FnScope ["_law_building_here", "_law_walk", "_law_move", "e"] ["_law_building_here", "_law_walk", "_law_move"] (defScope (top 40)) := ⟨rfl, rfl, rfl, by decide +kernel, rfl, by decide +kernel, by decide +kernel⟩
theorem ok__law_moved (G : Glob K mg) : FnV P w K mg base 6 "_law_moved" ["_law_building_here", "_law_walk", "_law_move"] 3 _law_moved := by
  have nd := sc__law_moved.nd
  refine mk_fnv (k := 5) (body := _law_moved_b) G.g__law_moved sc__law_moved 1 rfl fun f cdv A outer s H E hr => ?_
  exact (vss_one (vs_try rfl rfl nd (takes_of rfl rfl rfl rfl) (fun W pn xe tk hp => (vss_one (vs_ret (ve_if (vt_cmp .isN (hu_room hr) (vp_var 2) (VE.p ve_non) (mark_of _)) (VF.l (vf_fn (ok_moves G) (hr.mono (by decide)) tk (va_cons (ve_var 0) (va_cons (ve_var 1) va_nil)))) (ve_fn (ok_moved G) (hr.mono (by decide)) tk (va_cons (ve_var 0) (va_cons (ve_var 1) (va_cons (ve_var 2) va_nil)))))))) (HdsV.cons rfl (by decide) rfl rfl (fun a oe C pn c hc hC hz hf => (vss_one (vs_ret (ve_if (VW.t (vw_and (vt_tru (VE.p (ve_isE 3 G.b_isinstance hz hf hC (G.k c hc) (G.r c hc "DoorError" (by decide +kernel))))) (vw_and1 (vt_not (vt_tru (VE.p (ve_isE 3 G.b_isinstance hz hf hC (G.k c hc) (G.r c hc "InvalidWalk" (by decide +kernel))))))))) ve_str ve_str)))) (HdsV.cons rfl (by decide) rfl rfl (fun a oe C pn c hc hC hz hf => (vss_one (vs_ret (ve_if (VW.t (vw_and (vt_tru (VE.p (ve_isE 3 G.b_isinstance hz hf hC (G.k c hc) (G.r c hc "DoorError" (by decide +kernel))))) (vw_and1 (vt_not (vt_tru (VE.p (ve_isE 3 G.b_isinstance hz hf hC (G.k c hc) (G.r c hc "InvalidMove" (by decide +kernel))))))))) ve_str ve_str)))) (HdsV.cons rfl (by decide) rfl rfl (fun a oe C pn c hc hC hz hf => (vss_one (vs_ret (ve_if (VW.t (vw_and (vt_tru (VE.p (ve_isE 3 G.b_isinstance hz hf hC (G.k c hc) (G.r c hc "DoorError" (by decide +kernel))))) (vw_and1 (vt_not (vt_tru (VE.p (ve_isE 3 G.b_isinstance hz hf hC (G.k c hc) (G.r c hc "InvalidWalk" (by decide +kernel))))))))) ve_str ve_str)))) HdsV.nil))) ⟨_, List.mem_cons_self⟩ (hk_of G.r _ (by decide +kernel))))
theorem sc_law : FnScope ["_law_script", "_law_building_here", "_law_start", "_law_doors", "_law_end", "_law_walk", "_law_due", "_law_move", "_law_behind", "_law_two"] ["_law_script"] (defScope (top 41)) := ⟨rfl, rfl, rfl, by decide +kernel, rfl, by decide +kernel, by decide +kernel⟩
theorem okL_law (G : Glob K mg) {f : Addr} {fd : FuncData} (F : Fun K "law" "law" (top 41) f fd) : FnOk P w K mg base (L2.CX P w) 7 f fd ["_law_script"] (spV K mg 1 law) := by
  have nd := sc_law.nd
  refine fn_v (k := 6) (body := law_b) F sc_law 9 rfl fun cdv A outer s H E hr => ?_
  exact (vss_cons (vs_set 1 nd (ve_fn (ok__law_building G) (hr.mono (by decide)) (takes_of rfl rfl rfl rfl) (va_cons (ve_var 0) (va_cons ve_int (va_cons ve_int (va_cons ve_int va_nil))))))
  (vss_cons (vs_tgt (ve_fn (ok__law_walked G) (hr.mono (by decide)) (takes_of rfl rfl rfl rfl) (va_cons (ve_var 0) (va_cons ve_int (va_cons (ve_var 1) (va_cons ve_int va_nil))))) (vg_tup rfl (vgs_cons (vg_name 2 nd) (vgs_cons (vg_name 3 nd) (vgs_cons (vg_name 4 nd) vgs_nil)))))
  (vss_cons (vs_set 5 nd (ve_tup (va_cons (ve_var 2) (va_cons (ve_var 3) va_nil))))
  (vss_cons (vs_own 6 nd (vf_fn (ok__law_moves G) (hr.mono (by decide)) (takes_of rfl rfl rfl rfl) (va_cons (ve_var 1) (va_cons (ve_var 5) va_nil))))
  (vss_frz 6 (vss_cons (vs_if (vt_cmp .ne (hu_room hr) (VF.p (vf_fn (ok_moves G) (hr.mono (by decide)) (takes_of rfl rfl rfl rfl) (va_cons (ve_var 1) (va_cons (ve_var 5) va_nil)))) (VF.p (vf_lc [("_law_move", 7), ("_law_behind", 8)] rfl nd (vip_seq (vp_var 6)) (by show blkC ["_law_script", "_law_building_here", "_law_start", "_law_doors", "_law_end", "_law_walk", "_law_due", "_law_move", "_law_behind", "_law_two"] (defScope (top 41)) _ _ = true; decide +kernel) (fun _ _ _ _ _ => (vg_tup rfl (vgs_cons (vg_name 7 nd) (vgs_cons (vg_name 8 nd) vgs_nil)))) (fun _ _ _ _ _ => vts_nil) (fun _ _ _ _ _ => (ve_var 7)))) (mark_of _)) (vss_one (vs_ret ve_bl)) vss_nil)
  (vss_cons (vs_for (passes_of rfl) rfl (vi_seq (ve_var 6)) (vg_tup rfl (vgs_cons (vg_name 7 nd) (vgs_cons (vg_name 8 nd) vgs_nil))) (vss_cons (vs_if (vt_cmp .ne (hu_room hr) (VE.p (ve_fn (ok_moved G) (hr.mono (by decide)) (takes_of rfl rfl rfl rfl) (va_cons (ve_var 1) (va_cons (ve_var 5) (va_cons (ve_var 7) va_nil))))) (VE.p (ve_tup (va_cons (ve_var 2) (va_cons (ve_var 8) va_nil)))) (mark_of _)) (vss_one (vs_ret ve_bl)) vss_nil)
  (vss_one (vs_if (VW.t (vw_or (vt_cmp .ne (hu_room hr) (VF.p (vf_sorted G.b_sorted (hu_room hr) (vp_var 8))) (VF.p (vf_sorted G.b_sorted (hu_room hr) (vp_var 3))) (mark_of _)) (vw_or1 (vt_cmp .ne (hu_room hr) (VE.p (ve_idx (VE.p (ve_fn (ok__law_rooms G) (hr.mono (by decide)) (takes_of rfl rfl rfl rfl) (va_cons (ve_var 1) (va_cons (ve_tup (va_cons (ve_var 2) (va_cons (ve_var 8) va_nil))) va_nil)))) (VE.p (ve_neg (VE.p ve_int))))) (vp_var 4) (mark_of _))))) (vss_one (vs_ret ve_bl)) vss_nil))))
  (vss_cons (vs_set 9 nd (ve_tup (va_cons ve_int (va_cons (ve_tup (va_cons (ve_tup (va_cons ve_int (va_cons ve_int (va_cons ve_str va_nil)))) va_nil)) va_nil))))
  (vss_one (vs_ret (ve_and (ve_cmp .eq (hu_room hr) (VE.p (ve_fn (ok__law_moved G) (hr.mono (by decide)) (takes_of rfl rfl rfl rfl) (va_cons (ve_var 9) (va_cons (ve_tup (va_cons ve_int (va_cons (ve_mul (VE.p (ve_tup (va_cons ve_int va_nil))) (VE.p ve_int)) va_nil))) (va_cons ve_non va_nil))))) (VE.p ve_str) (mark_of _)) (ve_one (ve_cmp .eq (hu_room hr) (VE.p (ve_fn (ok__law_moved G) (hr.mono (by decide)) (takes_of rfl rfl rfl rfl) (va_cons (ve_var 1) (va_cons ve_non (va_cons ve_non va_nil))))) (VE.p ve_str) (mark_of _))))))))))))))
end
end Row

namespace Row
open PySem PySem.Spec PyProof.Rows L2 VI Sem
theorem all_mk {l : PySem.W.OpenLaw} {w : World} {K : PySem.W.Frag} {h : Heap} {mg : Str → Option Value} {fa : Addr} (X : K.In h) (G : h.Ns mainGlobals mg) (hfa : mg "law" = some (.ref fa))
  {t_MAX_DOORS : Tok}
  {t_MAX_PASSAGES : Tok}
  {t_MAX_ROOMS : Tok}
  {t_MAX_STEPS : Tok}
  {t_ONE_WAY : Tok}
  {t_TWO_WAY : Tok}
  {C_DoorError : Addr}
  {C_InvalidBuilding : Addr}
  {C_InvalidMove : Addr}
  {C_InvalidWalk : Addr}
  {C_TooManyPassages : Addr}
  {f__law_cell : Addr} {od__law_cell an__law_cell : Option Addr} {sl__law_cell : Array (Option Value)} {oc__law_cell kV__law_cell dc__law_cell pm__law_cell cd__law_cell ct__law_cell : Value}
  {f__law_row : Addr} {od__law_row an__law_row : Option Addr} {sl__law_row : Array (Option Value)} {oc__law_row kV__law_row dc__law_row pm__law_row cd__law_row ct__law_row : Value}
  {f__law_building : Addr} {od__law_building an__law_building : Option Addr} {sl__law_building : Array (Option Value)} {oc__law_building kV__law_building dc__law_building pm__law_building cd__law_building ct__law_building : Value}
  {f__law_side : Addr} {od__law_side an__law_side : Option Addr} {sl__law_side : Array (Option Value)} {oc__law_side kV__law_side dc__law_side pm__law_side cd__law_side ct__law_side : Value}
  {f__law_walked : Addr} {od__law_walked an__law_walked : Option Addr} {sl__law_walked : Array (Option Value)} {oc__law_walked kV__law_walked dc__law_walked pm__law_walked cd__law_walked ct__law_walked : Value}
  {f__law_whole : Addr} {od__law_whole an__law_whole : Option Addr} {sl__law_whole : Array (Option Value)} {oc__law_whole kV__law_whole dc__law_whole pm__law_whole cd__law_whole ct__law_whole : Value}
  {f__law_in : Addr} {od__law_in an__law_in : Option Addr} {sl__law_in : Array (Option Value)} {oc__law_in kV__law_in dc__law_in pm__law_in cd__law_in ct__law_in : Value}
  {f__law_rooms : Addr} {od__law_rooms an__law_rooms : Option Addr} {sl__law_rooms : Array (Option Value)} {oc__law_rooms kV__law_rooms dc__law_rooms pm__law_rooms cd__law_rooms ct__law_rooms : Value}
  {f__law_moves : Addr} {od__law_moves an__law_moves : Option Addr} {sl__law_moves : Array (Option Value)} {oc__law_moves kV__law_moves dc__law_moves pm__law_moves cd__law_moves ct__law_moves : Value}
  {f_in_range : Addr} {od_in_range an_in_range : Option Addr} {sl_in_range : Array (Option Value)} {oc_in_range kV_in_range dc_in_range pm_in_range cd_in_range ct_in_range : Value}
  {f_is_door : Addr} {od_is_door an_is_door : Option Addr} {sl_is_door : Array (Option Value)} {oc_is_door kV_is_door dc_is_door pm_is_door cd_is_door ct_is_door : Value}
  {f_is_building : Addr} {od_is_building an_is_building : Option Addr} {sl_is_building : Array (Option Value)} {oc_is_building kV_is_building dc_is_building pm_is_building cd_is_building ct_is_building : Value}
  {f_check_building : Addr} {od_check_building an_check_building : Option Addr} {sl_check_building : Array (Option Value)} {oc_check_building kV_check_building dc_check_building pm_check_building cd_check_building ct_check_building : Value}
  {f_other_side : Addr} {od_other_side an_other_side : Option Addr} {sl_other_side : Array (Option Value)} {oc_other_side kV_other_side dc_other_side pm_other_side cd_other_side ct_other_side : Value}
  {f_trace : Addr} {od_trace an_trace : Option Addr} {sl_trace : Array (Option Value)} {oc_trace kV_trace dc_trace pm_trace cd_trace ct_trace : Value}
  {f_checked_rooms : Addr} {od_checked_rooms an_checked_rooms : Option Addr} {sl_checked_rooms : Array (Option Value)} {oc_checked_rooms kV_checked_rooms dc_checked_rooms pm_checked_rooms cd_checked_rooms ct_checked_rooms : Value}
  {f_may_reverse : Addr} {od_may_reverse an_may_reverse : Option Addr} {sl_may_reverse : Array (Option Value)} {oc_may_reverse kV_may_reverse dc_may_reverse pm_may_reverse cd_may_reverse ct_may_reverse : Value}
  {f_moves_of : Addr} {od_moves_of an_moves_of : Option Addr} {sl_moves_of : Array (Option Value)} {oc_moves_of kV_moves_of dc_moves_of pm_moves_of cd_moves_of ct_moves_of : Value}
  {f_moves : Addr} {od_moves an_moves : Option Addr} {sl_moves : Array (Option Value)} {oc_moves kV_moves dc_moves pm_moves cd_moves ct_moves : Value}
  {f_after : Addr} {od_after an_after : Option Addr} {sl_after : Array (Option Value)} {oc_after kV_after dc_after pm_after cd_after ct_after : Value}
  {f_may_exchange : Addr} {od_may_exchange an_may_exchange : Option Addr} {sl_may_exchange : Array (Option Value)} {oc_may_exchange kV_may_exchange dc_may_exchange pm_may_exchange cd_may_exchange ct_may_exchange : Value}
  {f_allowed : Addr} {od_allowed an_allowed : Option Addr} {sl_allowed : Array (Option Value)} {oc_allowed kV_allowed dc_allowed pm_allowed cd_allowed ct_allowed : Value}
  {f_moved : Addr} {od_moved an_moved : Option Addr} {sl_moved : Array (Option Value)} {oc_moved kV_moved dc_moved pm_moved cd_moved ct_moved : Value}
  {f__law_moved : Addr} {od__law_moved an__law_moved : Option Addr} {sl__law_moved : Array (Option Value)} {oc__law_moved kV__law_moved dc__law_moved pm__law_moved cd__law_moved ct__law_moved : Value}
  {f_law : Addr} {od_law an_law : Option Addr} {sl_law : Array (Option Value)} {oc_law kV_law dc_law pm_law cd_law ct_law : Value}
  (hb_bool : PySem.W.nsIn K mainGlobals "bool" = some none)
  (hb_int : PySem.W.nsIn K mainGlobals "int" = some none)
  (hb_isinstance : PySem.W.nsIn K mainGlobals "isinstance" = some none)
  (hb_len : PySem.W.nsIn K mainGlobals "len" = some none)
  (hb_list : PySem.W.nsIn K mainGlobals "list" = some none)
  (hb_max : PySem.W.nsIn K mainGlobals "max" = some none)
  (hb_min : PySem.W.nsIn K mainGlobals "min" = some none)
  (hb_range : PySem.W.nsIn K mainGlobals "range" = some none)
  (hb_sorted : PySem.W.nsIn K mainGlobals "sorted" = some none)
  (hb_tuple : PySem.W.nsIn K mainGlobals "tuple" = some none)
  (hc_MAX_DOORS : PySem.W.nsIn K mainGlobals "MAX_DOORS" = some (some (.int 8 t_MAX_DOORS)))
  (hc_MAX_PASSAGES : PySem.W.nsIn K mainGlobals "MAX_PASSAGES" = some (some (.int 10 t_MAX_PASSAGES)))
  (hc_MAX_ROOMS : PySem.W.nsIn K mainGlobals "MAX_ROOMS" = some (some (.int 6 t_MAX_ROOMS)))
  (hc_MAX_STEPS : PySem.W.nsIn K mainGlobals "MAX_STEPS" = some (some (.int 72 t_MAX_STEPS)))
  (hc_ONE_WAY : PySem.W.nsIn K mainGlobals "ONE_WAY" = some (some (.str "one-way" t_ONE_WAY)))
  (hc_TWO_WAY : PySem.W.nsIn K mainGlobals "TWO_WAY" = some (some (.str "two-way" t_TWO_WAY)))
  (ha_DoorError : PySem.W.nsIn K mainGlobals "DoorError" = some (some (.ref C_DoorError)))
  (hb1_DoorError : PySem.W.subIn K (.ref C_DoorError) (.type "BaseException") = some true)
  (ht_DoorError : PySem.W.typeIn K (.ref C_DoorError) = some (.type "type"))
  (hd_DoorError : PySem.W.hasDictIn K C_DoorError = true)
  (ha_InvalidBuilding : PySem.W.nsIn K mainGlobals "InvalidBuilding" = some (some (.ref C_InvalidBuilding)))
  (hb1_InvalidBuilding : PySem.W.subIn K (.ref C_InvalidBuilding) (.type "BaseException") = some true)
  (ht_InvalidBuilding : PySem.W.typeIn K (.ref C_InvalidBuilding) = some (.type "type"))
  (hd_InvalidBuilding : PySem.W.hasDictIn K C_InvalidBuilding = true)
  (ha_InvalidMove : PySem.W.nsIn K mainGlobals "InvalidMove" = some (some (.ref C_InvalidMove)))
  (hb1_InvalidMove : PySem.W.subIn K (.ref C_InvalidMove) (.type "BaseException") = some true)
  (ht_InvalidMove : PySem.W.typeIn K (.ref C_InvalidMove) = some (.type "type"))
  (hd_InvalidMove : PySem.W.hasDictIn K C_InvalidMove = true)
  (ha_InvalidWalk : PySem.W.nsIn K mainGlobals "InvalidWalk" = some (some (.ref C_InvalidWalk)))
  (hb1_InvalidWalk : PySem.W.subIn K (.ref C_InvalidWalk) (.type "BaseException") = some true)
  (ht_InvalidWalk : PySem.W.typeIn K (.ref C_InvalidWalk) = some (.type "type"))
  (hd_InvalidWalk : PySem.W.hasDictIn K C_InvalidWalk = true)
  (ha_TooManyPassages : PySem.W.nsIn K mainGlobals "TooManyPassages" = some (some (.ref C_TooManyPassages)))
  (hb1_TooManyPassages : PySem.W.subIn K (.ref C_TooManyPassages) (.type "BaseException") = some true)
  (ht_TooManyPassages : PySem.W.typeIn K (.ref C_TooManyPassages) = some (.type "type"))
  (hd_TooManyPassages : PySem.W.hasDictIn K C_TooManyPassages = true)
  (hq_InvalidBuilding : PySem.W.excIn K C_InvalidBuilding excTail "ValueError.__new__" = true)
  (hk_InvalidBuilding : PySem.W.keepIn K (.ref C_InvalidBuilding) = true)
  (hq_InvalidMove : PySem.W.excIn K C_InvalidMove excTail "ValueError.__new__" = true)
  (hk_InvalidMove : PySem.W.keepIn K (.ref C_InvalidMove) = true)
  (hq_InvalidWalk : PySem.W.excIn K C_InvalidWalk excTail "ValueError.__new__" = true)
  (hk_InvalidWalk : PySem.W.keepIn K (.ref C_InvalidWalk) = true)
  (hq_TooManyPassages : PySem.W.excIn K C_TooManyPassages excTail "ValueError.__new__" = true)
  (hk_TooManyPassages : PySem.W.keepIn K (.ref C_TooManyPassages) = true)
  (hn0 : PySem.W.specialIn K (.builtin "object.__class__") "__get__" = some (some (.builtin "getset_descriptor.__get__")))
  (ht0 : PySem.W.takesIn K (.builtin "object.__class__") = some true)
  (e1_InvalidBuilding : PySem.W.findIn K (.ref C_InvalidBuilding) "__getattribute__" = some (some (.builtin "BaseException.__getattribute__")))
  (e2_InvalidBuilding : PySem.W.findIn K (.ref C_InvalidBuilding) "__getattr__" = some none)
  (e3_InvalidBuilding : PySem.W.findIn K (.ref C_InvalidBuilding) "__class__" = some (some (.builtin "object.__class__")))
  (e4_InvalidBuilding : PySem.W.mroIn K C_InvalidBuilding (.type "object") = some true)
  (e5_InvalidBuilding : PySem.W.subIn K (.ref C_InvalidBuilding) (.ref C_InvalidBuilding) = some true)
  (s_InvalidBuilding_DoorError : PySem.W.subIn K (.ref C_InvalidBuilding) (.ref C_DoorError) = some true)
  (s_InvalidBuilding_InvalidMove : PySem.W.subIn K (.ref C_InvalidBuilding) (.ref C_InvalidMove) = some false)
  (s_InvalidBuilding_InvalidWalk : PySem.W.subIn K (.ref C_InvalidBuilding) (.ref C_InvalidWalk) = some false)
  (s_InvalidBuilding_TooManyPassages : PySem.W.subIn K (.ref C_InvalidBuilding) (.ref C_TooManyPassages) = some false)
  (e1_InvalidMove : PySem.W.findIn K (.ref C_InvalidMove) "__getattribute__" = some (some (.builtin "BaseException.__getattribute__")))
  (e2_InvalidMove : PySem.W.findIn K (.ref C_InvalidMove) "__getattr__" = some none)
  (e3_InvalidMove : PySem.W.findIn K (.ref C_InvalidMove) "__class__" = some (some (.builtin "object.__class__")))
  (e4_InvalidMove : PySem.W.mroIn K C_InvalidMove (.type "object") = some true)
  (e5_InvalidMove : PySem.W.subIn K (.ref C_InvalidMove) (.ref C_InvalidMove) = some true)
  (s_InvalidMove_DoorError : PySem.W.subIn K (.ref C_InvalidMove) (.ref C_DoorError) = some true)
  (s_InvalidMove_InvalidMove : PySem.W.subIn K (.ref C_InvalidMove) (.ref C_InvalidMove) = some true)
  (s_InvalidMove_InvalidWalk : PySem.W.subIn K (.ref C_InvalidMove) (.ref C_InvalidWalk) = some false)
  (s_InvalidMove_TooManyPassages : PySem.W.subIn K (.ref C_InvalidMove) (.ref C_TooManyPassages) = some false)
  (e1_InvalidWalk : PySem.W.findIn K (.ref C_InvalidWalk) "__getattribute__" = some (some (.builtin "BaseException.__getattribute__")))
  (e2_InvalidWalk : PySem.W.findIn K (.ref C_InvalidWalk) "__getattr__" = some none)
  (e3_InvalidWalk : PySem.W.findIn K (.ref C_InvalidWalk) "__class__" = some (some (.builtin "object.__class__")))
  (e4_InvalidWalk : PySem.W.mroIn K C_InvalidWalk (.type "object") = some true)
  (e5_InvalidWalk : PySem.W.subIn K (.ref C_InvalidWalk) (.ref C_InvalidWalk) = some true)
  (s_InvalidWalk_DoorError : PySem.W.subIn K (.ref C_InvalidWalk) (.ref C_DoorError) = some true)
  (s_InvalidWalk_InvalidMove : PySem.W.subIn K (.ref C_InvalidWalk) (.ref C_InvalidMove) = some false)
  (s_InvalidWalk_InvalidWalk : PySem.W.subIn K (.ref C_InvalidWalk) (.ref C_InvalidWalk) = some true)
  (s_InvalidWalk_TooManyPassages : PySem.W.subIn K (.ref C_InvalidWalk) (.ref C_TooManyPassages) = some false)
  (e1_TooManyPassages : PySem.W.findIn K (.ref C_TooManyPassages) "__getattribute__" = some (some (.builtin "BaseException.__getattribute__")))
  (e2_TooManyPassages : PySem.W.findIn K (.ref C_TooManyPassages) "__getattr__" = some none)
  (e3_TooManyPassages : PySem.W.findIn K (.ref C_TooManyPassages) "__class__" = some (some (.builtin "object.__class__")))
  (e4_TooManyPassages : PySem.W.mroIn K C_TooManyPassages (.type "object") = some true)
  (e5_TooManyPassages : PySem.W.subIn K (.ref C_TooManyPassages) (.ref C_TooManyPassages) = some true)
  (s_TooManyPassages_DoorError : PySem.W.subIn K (.ref C_TooManyPassages) (.ref C_DoorError) = some true)
  (s_TooManyPassages_InvalidMove : PySem.W.subIn K (.ref C_TooManyPassages) (.ref C_InvalidMove) = some false)
  (s_TooManyPassages_InvalidWalk : PySem.W.subIn K (.ref C_TooManyPassages) (.ref C_InvalidWalk) = some false)
  (s_TooManyPassages_TooManyPassages : PySem.W.subIn K (.ref C_TooManyPassages) (.ref C_TooManyPassages) = some true)
  (a__law_cell : PySem.W.nsIn K mainGlobals "_law_cell" = some (some (.ref f__law_cell)))
  (l__law_cell : K.lookup f__law_cell = some ⟨oc__law_cell, od__law_cell, .func (PySem.W.fnOf "_law_cell" "_law_cell" (defArgs (top 31)) (defBody (top 31)) (defScope (top 31)) .none kV__law_cell dc__law_cell pm__law_cell an__law_cell cd__law_cell ct__law_cell), sl__law_cell⟩)
  (cd1__law_cell : PySem.W.codeIn K cd__law_cell "_law_cell" = true)
  (kp__law_cell : PySem.W.keepIn K (.ref f__law_cell) = true)
  (a__law_row : PySem.W.nsIn K mainGlobals "_law_row" = some (some (.ref f__law_row)))
  (l__law_row : K.lookup f__law_row = some ⟨oc__law_row, od__law_row, .func (PySem.W.fnOf "_law_row" "_law_row" (defArgs (top 33)) (defBody (top 33)) (defScope (top 33)) .none kV__law_row dc__law_row pm__law_row an__law_row cd__law_row ct__law_row), sl__law_row⟩)
  (cd1__law_row : PySem.W.codeIn K cd__law_row "_law_row" = true)
  (kp__law_row : PySem.W.keepIn K (.ref f__law_row) = true)
  (a__law_building : PySem.W.nsIn K mainGlobals "_law_building" = some (some (.ref f__law_building)))
  (l__law_building : K.lookup f__law_building = some ⟨oc__law_building, od__law_building, .func (PySem.W.fnOf "_law_building" "_law_building" (defArgs (top 35)) (defBody (top 35)) (defScope (top 35)) .none kV__law_building dc__law_building pm__law_building an__law_building cd__law_building ct__law_building), sl__law_building⟩)
  (cd1__law_building : PySem.W.codeIn K cd__law_building "_law_building" = true)
  (kp__law_building : PySem.W.keepIn K (.ref f__law_building) = true)
  (a__law_side : PySem.W.nsIn K mainGlobals "_law_side" = some (some (.ref f__law_side)))
  (l__law_side : K.lookup f__law_side = some ⟨oc__law_side, od__law_side, .func (PySem.W.fnOf "_law_side" "_law_side" (defArgs (top 36)) (defBody (top 36)) (defScope (top 36)) .none kV__law_side dc__law_side pm__law_side an__law_side cd__law_side ct__law_side), sl__law_side⟩)
  (cd1__law_side : PySem.W.codeIn K cd__law_side "_law_side" = true)
  (kp__law_side : PySem.W.keepIn K (.ref f__law_side) = true)
  (a__law_walked : PySem.W.nsIn K mainGlobals "_law_walked" = some (some (.ref f__law_walked)))
  (l__law_walked : K.lookup f__law_walked = some ⟨oc__law_walked, od__law_walked, .func (PySem.W.fnOf "_law_walked" "_law_walked" (defArgs (top 37)) (defBody (top 37)) (defScope (top 37)) .none kV__law_walked dc__law_walked pm__law_walked an__law_walked cd__law_walked ct__law_walked), sl__law_walked⟩)
  (cd1__law_walked : PySem.W.codeIn K cd__law_walked "_law_walked" = true)
  (kp__law_walked : PySem.W.keepIn K (.ref f__law_walked) = true)
  (a__law_whole : PySem.W.nsIn K mainGlobals "_law_whole" = some (some (.ref f__law_whole)))
  (l__law_whole : K.lookup f__law_whole = some ⟨oc__law_whole, od__law_whole, .func (PySem.W.fnOf "_law_whole" "_law_whole" (defArgs (top 32)) (defBody (top 32)) (defScope (top 32)) .none kV__law_whole dc__law_whole pm__law_whole an__law_whole cd__law_whole ct__law_whole), sl__law_whole⟩)
  (cd1__law_whole : PySem.W.codeIn K cd__law_whole "_law_whole" = true)
  (kp__law_whole : PySem.W.keepIn K (.ref f__law_whole) = true)
  (a__law_in : PySem.W.nsIn K mainGlobals "_law_in" = some (some (.ref f__law_in)))
  (l__law_in : K.lookup f__law_in = some ⟨oc__law_in, od__law_in, .func (PySem.W.fnOf "_law_in" "_law_in" (defArgs (top 34)) (defBody (top 34)) (defScope (top 34)) .none kV__law_in dc__law_in pm__law_in an__law_in cd__law_in ct__law_in), sl__law_in⟩)
  (cd1__law_in : PySem.W.codeIn K cd__law_in "_law_in" = true)
  (kp__law_in : PySem.W.keepIn K (.ref f__law_in) = true)
  (a__law_rooms : PySem.W.nsIn K mainGlobals "_law_rooms" = some (some (.ref f__law_rooms)))
  (l__law_rooms : K.lookup f__law_rooms = some ⟨oc__law_rooms, od__law_rooms, .func (PySem.W.fnOf "_law_rooms" "_law_rooms" (defArgs (top 38)) (defBody (top 38)) (defScope (top 38)) .none kV__law_rooms dc__law_rooms pm__law_rooms an__law_rooms cd__law_rooms ct__law_rooms), sl__law_rooms⟩)
  (cd1__law_rooms : PySem.W.codeIn K cd__law_rooms "_law_rooms" = true)
  (kp__law_rooms : PySem.W.keepIn K (.ref f__law_rooms) = true)
  (a__law_moves : PySem.W.nsIn K mainGlobals "_law_moves" = some (some (.ref f__law_moves)))
  (l__law_moves : K.lookup f__law_moves = some ⟨oc__law_moves, od__law_moves, .func (PySem.W.fnOf "_law_moves" "_law_moves" (defArgs (top 39)) (defBody (top 39)) (defScope (top 39)) .none kV__law_moves dc__law_moves pm__law_moves an__law_moves cd__law_moves ct__law_moves), sl__law_moves⟩)
  (cd1__law_moves : PySem.W.codeIn K cd__law_moves "_law_moves" = true)
  (kp__law_moves : PySem.W.keepIn K (.ref f__law_moves) = true)
  (a_in_range : PySem.W.nsIn K mainGlobals "in_range" = some (some (.ref f_in_range)))
  (l_in_range : K.lookup f_in_range = some ⟨oc_in_range, od_in_range, .func (PySem.W.fnOf "in_range" "in_range" (defArgs (top 12)) (defBody (top 12)) (defScope (top 12)) .none kV_in_range dc_in_range pm_in_range an_in_range cd_in_range ct_in_range), sl_in_range⟩)
  (cd1_in_range : PySem.W.codeIn K cd_in_range "in_range" = true)
  (kp_in_range : PySem.W.keepIn K (.ref f_in_range) = true)
  (a_is_door : PySem.W.nsIn K mainGlobals "is_door" = some (some (.ref f_is_door)))
  (l_is_door : K.lookup f_is_door = some ⟨oc_is_door, od_is_door, .func (PySem.W.fnOf "is_door" "is_door" (defArgs (top 13)) (defBody (top 13)) (defScope (top 13)) .none kV_is_door dc_is_door pm_is_door an_is_door cd_is_door ct_is_door), sl_is_door⟩)
  (cd1_is_door : PySem.W.codeIn K cd_is_door "is_door" = true)
  (kp_is_door : PySem.W.keepIn K (.ref f_is_door) = true)
  (a_is_building : PySem.W.nsIn K mainGlobals "is_building" = some (some (.ref f_is_building)))
  (l_is_building : K.lookup f_is_building = some ⟨oc_is_building, od_is_building, .func (PySem.W.fnOf "is_building" "is_building" (defArgs (top 14)) (defBody (top 14)) (defScope (top 14)) .none kV_is_building dc_is_building pm_is_building an_is_building cd_is_building ct_is_building), sl_is_building⟩)
  (cd1_is_building : PySem.W.codeIn K cd_is_building "is_building" = true)
  (kp_is_building : PySem.W.keepIn K (.ref f_is_building) = true)
  (a_check_building : PySem.W.nsIn K mainGlobals "check_building" = some (some (.ref f_check_building)))
  (l_check_building : K.lookup f_check_building = some ⟨oc_check_building, od_check_building, .func (PySem.W.fnOf "check_building" "check_building" (defArgs (top 15)) (defBody (top 15)) (defScope (top 15)) .none kV_check_building dc_check_building pm_check_building an_check_building cd_check_building ct_check_building), sl_check_building⟩)
  (cd1_check_building : PySem.W.codeIn K cd_check_building "check_building" = true)
  (kp_check_building : PySem.W.keepIn K (.ref f_check_building) = true)
  (a_other_side : PySem.W.nsIn K mainGlobals "other_side" = some (some (.ref f_other_side)))
  (l_other_side : K.lookup f_other_side = some ⟨oc_other_side, od_other_side, .func (PySem.W.fnOf "other_side" "other_side" (defArgs (top 16)) (defBody (top 16)) (defScope (top 16)) .none kV_other_side dc_other_side pm_other_side an_other_side cd_other_side ct_other_side), sl_other_side⟩)
  (cd1_other_side : PySem.W.codeIn K cd_other_side "other_side" = true)
  (kp_other_side : PySem.W.keepIn K (.ref f_other_side) = true)
  (a_trace : PySem.W.nsIn K mainGlobals "trace" = some (some (.ref f_trace)))
  (l_trace : K.lookup f_trace = some ⟨oc_trace, od_trace, .func (PySem.W.fnOf "trace" "trace" (defArgs (top 19)) (defBody (top 19)) (defScope (top 19)) .none kV_trace dc_trace pm_trace an_trace cd_trace ct_trace), sl_trace⟩)
  (cd1_trace : PySem.W.codeIn K cd_trace "trace" = true)
  (kp_trace : PySem.W.keepIn K (.ref f_trace) = true)
  (a_checked_rooms : PySem.W.nsIn K mainGlobals "checked_rooms" = some (some (.ref f_checked_rooms)))
  (l_checked_rooms : K.lookup f_checked_rooms = some ⟨oc_checked_rooms, od_checked_rooms, .func (PySem.W.fnOf "checked_rooms" "checked_rooms" (defArgs (top 20)) (defBody (top 20)) (defScope (top 20)) .none kV_checked_rooms dc_checked_rooms pm_checked_rooms an_checked_rooms cd_checked_rooms ct_checked_rooms), sl_checked_rooms⟩)
  (cd1_checked_rooms : PySem.W.codeIn K cd_checked_rooms "checked_rooms" = true)
  (kp_checked_rooms : PySem.W.keepIn K (.ref f_checked_rooms) = true)
  (a_may_reverse : PySem.W.nsIn K mainGlobals "may_reverse" = some (some (.ref f_may_reverse)))
  (l_may_reverse : K.lookup f_may_reverse = some ⟨oc_may_reverse, od_may_reverse, .func (PySem.W.fnOf "may_reverse" "may_reverse" (defArgs (top 23)) (defBody (top 23)) (defScope (top 23)) .none kV_may_reverse dc_may_reverse pm_may_reverse an_may_reverse cd_may_reverse ct_may_reverse), sl_may_reverse⟩)
  (cd1_may_reverse : PySem.W.codeIn K cd_may_reverse "may_reverse" = true)
  (kp_may_reverse : PySem.W.keepIn K (.ref f_may_reverse) = true)
  (a_moves_of : PySem.W.nsIn K mainGlobals "moves_of" = some (some (.ref f_moves_of)))
  (l_moves_of : K.lookup f_moves_of = some ⟨oc_moves_of, od_moves_of, .func (PySem.W.fnOf "moves_of" "moves_of" (defArgs (top 28)) (defBody (top 28)) (defScope (top 28)) .none kV_moves_of dc_moves_of pm_moves_of an_moves_of cd_moves_of ct_moves_of), sl_moves_of⟩)
  (cd1_moves_of : PySem.W.codeIn K cd_moves_of "moves_of" = true)
  (kp_moves_of : PySem.W.keepIn K (.ref f_moves_of) = true)
  (a_moves : PySem.W.nsIn K mainGlobals "moves" = some (some (.ref f_moves)))
  (l_moves : K.lookup f_moves = some ⟨oc_moves, od_moves, .func (PySem.W.fnOf "moves" "moves" (defArgs (top 29)) (defBody (top 29)) (defScope (top 29)) .none kV_moves dc_moves pm_moves an_moves cd_moves ct_moves), sl_moves⟩)
  (cd1_moves : PySem.W.codeIn K cd_moves "moves" = true)
  (kp_moves : PySem.W.keepIn K (.ref f_moves) = true)
  (a_after : PySem.W.nsIn K mainGlobals "after" = some (some (.ref f_after)))
  (l_after : K.lookup f_after = some ⟨oc_after, od_after, .func (PySem.W.fnOf "after" "after" (defArgs (top 26)) (defBody (top 26)) (defScope (top 26)) .none kV_after dc_after pm_after an_after cd_after ct_after), sl_after⟩)
  (cd1_after : PySem.W.codeIn K cd_after "after" = true)
  (kp_after : PySem.W.keepIn K (.ref f_after) = true)
  (a_may_exchange : PySem.W.nsIn K mainGlobals "may_exchange" = some (some (.ref f_may_exchange)))
  (l_may_exchange : K.lookup f_may_exchange = some ⟨oc_may_exchange, od_may_exchange, .func (PySem.W.fnOf "may_exchange" "may_exchange" (defArgs (top 24)) (defBody (top 24)) (defScope (top 24)) .none kV_may_exchange dc_may_exchange pm_may_exchange an_may_exchange cd_may_exchange ct_may_exchange), sl_may_exchange⟩)
  (cd1_may_exchange : PySem.W.codeIn K cd_may_exchange "may_exchange" = true)
  (kp_may_exchange : PySem.W.keepIn K (.ref f_may_exchange) = true)
  (a_allowed : PySem.W.nsIn K mainGlobals "allowed" = some (some (.ref f_allowed)))
  (l_allowed : K.lookup f_allowed = some ⟨oc_allowed, od_allowed, .func (PySem.W.fnOf "allowed" "allowed" (defArgs (top 25)) (defBody (top 25)) (defScope (top 25)) .none kV_allowed dc_allowed pm_allowed an_allowed cd_allowed ct_allowed), sl_allowed⟩)
  (cd1_allowed : PySem.W.codeIn K cd_allowed "allowed" = true)
  (kp_allowed : PySem.W.keepIn K (.ref f_allowed) = true)
  (a_moved : PySem.W.nsIn K mainGlobals "moved" = some (some (.ref f_moved)))
  (l_moved : K.lookup f_moved = some ⟨oc_moved, od_moved, .func (PySem.W.fnOf "moved" "moved" (defArgs (top 27)) (defBody (top 27)) (defScope (top 27)) .none kV_moved dc_moved pm_moved an_moved cd_moved ct_moved), sl_moved⟩)
  (cd1_moved : PySem.W.codeIn K cd_moved "moved" = true)
  (kp_moved : PySem.W.keepIn K (.ref f_moved) = true)
  (a__law_moved : PySem.W.nsIn K mainGlobals "_law_moved" = some (some (.ref f__law_moved)))
  (l__law_moved : K.lookup f__law_moved = some ⟨oc__law_moved, od__law_moved, .func (PySem.W.fnOf "_law_moved" "_law_moved" (defArgs (top 40)) (defBody (top 40)) (defScope (top 40)) .none kV__law_moved dc__law_moved pm__law_moved an__law_moved cd__law_moved ct__law_moved), sl__law_moved⟩)
  (cd1__law_moved : PySem.W.codeIn K cd__law_moved "_law_moved" = true)
  (kp__law_moved : PySem.W.keepIn K (.ref f__law_moved) = true)
  (a_law : PySem.W.nsIn K mainGlobals "law" = some (some (.ref f_law)))
  (l_law : K.lookup f_law = some ⟨oc_law, od_law, .func (PySem.W.fnOf "law" "law" (defArgs (top 41)) (defBody (top 41)) (defScope (top 41)) .none kV_law dc_law pm_law an_law cd_law ct_law), sl_law⟩)
  (cd1_law : PySem.W.codeIn K cd_law "law" = true)
  (kp_law : PySem.W.keepIn K (.ref f_law) = true) :
    ∃ fd : FuncData, (∀ (s : Shared) (u : Value), BindsTo s fd ⟨[u], []⟩ [("_law_script", u)]) ∧ ∀ base : Heap, K.In base → base.Ns mainGlobals mg → FnOk l.prog w K mg base (L2.CX l.prog w) 7 fa fd ["_law_script"] (VI.spLaw K) := by
  have e := hfa.symm.trans (PySem.W.mg_of X G a_law)
  cases e
  have Gl : Glob K mg := { b_bool := PySem.W.mg_none_of X G hb_bool, b_int := PySem.W.mg_none_of X G hb_int, b_isinstance := PySem.W.mg_none_of X G hb_isinstance, b_len := PySem.W.mg_none_of X G hb_len, b_list := PySem.W.mg_none_of X G hb_list, b_max := PySem.W.mg_none_of X G hb_max, b_min := PySem.W.mg_none_of X G hb_min, b_range := PySem.W.mg_none_of X G hb_range, b_sorted := PySem.W.mg_none_of X G hb_sorted, b_tuple := PySem.W.mg_none_of X G hb_tuple, c_MAX_DOORS := gint X G hc_MAX_DOORS, c_MAX_PASSAGES := gint X G hc_MAX_PASSAGES, c_MAX_ROOMS := gint X G hc_MAX_ROOMS, c_MAX_STEPS := gint X G hc_MAX_STEPS, c_ONE_WAY := gstr X G hc_ONE_WAY, c_TWO_WAY := gstr X G hc_TWO_WAY, x_InvalidBuilding := excg X G ha_InvalidBuilding hq_InvalidBuilding hk_InvalidBuilding hb1_InvalidBuilding ht_InvalidBuilding, x_InvalidMove := excg X G ha_InvalidMove hq_InvalidMove hk_InvalidMove hb1_InvalidMove ht_InvalidMove, x_InvalidWalk := excg X G ha_InvalidWalk hq_InvalidWalk hk_InvalidWalk hb1_InvalidWalk ht_InvalidWalk, x_TooManyPassages := excg X G ha_TooManyPassages hq_TooManyPassages hk_TooManyPassages hb1_TooManyPassages ht_TooManyPassages, r := (List.forall_mem_cons.mpr ⟨(List.forall_mem_cons.mpr ⟨excr_mk (mg := mg) (PySem.W.mg_of X G ha_InvalidBuilding) (PySem.W.mg_of X G ha_DoorError) hb1_DoorError hd_DoorError ht_DoorError s_InvalidBuilding_DoorError e5_InvalidBuilding, (List.forall_mem_cons.mpr ⟨excr_mk (mg := mg) (PySem.W.mg_of X G ha_InvalidBuilding) (PySem.W.mg_of X G ha_InvalidMove) hb1_InvalidMove hd_InvalidMove ht_InvalidMove s_InvalidBuilding_InvalidMove e5_InvalidBuilding, (List.forall_mem_cons.mpr ⟨excr_mk (mg := mg) (PySem.W.mg_of X G ha_InvalidBuilding) (PySem.W.mg_of X G ha_InvalidWalk) hb1_InvalidWalk hd_InvalidWalk ht_InvalidWalk s_InvalidBuilding_InvalidWalk e5_InvalidBuilding, (List.forall_mem_cons.mpr ⟨excr_mk (mg := mg) (PySem.W.mg_of X G ha_InvalidBuilding) (PySem.W.mg_of X G ha_TooManyPassages) hb1_TooManyPassages hd_TooManyPassages ht_TooManyPassages s_InvalidBuilding_TooManyPassages e5_InvalidBuilding, (fun _ z => nomatch z)⟩)⟩)⟩)⟩), (List.forall_mem_cons.mpr ⟨(List.forall_mem_cons.mpr ⟨excr_mk (mg := mg) (PySem.W.mg_of X G ha_InvalidMove) (PySem.W.mg_of X G ha_DoorError) hb1_DoorError hd_DoorError ht_DoorError s_InvalidMove_DoorError e5_InvalidMove, (List.forall_mem_cons.mpr ⟨excr_mk (mg := mg) (PySem.W.mg_of X G ha_InvalidMove) (PySem.W.mg_of X G ha_InvalidMove) hb1_InvalidMove hd_InvalidMove ht_InvalidMove s_InvalidMove_InvalidMove e5_InvalidMove, (List.forall_mem_cons.mpr ⟨excr_mk (mg := mg) (PySem.W.mg_of X G ha_InvalidMove) (PySem.W.mg_of X G ha_InvalidWalk) hb1_InvalidWalk hd_InvalidWalk ht_InvalidWalk s_InvalidMove_InvalidWalk e5_InvalidMove, (List.forall_mem_cons.mpr ⟨excr_mk (mg := mg) (PySem.W.mg_of X G ha_InvalidMove) (PySem.W.mg_of X G ha_TooManyPassages) hb1_TooManyPassages hd_TooManyPassages ht_TooManyPassages s_InvalidMove_TooManyPassages e5_InvalidMove, (fun _ z => nomatch z)⟩)⟩)⟩)⟩), (List.forall_mem_cons.mpr ⟨(List.forall_mem_cons.mpr ⟨excr_mk (mg := mg) (PySem.W.mg_of X G ha_InvalidWalk) (PySem.W.mg_of X G ha_DoorError) hb1_DoorError hd_DoorError ht_DoorError s_InvalidWalk_DoorError e5_InvalidWalk, (List.forall_mem_cons.mpr ⟨excr_mk (mg := mg) (PySem.W.mg_of X G ha_InvalidWalk) (PySem.W.mg_of X G ha_InvalidMove) hb1_InvalidMove hd_InvalidMove ht_InvalidMove s_InvalidWalk_InvalidMove e5_InvalidWalk, (List.forall_mem_cons.mpr ⟨excr_mk (mg := mg) (PySem.W.mg_of X G ha_InvalidWalk) (PySem.W.mg_of X G ha_InvalidWalk) hb1_InvalidWalk hd_InvalidWalk ht_InvalidWalk s_InvalidWalk_InvalidWalk e5_InvalidWalk, (List.forall_mem_cons.mpr ⟨excr_mk (mg := mg) (PySem.W.mg_of X G ha_InvalidWalk) (PySem.W.mg_of X G ha_TooManyPassages) hb1_TooManyPassages hd_TooManyPassages ht_TooManyPassages s_InvalidWalk_TooManyPassages e5_InvalidWalk, (fun _ z => nomatch z)⟩)⟩)⟩)⟩), (List.forall_mem_cons.mpr ⟨(List.forall_mem_cons.mpr ⟨excr_mk (mg := mg) (PySem.W.mg_of X G ha_TooManyPassages) (PySem.W.mg_of X G ha_DoorError) hb1_DoorError hd_DoorError ht_DoorError s_TooManyPassages_DoorError e5_TooManyPassages, (List.forall_mem_cons.mpr ⟨excr_mk (mg := mg) (PySem.W.mg_of X G ha_TooManyPassages) (PySem.W.mg_of X G ha_InvalidMove) hb1_InvalidMove hd_InvalidMove ht_InvalidMove s_TooManyPassages_InvalidMove e5_TooManyPassages, (List.forall_mem_cons.mpr ⟨excr_mk (mg := mg) (PySem.W.mg_of X G ha_TooManyPassages) (PySem.W.mg_of X G ha_InvalidWalk) hb1_InvalidWalk hd_InvalidWalk ht_InvalidWalk s_TooManyPassages_InvalidWalk e5_TooManyPassages, (List.forall_mem_cons.mpr ⟨excr_mk (mg := mg) (PySem.W.mg_of X G ha_TooManyPassages) (PySem.W.mg_of X G ha_TooManyPassages) hb1_TooManyPassages hd_TooManyPassages ht_TooManyPassages s_TooManyPassages_TooManyPassages e5_TooManyPassages, (fun _ z => nomatch z)⟩)⟩)⟩)⟩), (fun _ z => nomatch z)⟩)⟩)⟩)⟩), k := (List.forall_mem_cons.mpr ⟨⟨C_InvalidBuilding, PySem.W.mg_of X G ha_InvalidBuilding, ⟨e1_InvalidBuilding, e2_InvalidBuilding, hb1_InvalidBuilding, hd_InvalidBuilding, e3_InvalidBuilding, hn0, ht0, e4_InvalidBuilding⟩⟩, (List.forall_mem_cons.mpr ⟨⟨C_InvalidMove, PySem.W.mg_of X G ha_InvalidMove, ⟨e1_InvalidMove, e2_InvalidMove, hb1_InvalidMove, hd_InvalidMove, e3_InvalidMove, hn0, ht0, e4_InvalidMove⟩⟩, (List.forall_mem_cons.mpr ⟨⟨C_InvalidWalk, PySem.W.mg_of X G ha_InvalidWalk, ⟨e1_InvalidWalk, e2_InvalidWalk, hb1_InvalidWalk, hd_InvalidWalk, e3_InvalidWalk, hn0, ht0, e4_InvalidWalk⟩⟩, (List.forall_mem_cons.mpr ⟨⟨C_TooManyPassages, PySem.W.mg_of X G ha_TooManyPassages, ⟨e1_TooManyPassages, e2_TooManyPassages, hb1_TooManyPassages, hd_TooManyPassages, e3_TooManyPassages, hn0, ht0, e4_TooManyPassages⟩⟩, (fun _ z => nomatch z)⟩)⟩)⟩)⟩), g__law_cell := fung X G a__law_cell l__law_cell cd1__law_cell kp__law_cell fun _ _ _ _ _ _ us hl => match us, hl with | [_, _], _ => rfl, g__law_row := fung X G a__law_row l__law_row cd1__law_row kp__law_row fun _ _ _ _ _ _ us hl => match us, hl with | [_, _], _ => rfl, g__law_building := fung X G a__law_building l__law_building cd1__law_building kp__law_building fun _ _ _ _ _ _ us hl => match us, hl with | [_, _, _, _], _ => rfl, g__law_side := fung X G a__law_side l__law_side cd1__law_side kp__law_side fun _ _ _ _ _ _ us hl => match us, hl with | [_, _, _], _ => rfl, g__law_walked := fung X G a__law_walked l__law_walked cd1__law_walked kp__law_walked fun _ _ _ _ _ _ us hl => match us, hl with | [_, _, _, _], _ => rfl, g__law_whole := fung X G a__law_whole l__law_whole cd1__law_whole kp__law_whole fun _ _ _ _ _ _ us hl => match us, hl with | [_], _ => rfl, g__law_in := fung X G a__law_in l__law_in cd1__law_in kp__law_in fun _ _ _ _ _ _ us hl => match us, hl with | [_, _, _], _ => rfl, g__law_rooms := fung X G a__law_rooms l__law_rooms cd1__law_rooms kp__law_rooms fun _ _ _ _ _ _ us hl => match us, hl with | [_, _], _ => rfl, g__law_moves := fung X G a__law_moves l__law_moves cd1__law_moves kp__law_moves fun _ _ _ _ _ _ us hl => match us, hl with | [_, _], _ => rfl, g_in_range := fung X G a_in_range l_in_range cd1_in_range kp_in_range fun _ _ _ _ _ _ us hl => match us, hl with | [_, _, _], _ => rfl, g_is_door := fung X G a_is_door l_is_door cd1_is_door kp_is_door fun _ _ _ _ _ _ us hl => match us, hl with | [_, _], _ => rfl, g_is_building := fung X G a_is_building l_is_building cd1_is_building kp_is_building fun _ _ _ _ _ _ us hl => match us, hl with | [_], _ => rfl, g_check_building := fung X G a_check_building l_check_building cd1_check_building kp_check_building fun _ _ _ _ _ _ us hl => match us, hl with | [_], _ => rfl, g_other_side := fung X G a_other_side l_other_side cd1_other_side kp_other_side fun _ _ _ _ _ _ us hl => match us, hl with | [_, _, _], _ => rfl, g_trace := fung X G a_trace l_trace cd1_trace kp_trace fun _ _ _ _ _ _ us hl => match us, hl with | [_, _], _ => rfl, g_checked_rooms := fung X G a_checked_rooms l_checked_rooms cd1_checked_rooms kp_checked_rooms fun _ _ _ _ _ _ us hl => match us, hl with | [_, _], _ => rfl, g_may_reverse := fung X G a_may_reverse l_may_reverse cd1_may_reverse kp_may_reverse fun _ _ _ _ _ _ us hl => match us, hl with | [_, _, _, _, _], _ => rfl, g_moves_of := fung X G a_moves_of l_moves_of cd1_moves_of kp_moves_of fun _ _ _ _ _ _ us hl => match us, hl with | [_, _, _], _ => rfl, g_moves := fung X G a_moves l_moves cd1_moves kp_moves fun _ _ _ _ _ _ us hl => match us, hl with | [_, _], _ => rfl, g_after := fung X G a_after l_after cd1_after kp_after fun _ _ _ _ _ _ us hl => match us, hl with | [_, _], _ => rfl, g_may_exchange := fung X G a_may_exchange l_may_exchange cd1_may_exchange kp_may_exchange fun _ _ _ _ _ _ us hl => match us, hl with | [_, _], _ => rfl, g_allowed := fung X G a_allowed l_allowed cd1_allowed kp_allowed fun _ _ _ _ _ _ us hl => match us, hl with | [_, _, _, _], _ => rfl, g_moved := fung X G a_moved l_moved cd1_moved kp_moved fun _ _ _ _ _ _ us hl => match us, hl with | [_, _, _], _ => rfl, g__law_moved := fung X G a__law_moved l__law_moved cd1__law_moved kp__law_moved fun _ _ _ _ _ _ us hl => match us, hl with | [_, _, _], _ => rfl }
  have F := fun_mk (st := top 41) l_law cd1_law kp_law
  exact ⟨_, fun s v => .of_eq rfl, fun base _ _ => law_end (okL_law Gl F) fun ns _ => law_true ns⟩
end Row
open PySem PySem.W PyProof.Rows
set_option maxRecDepth 100000 in
set_option maxHeartbeats 0 in
theorem PySem.Challenge.cw_doorcounters_k12_moves_holds : PySem.Challenge.rw_doorcounters_k12_moves.Holds := by
  w_on; o_law; k_head; (case hw => w_witness2)
  k_fill
  refine VI.walk (l := PySem.Challenge.rw_doorcounters_k12_moves) (k := 7) rfl rfl ⟨rfl, by decide, by decide⟩ (fun w h Y => PySem.W.kIn_of Y) ?F
  case F =>
    intro w mg fa h KX G hmg
    refine' Row.all_mk KX G hmg ?hb_bool ?hb_int ?hb_isinstance ?hb_len ?hb_list ?hb_max ?hb_min ?hb_range ?hb_sorted ?hb_tuple ?hc_MAX_DOORS ?hc_MAX_PASSAGES ?hc_MAX_ROOMS ?hc_MAX_STEPS ?hc_ONE_WAY ?hc_TWO_WAY ?ha_DoorError ?hb1_DoorError ?ht_DoorError ?hd_DoorError ?ha_InvalidBuilding ?hb1_InvalidBuilding ?ht_InvalidBuilding ?hd_InvalidBuilding ?ha_InvalidMove ?hb1_InvalidMove ?ht_InvalidMove ?hd_InvalidMove ?ha_InvalidWalk ?hb1_InvalidWalk ?ht_InvalidWalk ?hd_InvalidWalk ?ha_TooManyPassages ?hb1_TooManyPassages ?ht_TooManyPassages ?hd_TooManyPassages ?hq_InvalidBuilding ?hk_InvalidBuilding ?hq_InvalidMove ?hk_InvalidMove ?hq_InvalidWalk ?hk_InvalidWalk ?hq_TooManyPassages ?hk_TooManyPassages ?hn0 ?ht0 ?e1_InvalidBuilding ?e2_InvalidBuilding ?e3_InvalidBuilding ?e4_InvalidBuilding ?e5_InvalidBuilding ?s_InvalidBuilding_DoorError ?s_InvalidBuilding_InvalidMove ?s_InvalidBuilding_InvalidWalk ?s_InvalidBuilding_TooManyPassages ?e1_InvalidMove ?e2_InvalidMove ?e3_InvalidMove ?e4_InvalidMove ?e5_InvalidMove ?s_InvalidMove_DoorError ?s_InvalidMove_InvalidMove ?s_InvalidMove_InvalidWalk ?s_InvalidMove_TooManyPassages ?e1_InvalidWalk ?e2_InvalidWalk ?e3_InvalidWalk ?e4_InvalidWalk ?e5_InvalidWalk ?s_InvalidWalk_DoorError ?s_InvalidWalk_InvalidMove ?s_InvalidWalk_InvalidWalk ?s_InvalidWalk_TooManyPassages ?e1_TooManyPassages ?e2_TooManyPassages ?e3_TooManyPassages ?e4_TooManyPassages ?e5_TooManyPassages ?s_TooManyPassages_DoorError ?s_TooManyPassages_InvalidMove ?s_TooManyPassages_InvalidWalk ?s_TooManyPassages_TooManyPassages ?a__law_cell ?l__law_cell ?cd1__law_cell ?kp__law_cell ?a__law_row ?l__law_row ?cd1__law_row ?kp__law_row ?a__law_building ?l__law_building ?cd1__law_building ?kp__law_building ?a__law_side ?l__law_side ?cd1__law_side ?kp__law_side ?a__law_walked ?l__law_walked ?cd1__law_walked ?kp__law_walked ?a__law_whole ?l__law_whole ?cd1__law_whole ?kp__law_whole ?a__law_in ?l__law_in ?cd1__law_in ?kp__law_in ?a__law_rooms ?l__law_rooms ?cd1__law_rooms ?kp__law_rooms ?a__law_moves ?l__law_moves ?cd1__law_moves ?kp__law_moves ?a_in_range ?l_in_range ?cd1_in_range ?kp_in_range ?a_is_door ?l_is_door ?cd1_is_door ?kp_is_door ?a_is_building ?l_is_building ?cd1_is_building ?kp_is_building ?a_check_building ?l_check_building ?cd1_check_building ?kp_check_building ?a_other_side ?l_other_side ?cd1_other_side ?kp_other_side ?a_trace ?l_trace ?cd1_trace ?kp_trace ?a_checked_rooms ?l_checked_rooms ?cd1_checked_rooms ?kp_checked_rooms ?a_may_reverse ?l_may_reverse ?cd1_may_reverse ?kp_may_reverse ?a_moves_of ?l_moves_of ?cd1_moves_of ?kp_moves_of ?a_moves ?l_moves ?cd1_moves ?kp_moves ?a_after ?l_after ?cd1_after ?kp_after ?a_may_exchange ?l_may_exchange ?cd1_may_exchange ?kp_may_exchange ?a_allowed ?l_allowed ?cd1_allowed ?kp_allowed ?a_moved ?l_moved ?cd1_moved ?kp_moved ?a__law_moved ?l__law_moved ?cd1__law_moved ?kp__law_moved ?a_law ?l_law ?cd1_law ?kp_law
    (case hb_bool => k_is)
    (case hb_int => k_is)
    (case hb_isinstance => k_is)
    (case hb_len => k_is)
    (case hb_list => k_is)
    (case hb_max => k_is)
    (case hb_min => k_is)
    (case hb_range => k_is)
    (case hb_sorted => k_is)
    (case hb_tuple => k_is)
    (case hc_MAX_DOORS => k_is)
    (case hc_MAX_PASSAGES => k_is)
    (case hc_MAX_ROOMS => k_is)
    (case hc_MAX_STEPS => k_is)
    (case hc_ONE_WAY => k_is)
    (case hc_TWO_WAY => k_is)
    (case ha_DoorError => k_is)
    (case hb1_DoorError => k_is)
    (case ht_DoorError => k_is)
    (case hd_DoorError => k_is)
    (case ha_InvalidBuilding => k_is)
    (case hb1_InvalidBuilding => k_is)
    (case ht_InvalidBuilding => k_is)
    (case hd_InvalidBuilding => k_is)
    (case ha_InvalidMove => k_is)
    (case hb1_InvalidMove => k_is)
    (case ht_InvalidMove => k_is)
    (case hd_InvalidMove => k_is)
    (case ha_InvalidWalk => k_is)
    (case hb1_InvalidWalk => k_is)
    (case ht_InvalidWalk => k_is)
    (case hd_InvalidWalk => k_is)
    (case ha_TooManyPassages => k_is)
    (case hb1_TooManyPassages => k_is)
    (case ht_TooManyPassages => k_is)
    (case hd_TooManyPassages => k_is)
    (case hq_InvalidBuilding => k_exc)
    (case hk_InvalidBuilding => k_is)
    (case hq_InvalidMove => k_exc)
    (case hk_InvalidMove => k_is)
    (case hq_InvalidWalk => k_exc)
    (case hk_InvalidWalk => k_is)
    (case hq_TooManyPassages => k_exc)
    (case hk_TooManyPassages => k_is)
    (case hn0 => k_is)
    (case ht0 => k_is)
    (case e1_InvalidBuilding => k_is)
    (case e2_InvalidBuilding => k_is)
    (case e3_InvalidBuilding => k_is)
    (case e4_InvalidBuilding => k_is)
    (case e5_InvalidBuilding => k_is)
    (case s_InvalidBuilding_DoorError => k_is)
    (case s_InvalidBuilding_InvalidMove => k_is)
    (case s_InvalidBuilding_InvalidWalk => k_is)
    (case s_InvalidBuilding_TooManyPassages => k_is)
    (case e1_InvalidMove => k_is)
    (case e2_InvalidMove => k_is)
    (case e3_InvalidMove => k_is)
    (case e4_InvalidMove => k_is)
    (case e5_InvalidMove => k_is)
    (case s_InvalidMove_DoorError => k_is)
    (case s_InvalidMove_InvalidMove => k_is)
    (case s_InvalidMove_InvalidWalk => k_is)
    (case s_InvalidMove_TooManyPassages => k_is)
    (case e1_InvalidWalk => k_is)
    (case e2_InvalidWalk => k_is)
    (case e3_InvalidWalk => k_is)
    (case e4_InvalidWalk => k_is)
    (case e5_InvalidWalk => k_is)
    (case s_InvalidWalk_DoorError => k_is)
    (case s_InvalidWalk_InvalidMove => k_is)
    (case s_InvalidWalk_InvalidWalk => k_is)
    (case s_InvalidWalk_TooManyPassages => k_is)
    (case e1_TooManyPassages => k_is)
    (case e2_TooManyPassages => k_is)
    (case e3_TooManyPassages => k_is)
    (case e4_TooManyPassages => k_is)
    (case e5_TooManyPassages => k_is)
    (case s_TooManyPassages_DoorError => k_is)
    (case s_TooManyPassages_InvalidMove => k_is)
    (case s_TooManyPassages_InvalidWalk => k_is)
    (case s_TooManyPassages_TooManyPassages => k_is)
    (case a__law_cell => k_is)
    (case l__law_cell => k_is)
    (case cd1__law_cell => k_is)
    (case kp__law_cell => k_is)
    (case a__law_row => k_is)
    (case l__law_row => k_is)
    (case cd1__law_row => k_is)
    (case kp__law_row => k_is)
    (case a__law_building => k_is)
    (case l__law_building => k_is)
    (case cd1__law_building => k_is)
    (case kp__law_building => k_is)
    (case a__law_side => k_is)
    (case l__law_side => k_is)
    (case cd1__law_side => k_is)
    (case kp__law_side => k_is)
    (case a__law_walked => k_is)
    (case l__law_walked => k_is)
    (case cd1__law_walked => k_is)
    (case kp__law_walked => k_is)
    (case a__law_whole => k_is)
    (case l__law_whole => k_is)
    (case cd1__law_whole => k_is)
    (case kp__law_whole => k_is)
    (case a__law_in => k_is)
    (case l__law_in => k_is)
    (case cd1__law_in => k_is)
    (case kp__law_in => k_is)
    (case a__law_rooms => k_is)
    (case l__law_rooms => k_is)
    (case cd1__law_rooms => k_is)
    (case kp__law_rooms => k_is)
    (case a__law_moves => k_is)
    (case l__law_moves => k_is)
    (case cd1__law_moves => k_is)
    (case kp__law_moves => k_is)
    (case a_in_range => k_is)
    (case l_in_range => k_is)
    (case cd1_in_range => k_is)
    (case kp_in_range => k_is)
    (case a_is_door => k_is)
    (case l_is_door => k_is)
    (case cd1_is_door => k_is)
    (case kp_is_door => k_is)
    (case a_is_building => k_is)
    (case l_is_building => k_is)
    (case cd1_is_building => k_is)
    (case kp_is_building => k_is)
    (case a_check_building => k_is)
    (case l_check_building => k_is)
    (case cd1_check_building => k_is)
    (case kp_check_building => k_is)
    (case a_other_side => k_is)
    (case l_other_side => k_is)
    (case cd1_other_side => k_is)
    (case kp_other_side => k_is)
    (case a_trace => k_is)
    (case l_trace => k_is)
    (case cd1_trace => k_is)
    (case kp_trace => k_is)
    (case a_checked_rooms => k_is)
    (case l_checked_rooms => k_is)
    (case cd1_checked_rooms => k_is)
    (case kp_checked_rooms => k_is)
    (case a_may_reverse => k_is)
    (case l_may_reverse => k_is)
    (case cd1_may_reverse => k_is)
    (case kp_may_reverse => k_is)
    (case a_moves_of => k_is)
    (case l_moves_of => k_is)
    (case cd1_moves_of => k_is)
    (case kp_moves_of => k_is)
    (case a_moves => k_is)
    (case l_moves => k_is)
    (case cd1_moves => k_is)
    (case kp_moves => k_is)
    (case a_after => k_is)
    (case l_after => k_is)
    (case cd1_after => k_is)
    (case kp_after => k_is)
    (case a_may_exchange => k_is)
    (case l_may_exchange => k_is)
    (case cd1_may_exchange => k_is)
    (case kp_may_exchange => k_is)
    (case a_allowed => k_is)
    (case l_allowed => k_is)
    (case cd1_allowed => k_is)
    (case kp_allowed => k_is)
    (case a_moved => k_is)
    (case l_moved => k_is)
    (case cd1_moved => k_is)
    (case kp_moved => k_is)
    (case a__law_moved => k_is)
    (case l__law_moved => k_is)
    (case cd1__law_moved => k_is)
    (case kp__law_moved => k_is)
    (case a_law => k_is)
    (case l_law => k_is)
    (case cd1_law => k_is)
    (case kp_law => k_is)
#print axioms PySem.Challenge.cw_doorcounters_k12_moves_holds
