import PyProof.Rows.All
import Wide.All
import OpenK.AllK
import Wide.FinOn
import HandS.ForMost
import HandS.ForExc
import HandS.Wide
import HandS.Zip
import HandS.IsInst
import HandS.Conv
import HandS.Strs
import HandS.SetFor
import HandS.SortInts
import HandS.More
import HandS.Defaults
import HandS.Flow
import HandS.HeadHook1
import HandS.CallSlots
import HandS.ExcInit
import HandS.TupAny
import HandS.TupLe
import HandS.HeadEnd
import HandS.EndBits
import HandS.Style
import HandS.TupSets
import HandS.Iter
import HandS.Walk
import KE.KRevSl
import KE.DataCmp
import HandS.SortRule
import HandS.Deep
import HandS.TryOnly
import HandS.RaiseMore
import HandS.Text
import HandS.Dict
import PySem.Challenge.RW_fenlevel_k39_whole_numbers_are_given_onc
import HandS.Base
import HandS.Call
import HandS.Exc
import HandS.HeadHook2
import KE.KStateDown
import HandS.Ends
import HandS.Head0
import HandS.Head1
import HandS.Head2
import HandS.Words
set_option Elab.async false
set_option linter.all false
set_option maxRecDepth 100000
set_option maxHeartbeats 4000000
/-! A layer of trees and cells over the hand layer: what never changes any more is a tree, what may change is a cell. -/
namespace FL
open PySem PySem.Spec PyProof.Rows L2

/-! ### trees and cells -/
inductive D where
  | non | bl (b : Bool) | int (i : Int) | str (x : Str) | ref (a : Addr)
  | tup (ds : List D) | lst (ds : List D)
  /-- the script, as it was handed in -/
  | scr (ns : List Int)
  /-- a dict, an instance that never change any more -/
  | dic (kvs : List (Key × D))
  | obj (C : Str) (fs : List (Str × D))
  /-- an exception that was caught: its class, its fields -/
  | exc (C : Str) (fs : List (Str × V))
inductive O where
  | lst (ds : List D)
  | dic (kvs : List (Key × D))
  | ins (C : Str) (fs : List (Str × D))
  /-- a dict while a loop walks it; a dict whose keys are tuples -/
  | lck (od : Obj) (vs : List (Key × V)) (kvs : List (Key × D))
  | dT (kvs : List (List Key × D))
abbrev Eta := Addr → Option O
def Eta.put (e : Eta) (p : Addr) (o : O) : Eta := fun q => if q = p then some o else e q
@[simp] theorem put_same {e : Eta} {p : Addr} {o : O} : e.put p o p = some o := by unfold Eta.put; rw [if_pos rfl]
theorem put_ne {e : Eta} {p q : Addr} {o : O} (h : q ≠ p) : e.put p o q = e q := by unfold Eta.put; rw [if_neg h]
@[simp] theorem put_put {e : Eta} {p : Addr} {o u : O} : (e.put p o).put p u = e.put p u := by
  funext b; unfold Eta.put; split <;> rfl
theorem put_comm {e : Eta} {p q : Addr} {o u : O} (h : p ≠ q) : (e.put p o).put q u = (e.put q u).put p o := by
  funext b; unfold Eta.put
  by_cases h1 : b = q
  · subst h1; rw [if_pos rfl, if_neg (Ne.symm h), if_pos rfl]
  · rw [if_neg h1]; by_cases h2 : b = p
    · subst h2; rw [if_pos rfl, if_pos rfl]
    · rw [if_neg h2, if_neg h2, if_neg h1]
/-- a fresh cell is another than one that stands -/
theorem ne_cell {e : Eta} {p q : Addr} {o : O} (hp : e p = none) (hq : e q = some o) : q ≠ p := by
  intro z; subst z; rw [hp] at hq; cases hq

section
variable (K : PySem.W.Frag) (Z : Addr → Prop) (e : Eta) (H : Hp)
/-- what is known of a caught exception's object: its class, its dict -/
def ExcOb (oe : Obj) (C : Str) (d : Addr) : Prop := Zc (.ref (He.ga K C)) (some d) oe ∧ ∃ vs, oe.data = .fields vs
/-- a list, a tuple that is read as a tree -/
def Fz (a : Addr) (o : HO) : Prop := ¬ Z a ∧ e a = none ∧ H a = some o
def FzS (a : Addr) (vs : List V) : Prop := (¬ Z a ∧ e a = none ∧ Rd H a (.lst vs)) ∨ ∀ H', SqL K H' a vs
mutual
inductive Rep : V → D → Prop
  | non : Rep .non .non
  | bl (b : Bool) : Rep (.bl b) (.bl b)
  | int (i : Int) : Rep (.int i) (.int i)
  | str (x : Str) : Rep (.str x) (.str x)
  | ref (a : Addr) : Rep (.ref a) (.ref a)
  | tup {a : Addr} {vs : List V} {ds : List D} : Fz Z e H a (.tup vs) → RepL vs ds → Rep (.ref a) (.tup ds)
  | lst {a : Addr} {vs : List V} {ds : List D} : Fz Z e H a (.lst vs) → RepL vs ds → Rep (.ref a) (.lst ds)
  | scr {a : Addr} {ns : List Int} : FzS K Z e H a (ns.map V.int) → Rep (.ref a) (.scr ns)
  | dic {a : Addr} {vs : List (Key × V)} {kvs : List (Key × D)} : Fz Z e H a (.dK vs) → vs.map (·.1) = kvs.map (·.1) → RepL (vs.map (·.2)) (kvs.map (·.2)) → Rep (.ref a) (.dic kvs)
  | obj {a dx : Addr} {C : Str} {vs : List (Str × V)} {fs : List (Str × D)} : Fz Z e H a (.ins (He.ga K C) dx vs) → vs.map (·.1) = fs.map (·.1) → RepL (vs.map (·.2)) (fs.map (·.2)) → Rep (.ref a) (.obj C fs)
  | exc {a d : Addr} {oe : Obj} {u : HO} {C : Str} {fs : List (Str × V)} : Fz Z e H a (.frz oe u) → ExcOb K oe C d → Fz Z e H d (.xd fs) → Rep (.ref a) (.exc C fs)
inductive RepL : List V → List D → Prop
  | nil : RepL [] []
  | cons {v : V} {vs : List V} {d : D} {ds : List D} : Rep v d → RepL vs ds → RepL (v :: vs) (d :: ds)
end
/-- by keys -/
inductive RepK {κ : Type} : List (κ × V) → List (κ × D) → Prop
  | nil : RepK [] []
  | cons {k : κ} {v : V} {vs : List (κ × V)} {d : D} {ds : List (κ × D)} : Rep K Z e H v d → RepK vs ds → RepK ((k, v) :: vs) ((k, d) :: ds)
def ORep (p : Addr) : O → Prop
  | .lst ds => ∃ vs, H p = some (.lst vs) ∧ RepL K Z e H vs ds
  | .dic kvs => ∃ vs, H p = some (.dK vs) ∧ RepK K Z e H vs kvs
  | .ins C fs => ∃ dx vs, H p = some (.ins (He.ga K C) dx vs) ∧ RepK K Z e H vs fs
  | .lck od vs kvs => H p = some (.frz od (.dK vs)) ∧ RepK K Z e H vs kvs
  | .dT kvs => ∃ vs, H p = some (.dT vs) ∧ RepK K Z e H vs kvs
structure HRel : Prop where
  cell : ∀ p o, e p = some o → ORep K Z e H p o
  hid : ∀ p, Z p → e p = none ∧ ∃ o, H p = some o
end

/-- what is tracked and no cell stays so -/
def Ext (e : Eta) (H : Hp) (e' : Eta) (H' : Hp) : Prop := ∀ a o, H a = some o → e a = none → H' a = some o ∧ e' a = none
theorem Ext.refl {e : Eta} {H : Hp} : Ext e H e H := fun _ _ h1 h2 => ⟨h1, h2⟩
theorem Ext.trans {e e1 e2 : Eta} {H H1 H2 : Hp} (a : Ext e H e1 H1) (b : Ext e1 H1 e2 H2) : Ext e H e2 H2 := fun p o h1 h2 =>
  let ⟨q1, q2⟩ := a p o h1 h2
  b p o q1 q2
section
variable {K : PySem.W.Frag} {Z : Addr → Prop} {e e' : Eta} {H H' : Hp}
theorem Rd.some {a : Addr} {u : HO} (h : Rd H a u) : ∃ o, H a = some o := by
  rcases h with h | ⟨o, h⟩
  · exact ⟨_, h⟩
  · exact ⟨_, h⟩
theorem Ext.rd {a : Addr} {u : HO} (x : Ext e H e' H') (h : Rd H a u) (n : e a = none) : Rd H' a u ∧ e' a = none := by
  rcases h with h | ⟨o, h⟩
  · obtain ⟨q1, q2⟩ := x _ _ h n
    exact ⟨.inl q1, q2⟩
  · obtain ⟨q1, q2⟩ := x _ _ h n
    exact ⟨.inr ⟨o, q1⟩, q2⟩
theorem FzS.seq {a : Addr} {vs : List V} (h : FzS K Z e H a vs) : SqL K H a vs := by
  rcases h with ⟨_, _, h⟩ | h
  · exact .inl h
  · exact h H
/-- the general step of trees: what is read stays, the new hidden set -/
structure Move (K : PySem.W.Frag) (Z : Addr → Prop) (e : Eta) (H : Hp) (Z' : Addr → Prop) (e' : Eta) (H' : Hp) : Prop where
  go : ∀ a o, ¬ Z a → e a = none → H a = some o → H' a = some o ∧ e' a = none ∧ ¬ Z' a
theorem Move.rd {Z' : Addr → Prop} (m : Move K Z e H Z' e' H') {a : Addr} {u : HO} (z : ¬ Z a) (n : e a = none) (h : Rd H a u) : ¬ Z' a ∧ e' a = none ∧ Rd H' a u := by
  rcases h with h | ⟨o, h⟩
  · obtain ⟨q1, q2, q3⟩ := m.go a _ z n h
    exact ⟨q3, q2, .inl q1⟩
  · obtain ⟨q1, q2, q3⟩ := m.go a _ z n h
    exact ⟨q3, q2, .inr ⟨o, q1⟩⟩
mutual
theorem Rep.move {Z' : Addr → Prop} (m : Move K Z e H Z' e' H') : ∀ {v : V} {d : D}, Rep K Z e H v d → Rep K Z' e' H' v d
  | _, _, .non => .non
  | _, _, .bl b => .bl b
  | _, _, .int b => .int b
  | _, _, .str b => .str b
  | _, _, .ref b => .ref b
  | _, _, .tup h r => .tup (let ⟨q1, q2, q3⟩ := m.go _ _ h.1 h.2.1 h.2.2; ⟨q3, q2, q1⟩) (RepL.move m r)
  | _, _, .lst h r => .lst (let ⟨q1, q2, q3⟩ := m.go _ _ h.1 h.2.1 h.2.2; ⟨q3, q2, q1⟩) (RepL.move m r)
  | _, _, .scr h => .scr (h.elim (fun q => .inl (m.rd q.1 q.2.1 q.2.2)) .inr)
  | _, _, .dic h n r => .dic (let ⟨q1, q2, q3⟩ := m.go _ _ h.1 h.2.1 h.2.2; ⟨q3, q2, q1⟩) n (RepL.move m r)
  | _, _, .obj h n r => .obj (let ⟨q1, q2, q3⟩ := m.go _ _ h.1 h.2.1 h.2.2; ⟨q3, q2, q1⟩) n (RepL.move m r)
  | _, _, .exc h n r => .exc (let ⟨q1, q2, q3⟩ := m.go _ _ h.1 h.2.1 h.2.2; ⟨q3, q2, q1⟩) n (let ⟨q1, q2, q3⟩ := m.go _ _ r.1 r.2.1 r.2.2; ⟨q3, q2, q1⟩)
theorem RepL.move {Z' : Addr → Prop} (m : Move K Z e H Z' e' H') : ∀ {vs : List V} {ds : List D}, RepL K Z e H vs ds → RepL K Z' e' H' vs ds
  | _, _, .nil => .nil
  | _, _, .cons a b => .cons (Rep.move m a) (RepL.move m b)
end
theorem RepK.move {κ : Type} {Z' : Addr → Prop} (m : Move K Z e H Z' e' H') : ∀ {vs : List (κ × V)} {ds : List (κ × D)}, RepK K Z e H vs ds → RepK K Z' e' H' vs ds
  | _, _, .nil => .nil
  | _, _, .cons a b => .cons (a.move m) (RepK.move m b)
theorem ORep.move {Z' : Addr → Prop} {p : Addr} {o : O} (m : Move K Z e H Z' e' H') (h : ORep K Z e H p o) (hp : H' p = H p) : ORep K Z' e' H' p o := by
  cases o with
  | lst ds => obtain ⟨vs, h1, h2⟩ := h; exact ⟨vs, by rw [hp]; exact h1, h2.move m⟩
  | dic ds => obtain ⟨vs, h1, h2⟩ := h; exact ⟨vs, by rw [hp]; exact h1, h2.move m⟩
  | ins C ds => obtain ⟨dx, vs, h1, h2⟩ := h; exact ⟨dx, vs, by rw [hp]; exact h1, h2.move m⟩
  | lck od vs ds => exact ⟨by rw [hp]; exact h.1, h.2.move m⟩
  | dT ds => obtain ⟨vs, h1, h2⟩ := h; exact ⟨vs, by rw [hp]; exact h1, h2.move m⟩
theorem ORep.some {p : Addr} {o : O} (h : ORep K Z e H p o) : ∃ u, H p = some u := by
  cases o with
  | lst ds => obtain ⟨vs, h1, h2⟩ := h; exact ⟨_, h1⟩
  | dic ds => obtain ⟨vs, h1, h2⟩ := h; exact ⟨_, h1⟩
  | ins C ds => obtain ⟨dx, vs, h1, h2⟩ := h; exact ⟨_, h1⟩
  | lck od vs ds => exact ⟨_, h.1⟩
  | dT ds => obtain ⟨vs, h1, h2⟩ := h; exact ⟨_, h1⟩
theorem HRel.free (h : HRel K Z e H) {p : Addr} (hp : H p = none) : e p = none ∧ ¬ Z p := by
  refine ⟨?_, fun z => ?_⟩
  · cases q : e p with
    | none => rfl
    | some o =>
      obtain ⟨u, hu⟩ := (h.cell p o q).some
      rw [hp] at hu; cases hu
  · obtain ⟨_, o, ho⟩ := h.hid p z
    rw [hp] at ho; cases ho
theorem Ext.move (x : Ext e H e' H') : Move K Z e H Z e' H' := ⟨fun a o z n h => let ⟨q1, q2⟩ := x a o h n; ⟨q1, q2, z⟩⟩
theorem Rep.ext {v : V} {d : D} (x : Ext e H e' H') (r : Rep K Z e H v d) : Rep K Z e' H' v d := r.move x.move
theorem RepL.ext {v : List V} {d : List D} (x : Ext e H e' H') (r : RepL K Z e H v d) : RepL K Z e' H' v d := r.move x.move
theorem RepK.ext {κ : Type} {v : List (κ × V)} {d : List (κ × D)} (x : Ext e H e' H') (r : RepK K Z e H v d) : RepK K Z e' H' v d := r.move x.move
/-- a new object that is no cell -/
theorem HRel.junk (h : HRel K Z e H) {p : Addr} {u : HO} (hp : H p = none) : Ext e H e (upd H p u) ∧ HRel K Z e (upd H p u) := by
  have x : Ext e H e (upd H p u) := fun a o q n => ⟨by rw [upd_ne (ne_of_none q hp)]; exact q, n⟩
  refine ⟨x, fun q o hq => ?_, fun q z => ?_⟩
  · have nq : q ≠ p := fun z => by
      obtain ⟨w, hw⟩ := (h.cell q o hq).some
      rw [z, hp] at hw; cases hw
    exact (h.cell q o hq).move x.move (upd_ne nq)
  · obtain ⟨n, o, ho⟩ := h.hid q z
    exact ⟨n, o, by rw [upd_ne (ne_of_none ho hp)]; exact ho⟩
/-- a new cell -/
theorem HRel.newc (h : HRel K Z e H) {p : Addr} {u : HO} {o : O} (hp : H p = none) (ho : Ext e H (e.put p o) (upd H p u) → HRel K Z e (upd H p u) → ORep K Z (e.put p o) (upd H p u) p o) :
    Ext e H (e.put p o) (upd H p u) ∧ HRel K Z (e.put p o) (upd H p u) := by
  have x : Ext e H (e.put p o) (upd H p u) := fun a w q n => by
    have na := ne_of_none q hp
    exact ⟨by rw [upd_ne na]; exact q, by rw [put_ne na]; exact n⟩
  refine ⟨x, fun q w hq => ?_, fun q z => ?_⟩
  · by_cases nq : q = p
    · subst nq
      rw [put_same] at hq; cases hq
      exact ho x (h.junk hp).2
    · rw [put_ne nq] at hq
      exact (h.cell q w hq).move x.move (upd_ne nq)
  · obtain ⟨n, w, hw⟩ := h.hid q z
    have na := ne_of_none hw hp
    exact ⟨by rw [put_ne na]; exact n, w, by rw [upd_ne na]; exact hw⟩
/-- a cell is written -/
theorem HRel.write (h : HRel K Z e H) {p : Addr} {u : HO} {o w : O} (hp : e p = some w) (ho : Ext e H (e.put p o) (upd H p u) → ORep K Z (e.put p o) (upd H p u) p o) :
    Ext e H (e.put p o) (upd H p u) ∧ HRel K Z (e.put p o) (upd H p u) := by
  have x : Ext e H (e.put p o) (upd H p u) := fun a w' q n => by
    have na : a ≠ p := fun z => by subst z; rw [hp] at n; cases n
    exact ⟨by rw [upd_ne na]; exact q, by rw [put_ne na]; exact n⟩
  refine ⟨x, fun q w' hq => ?_, fun q z => ?_⟩
  · by_cases nq : q = p
    · subst nq
      rw [put_same] at hq; cases hq
      exact ho x
    · rw [put_ne nq] at hq
      exact (h.cell q w' hq).move x.move (upd_ne nq)
  · obtain ⟨n, w', hw⟩ := h.hid q z
    have na : q ≠ p := fun z => by subst z; rw [hp] at n; cases n
    exact ⟨by rw [put_ne na]; exact n, w', by rw [upd_ne na]; exact hw⟩
end

/-! ### lists of representations -/
section
variable {K : PySem.W.Frag} {Z : Addr → Prop} {e : Eta} {H : Hp}
theorem RepL.length : ∀ {vs : List V} {ds : List D}, RepL K Z e H vs ds → vs.length = ds.length
  | _, _, .nil => rfl
  | _, _, .cons _ r => congrArg Nat.succ (RepL.length r)
theorem RepL.get : ∀ {vs : List V} {ds : List D} {i : Nat} {d : D}, RepL K Z e H vs ds → ds[i]? = some d → ∃ v, vs[i]? = some v ∧ Rep K Z e H v d
  | _, _, _, _, .nil, h => by simp at h
  | _, _, 0, _, .cons r _, h => by simp at h; subst h; exact ⟨_, rfl, r⟩
  | _, _, i + 1, _, .cons _ r, h => by
    obtain ⟨v, a, b⟩ := RepL.get (i := i) r (by simpa using h)
    exact ⟨v, by simpa using a, b⟩
theorem RepL.get' : ∀ {vs : List V} {ds : List D} {i : Nat} {v : V}, RepL K Z e H vs ds → vs[i]? = some v → ∃ d, ds[i]? = some d ∧ Rep K Z e H v d
  | _, _, _, _, .nil, h => by simp at h
  | _, _, 0, _, .cons r _, h => by simp at h; subst h; exact ⟨_, rfl, r⟩
  | _, _, i + 1, _, .cons _ r, h => by
    obtain ⟨v, a, b⟩ := RepL.get' (i := i) r (by simpa using h)
    exact ⟨v, by simpa using a, b⟩
theorem RepL.append : ∀ {vs us : List V} {ds es : List D}, RepL K Z e H vs ds → RepL K Z e H us es → RepL K Z e H (vs ++ us) (ds ++ es)
  | _, _, _, _, .nil, q => q
  | _, _, _, _, .cons a r, q => .cons a (RepL.append r q)
theorem RepL.set {v : V} {d : D} (h : Rep K Z e H v d) : ∀ {vs : List V} {ds : List D} (i : Nat), RepL K Z e H vs ds → RepL K Z e H (vs.set i v) (ds.set i d)
  | _, _, _, .nil => .nil
  | _, _, 0, .cons _ r => .cons h r
  | _, _, i + 1, .cons a r => .cons a (RepL.set h i r)
theorem RepL.take : ∀ {vs : List V} {ds : List D} (i : Nat), RepL K Z e H vs ds → RepL K Z e H (vs.take i) (ds.take i)
  | _, _, 0, _ => .nil
  | _, _, _ + 1, .nil => .nil
  | _, _, i + 1, .cons a r => .cons a (RepL.take i r)
theorem RepL.drop : ∀ {vs : List V} {ds : List D} (i : Nat), RepL K Z e H vs ds → RepL K Z e H (vs.drop i) (ds.drop i)
  | _, _, 0, r => r
  | _, _, _ + 1, .nil => .nil
  | _, _, i + 1, .cons a r => RepL.drop i r
theorem RepL.reverse {vs : List V} {ds : List D} (r : RepL K Z e H vs ds) : RepL K Z e H vs.reverse ds.reverse := by
  induction r using RepL.rec (motive_1 := fun _ _ _ => True) with
  | nil => exact .nil
  | cons a r _ ih => rw [List.reverse_cons, List.reverse_cons]; exact ih.append (.cons a .nil)
  | _ => trivial
theorem RepL.eraseIdx : ∀ {vs : List V} {ds : List D} (i : Nat), RepL K Z e H vs ds → RepL K Z e H (vs.eraseIdx i) (ds.eraseIdx i)
  | _, _, _, .nil => .nil
  | _, _, 0, .cons _ r => r
  | _, _, i + 1, .cons a r => .cons a (RepL.eraseIdx i r)
theorem RepL.dropLast : ∀ {vs : List V} {ds : List D}, RepL K Z e H vs ds → RepL K Z e H vs.dropLast ds.dropLast
  | _, _, .nil => .nil
  | _, _, .cons _ .nil => .nil
  | _, _, .cons a (.cons b r) => .cons a (RepL.dropLast (.cons b r))
theorem RepL.map {α : Type} {f : α → V} {g : α → D} (h : ∀ a, Rep K Z e H (f a) (g a)) : ∀ l : List α, RepL K Z e H (l.map f) (l.map g)
  | [] => .nil
  | a :: l => .cons (h a) (RepL.map h l)
theorem RepL.rep {vs : List V} {ds : List D} (r : RepL K Z e H vs ds) : ∀ k : Nat, RepL K Z e H (List.replicate k vs).flatten (List.replicate k ds).flatten
  | 0 => .nil
  | k + 1 => by rw [List.replicate_succ, List.replicate_succ, List.flatten_cons, List.flatten_cons]; exact r.append (RepL.rep r k)
end

/-! ### keys and values -/
section
variable {K : PySem.W.Frag} {Z : Addr → Prop} {e : Eta} {H : Hp}
theorem RepK.of {κ : Type} : ∀ {vs : List (κ × V)} {ds : List (κ × D)}, vs.map (·.1) = ds.map (·.1) → RepL K Z e H (vs.map (·.2)) (ds.map (·.2)) → RepK K Z e H vs ds
  | [], [], _, _ => .nil
  | [], _ :: _, h, _ => by cases h
  | _ :: _, [], h, _ => by cases h
  | (k, v) :: vs, (k', d) :: ds, h, r => by
    injection h with h1 h2
    have h1 : k = k' := h1
    subst h1
    cases r with
    | cons a r => exact .cons a (RepK.of h2 r)
theorem RepK.parts {κ : Type} : ∀ {vs : List (κ × V)} {ds : List (κ × D)}, RepK K Z e H vs ds → vs.map (·.1) = ds.map (·.1) ∧ RepL K Z e H (vs.map (·.2)) (ds.map (·.2))
  | _, _, .nil => ⟨rfl, .nil⟩
  | _, _, .cons a r => by
    obtain ⟨h1, h2⟩ := RepK.parts r
    exact ⟨by rw [List.map_cons, List.map_cons, h1], .cons a h2⟩
end

/-! ### slots -/
abbrev Sd := List (Option D)
structure SR0 (K : PySem.W.Frag) (Z : Addr → Prop) (e : Eta) (H : Hp) (dl : Sd) (sg : L2.St) : Prop where
  len : dl.length = sg.length
  get : ∀ (i : Nat) (d : D), dl[i]? = some (some d) → ∃ v, sg[i]? = some (some v) ∧ Rep K Z e H v d
  rel : HRel K Z e H
theorem SR0.ext {K : PySem.W.Frag} {Z : Addr → Prop} {e e' : Eta} {H H' : Hp} {dl : Sd} {sg : L2.St} (s : SR0 K Z e H dl sg) (x : Ext e H e' H') (h : HRel K Z e' H') : SR0 K Z e' H' dl sg :=
  ⟨s.len, fun i d q => let ⟨v, a, b⟩ := s.get i d q; ⟨v, a, b.ext x⟩, h⟩
theorem SR0.set {K : PySem.W.Frag} {Z : Addr → Prop} {e : Eta} {H : Hp} {dl : Sd} {sg : L2.St} (s : SR0 K Z e H dl sg) (i : Nat) {v : V} {d : D} (r : Rep K Z e H v d) : SR0 K Z e H (dl.set i (some d)) (sg.set i (some v)) := by
  refine ⟨by rw [List.length_set, List.length_set]; exact s.len, fun j c q => ?_, s.rel⟩
  by_cases hj : i = j
  · subst hj
    by_cases hi : i < dl.length
    · rw [List.getElem?_set_self hi] at q
      cases q
      exact ⟨v, List.getElem?_set_self (by rw [← s.len]; exact hi), r⟩
    · rw [List.getElem?_eq_none (by rw [List.length_set]; omega)] at q; cases q
  · rw [List.getElem?_set_ne hj] at q
    obtain ⟨u, a, b⟩ := s.get j c q
    exact ⟨u, by rw [List.getElem?_set_ne hj]; exact a, b⟩
theorem SR0.setN {K : PySem.W.Frag} {Z : Addr → Prop} {e : Eta} {H : Hp} {dl : Sd} {sg : L2.St} (s : SR0 K Z e H dl sg) (i : Nat) : SR0 K Z e H (dl.set i none) (sg.set i none) := by
  refine ⟨by rw [List.length_set, List.length_set]; exact s.len, fun j c q => ?_, s.rel⟩
  by_cases hj : i = j
  · subst hj
    by_cases hi : i < dl.length
    · rw [List.getElem?_set_self hi] at q; cases q
    · rw [List.getElem?_eq_none (by rw [List.length_set]; omega)] at q; cases q
  · rw [List.getElem?_set_ne hj] at q
    obtain ⟨u, a, b⟩ := s.get j c q
    exact ⟨u, by rw [List.getElem?_set_ne hj]; exact a, b⟩


/-! ### exceptions -/
/-- an exception that leaves: its class, its fields, the slots -/
abbrev XD := Str → List (Str × V) → Sd → Eta → Prop
/-- none is let out -/
def noX : XD := fun _ _ _ _ => False
/-- the classes of exceptions that the program has -/
def excNames : List Str := (("FenError" : Str) :: (("BadName" : Str) :: (("Taken" : Str) :: (("Full" : Str) :: (("NoMark" : Str) :: (("NoHand" : Str) :: (("Same" : Str) :: (("BadRise" : Str) :: (("NoRun" : Str) :: (("Aside" : Str) :: (("NotAside" : Str) :: (("BadNumber" : Str) ::
  (("NothingLeft" : Str) :: (("Steady" : Str) :: (("NoDeed" : Str) :: (("Known" : Str) :: (("NoFen" : Str) :: (("Settled" : Str) :: (("NoPage" : Str) :: [])))))))))))))))))))
/-- one of them, and it stands in the module -/
def XNm (K : PySem.W.Frag) (C : Str) : Prop := C ∈ excNames ∧ PySem.W.nsIn K mainGlobals C = some (some (.ref (He.ga K C)))
structure XRep (K : PySem.W.Frag) (Z : Addr → Prop) (e : Eta) (H : Hp) (cls : Value) (d : Option Addr) (C : Str) (fs : List (Str × V)) : Prop where
  nm : XNm K C
  cls : cls = .ref (He.ga K C)
  dict : ∃ dd, d = some dd ∧ Fz Z e H dd (.xd fs)
/-- K; what the code's context wants of an exception; what the reading says of it -/
structure Yx where
  K : PySem.W.Frag
  xw : WX
  xc : XD
def ExcR (Y : Yx) (Z : Addr → Prop) (e : Eta) (H : Hp) : Prop := ∀ (C : Str) (fs : List (Str × V)) (cls : Value) (d : Option Addr) (dl : Sd) (sg : L2.St) (e' : Eta) (H' : Hp), Ext e H e' H' → SR0 Y.K Z e' H' dl sg → XRep Y.K Z e' H' cls d C fs → Y.xc C fs dl e' → Y.xw cls d sg H'
theorem ExcR.ext {Y : Yx} {Z : Addr → Prop} {e e1 : Eta} {H H1 : Hp} (r : ExcR Y Z e H) (x : Ext e H e1 H1) : ExcR Y Z e1 H1 := fun C fs cls d dl sg e' H' y => r C fs cls d dl sg e' H' (x.trans y)
theorem ExcR.no {K : PySem.W.Frag} {xw : WX} {Z : Addr → Prop} {e : Eta} {H : Hp} : ExcR ⟨K, xw, noX⟩ Z e H := fun _ _ _ _ _ _ _ _ _ _ _ h => h.elim
theorem SR0.mv {K : PySem.W.Frag} {Z Z' : Addr → Prop} {e e' : Eta} {H H' : Hp} {dl : Sd} {sg : L2.St} (s : SR0 K Z e H dl sg) (m : Move K Z e H Z' e' H') (h : HRel K Z' e' H') : SR0 K Z' e' H' dl sg :=
  ⟨s.len, fun i d q => let ⟨v, a, b⟩ := s.get i d q; ⟨v, a, b.move m⟩, h⟩
/-- some things more are hidden -/
theorem ExcR.hide {Y : Yx} {Z Z' : Addr → Prop} {e e1 : Eta} {H H1 : Hp} (r : ExcR Y Z e H) (x : Ext e H e1 H1) (hz : ∀ a, Z a → Z' a) : ExcR Y Z' e1 H1 := fun C fs cls d dl sg e' H' y s w q => by
  have back : Move Y.K Z' e' H' Z e' H' := ⟨fun a o z n q => ⟨q, n, fun w => z (hz a w)⟩⟩
  have h : HRel Y.K Z e' H' := ⟨fun p o hp => (s.rel.cell p o hp).move back rfl, fun p z => s.rel.hid p (hz p z)⟩
  obtain ⟨dd, e1, z1, z2, z3⟩ := w.dict
  exact r C fs cls d dl sg e' H' (x.trans y) (s.mv back h) ⟨w.nm, w.cls, dd, e1, fun w => z1 (hz dd w), z2, z3⟩ q
structure SRel (Y : Yx) (Z : Addr → Prop) (e : Eta) (H : Hp) (dl : Sd) (sg : L2.St) : Prop extends SR0 Y.K Z e H dl sg where
  exc : ExcR Y Z e H
theorem SRel.ext {Y : Yx} {Z : Addr → Prop} {e e' : Eta} {H H' : Hp} {dl : Sd} {sg : L2.St} (s : SRel Y Z e H dl sg) (x : Ext e H e' H') (h : HRel Y.K Z e' H') : SRel Y Z e' H' dl sg := ⟨s.toSR0.ext x h, s.exc.ext x⟩
theorem SRel.set {Y : Yx} {Z : Addr → Prop} {e : Eta} {H : Hp} {dl : Sd} {sg : L2.St} (s : SRel Y Z e H dl sg) (i : Nat) {v : V} {d : D} (r : Rep Y.K Z e H v d) : SRel Y Z e H (dl.set i (some d)) (sg.set i (some v)) := ⟨s.toSR0.set i r, s.exc⟩
theorem SRel.setN {Y : Yx} {Z : Addr → Prop} {e : Eta} {H : Hp} {dl : Sd} {sg : L2.St} (s : SRel Y Z e H dl sg) (i : Nat) : SRel Y Z e H (dl.set i none) (sg.set i none) := ⟨s.toSR0.setN i, s.exc⟩
/-- the context with what the reading says of exceptions -/
structure Cy extends Cx where
  xc : XD
instance : CoeOut Cy Cx := ⟨Cy.toCx⟩
/-- all that the context takes of an exception -/
def Wmax (X : Cx) : WX := fun cls d sg H => ∀ u s', XE X (fun c' d' sg' H' => c' = cls ∧ d' = d ∧ sg' = sg ∧ H' = H) u s' → X.xe u s'
theorem takes_max (X : Cx) : Takes X (Wmax X) := fun u s' ⟨a, B, sI, pins, sg, H, cls, d, e, I, nb, up, sky, na, os, ag, w⟩ => w u s' ⟨a, B, sI, pins, sg, H, cls, d, e, I, nb, up, sky, na, os, ag, rfl, rfl, rfl, rfl⟩
theorem Takes.le {X : Cx} {W : WX} (t : Takes X W) {cls : Value} {d : Option Addr} {sg : L2.St} {H : Hp} (h : W cls d sg H) : Wmax X cls d sg H := fun u s' ⟨a, B, sI, pins, sg', H', cls', d', e, I, nb, up, sky, na, os, ag, w1, w2, w3, w4⟩ => by
  subst w1 w2 w3 w4
  exact t u s' ⟨a, B, sI, pins, _, _, _, _, e, I, nb, up, sky, na, os, ag, h⟩
abbrev Cy.Y (X : Cy) : Yx := ⟨X.K, Wmax X.toCx, X.xc⟩

/-! ### the judgements -/
abbrev TD := Sd → Eta → (D → Eta → Prop) → Prop
abbrev TDs := Sd → Eta → (List D → Eta → Prop) → Prop
abbrev TDb := Sd → Eta → (Bool → Eta → Prop) → Prop
structure EndsD where
  nx : Sd → Eta → Prop
  rt : D → Eta → Prop
  bk : Sd → Eta → Prop := fun _ _ => False
  ct : Sd → Eta → Prop := fun _ _ => False
abbrev TSD := EndsD → Sd → Eta → Prop
section
variable (Y : Yx)
def low (T : TD) : TE := fun sg H Q => ∃ (Z : Addr → Prop) (dl : Sd) (e : Eta) (Qd : D → Eta → Prop), SRel Y Z e H dl sg ∧ T dl e Qd ∧
  ∀ v H' d e', Ext e H e' H' → Rep Y.K Z e' H' v d → HRel Y.K Z e' H' → Qd d e' → Q v H'
def lows (T : TDs) : TA := fun sg H Q => ∃ (Z : Addr → Prop) (dl : Sd) (e : Eta) (Qd : List D → Eta → Prop), SRel Y Z e H dl sg ∧ T dl e Qd ∧
  ∀ v H' d e', Ext e H e' H' → RepL Y.K Z e' H' v d → HRel Y.K Z e' H' → Qd d e' → Q v H'
def lowb (T : TDb) : TT := fun sg H Q => ∃ (Z : Addr → Prop) (dl : Sd) (e : Eta) (Qd : Bool → Eta → Prop), SRel Y Z e H dl sg ∧ T dl e Qd ∧
  ∀ b H' e', Ext e H e' H' → HRel Y.K Z e' H' → Qd b e' → Q b H'
structure EndsR (Z : Addr → Prop) (e : Eta) (H : Hp) (E : EndsD) (F : Ends) : Prop where
  nx : ∀ dl e' sg H', Ext e H e' H' → SRel Y Z e' H' dl sg → E.nx dl e' → F.nx sg H'
  rt : ∀ d e' v H', Ext e H e' H' → Rep Y.K Z e' H' v d → HRel Y.K Z e' H' → E.rt d e' → F.rt v H'
  bk : ∀ dl e' sg H', Ext e H e' H' → SRel Y Z e' H' dl sg → E.bk dl e' → F.bk sg H'
  ct : ∀ dl e' sg H', Ext e H e' H' → SRel Y Z e' H' dl sg → E.ct dl e' → F.ct sg H'
def lowS (T : TSD) : TS := fun F sg H => ∃ (Z : Addr → Prop) (dl : Sd) (e : Eta) (E : EndsD), SRel Y Z e H dl sg ∧ T E dl e ∧ EndsR Y Z e H E F
end
theorem EndsR.ext {Y : Yx} {Z : Addr → Prop} {e e1 : Eta} {H H1 : Hp} {E : EndsD} {F : Ends} (r : EndsR Y Z e H E F) (x : Ext e H e1 H1) : EndsR Y Z e1 H1 E F :=
  ⟨fun _ _ _ _ y => r.nx _ _ _ _ (x.trans y), fun _ _ _ _ y => r.rt _ _ _ _ (x.trans y), fun _ _ _ _ y => r.bk _ _ _ _ (x.trans y), fun _ _ _ _ y => r.ct _ _ _ _ (x.trans y)⟩
abbrev DE (X : Cy) (ex : Expr) (T : TD) : Prop := PE X ex (low X.Y T)
abbrev DA (X : Cy) (es : List Expr) (T : TDs) : Prop := PA X es (lows X.Y T)
abbrev DT (X : Cy) (ex : Expr) (T : TDb) : Prop := PT X ex (lowb X.Y T)
abbrev DW (X : Cy) (ex : Expr) (T : TDb) : Prop := PW X ex (lowb X.Y T)
abbrev DS (X : Cy) (st : Stmt) (T : TSD) : Prop := PS X st (lowS X.Y T)
abbrev DSs (X : Cy) (st : List Stmt) (T : TSD) : Prop := PSs X st (lowS X.Y T)
section
variable {X : Cx}
theorem pe_imp {ex : Expr} {t t' : TE} (p : PE X ex t) (h : ∀ sg H Q, t' sg H Q → t sg H Q) : PE X ex t' := ⟨fun pins s sg H Q I q => p.run pins s sg H Q I (h _ _ _ q)⟩
theorem pt_imp {ex : Expr} {t t' : TT} (p : PT X ex t) (h : ∀ sg H Q, t' sg H Q → t sg H Q) : PT X ex t' := ⟨fun pins s sg H Q I q => p.run pins s sg H Q I (h _ _ _ q)⟩
theorem pw_imp {ex : Expr} {t t' : TT} (p : PW X ex t) (h : ∀ sg H Q, t' sg H Q → t sg H Q) : PW X ex t' := ⟨fun wh pins s sg H Q I q => p.run wh pins s sg H Q I (h _ _ _ q)⟩
theorem pa_imp {es : List Expr} {t t' : TA} (p : PA X es t) (h : ∀ sg H Q, t' sg H Q → t sg H Q) : PA X es t' := ⟨fun pos pins s sg H Q I q => p.run pos pins s sg H Q I (h _ _ _ q)⟩
theorem ps_imp {st : Stmt} {t t' : TS} (p : PS X st t) (h : ∀ F sg H, t' F sg H → t F sg H) : PS X st t' := ⟨fun pins s sg H F I q => p.run pins s sg H F I (h _ _ _ q)⟩
theorem pss_imp {st : List Stmt} {t t' : TS} (p : PSs X st t) (h : ∀ F sg H, t' F sg H → t F sg H) : PSs X st t' := ⟨fun pins s sg H F I q => p.run pins s sg H F I (h _ _ _ q)⟩
end
/-- how one uses a part: from what stands to what it gives -/
theorem low.use {Y : Yx} {T : TD} {Z : Addr → Prop} {dl : Sd} {e : Eta} {H : Hp} {sg : L2.St} {Qd : D → Eta → Prop} {Q : VK} (s : SRel Y Z e H dl sg) (t : T dl e Qd)
    (k : ∀ v H' d e', Ext e H e' H' → Rep Y.K Z e' H' v d → HRel Y.K Z e' H' → Qd d e' → Q v H') : low Y T sg H Q := ⟨Z, dl, e, Qd, s, t, k⟩
theorem lows.use {Y : Yx} {T : TDs} {Z : Addr → Prop} {dl : Sd} {e : Eta} {H : Hp} {sg : L2.St} {Qd : List D → Eta → Prop} {Q : List V → Hp → Prop} (s : SRel Y Z e H dl sg) (t : T dl e Qd)
    (k : ∀ v H' d e', Ext e H e' H' → RepL Y.K Z e' H' v d → HRel Y.K Z e' H' → Qd d e' → Q v H') : lows Y T sg H Q := ⟨Z, dl, e, Qd, s, t, k⟩
theorem lowb.use {Y : Yx} {T : TDb} {Z : Addr → Prop} {dl : Sd} {e : Eta} {H : Hp} {sg : L2.St} {Qd : Bool → Eta → Prop} {Q : Bool → Hp → Prop} (s : SRel Y Z e H dl sg) (t : T dl e Qd)
    (k : ∀ b H' e', Ext e H e' H' → HRel Y.K Z e' H' → Qd b e' → Q b H') : lowb Y T sg H Q := ⟨Z, dl, e, Qd, s, t, k⟩
theorem lowS.use {Y : Yx} {T : TSD} {Z : Addr → Prop} {dl : Sd} {e : Eta} {H : Hp} {sg : L2.St} {E : EndsD} {F : Ends} (s : SRel Y Z e H dl sg) (t : T E dl e) (k : EndsR Y Z e H E F) : lowS Y T F sg H := ⟨Z, dl, e, E, s, t, k⟩
end FL

set_option Elab.async false
set_option linter.all false
set_option maxRecDepth 100000
set_option maxHeartbeats 4000000
/-! The layer's expressions. -/
namespace FL
open PySem PySem.Spec PyProof.Rows L2

/-! ### what trees and cells say -/
/-- items of a list or a tuple -/
def lstO : Option O → Option (List D)
  | some (.lst ds) => some ds
  | _ => none
def onSome {α : Type} : Option α → (α → Prop) → Prop
  | some a, Q => Q a
  | none, _ => False
def onI : D → (Int → Prop) → Prop
  | .int i, Q => Q i
  | _, _ => False
def onB : D → (Bool → Prop) → Prop
  | .bl b, Q => Q b
  | _, _ => False
theorem onSome_ex {α : Type} {o : Option α} {Q : α → Prop} (h : onSome o Q) : ∃ a, o = some a ∧ Q a := by
  cases o with
  | none => exact h.elim
  | some a => exact ⟨a, rfl, h⟩
theorem onI_ex {d : D} {Q : Int → Prop} (h : onI d Q) : ∃ i, d = .int i ∧ Q i := by
  cases d <;> first | exact ⟨_, rfl, h⟩ | exact h.elim
theorem onB_ex {d : D} {Q : Bool → Prop} (h : onB d Q) : ∃ i, d = .bl i ∧ Q i := by
  cases d <;> first | exact ⟨_, rfl, h⟩ | exact h.elim
theorem lstO_ex {o : Option O} {ds : List D} (h : lstO o = some ds) : o = some (.lst ds) := by
  cases o with
  | none => cases h
  | some o => cases o with
    | lst d => cases h; rfl
    | _ => cases h
theorem Rep.of_int {K : PySem.W.Frag} {Z : Addr → Prop} {e : Eta} {H : Hp} {v : V} {i : Int} (r : Rep K Z e H v (.int i)) : v = .int i := by cases r; rfl
theorem Rep.of_bl {K : PySem.W.Frag} {Z : Addr → Prop} {e : Eta} {H : Hp} {v : V} {i : Bool} (r : Rep K Z e H v (.bl i)) : v = .bl i := by cases r; rfl
def seqD (e : Eta) : D → Option (List D)
  | .lst ds => some ds
  | .tup ds => some ds
  | .ref p => lstO (e p)
  | _ => none
/-- items of a list -/
def lstD (e : Eta) : D → Option (List D)
  | .lst ds => some ds
  | .ref p => lstO (e p)
  | _ => none
def keyD : D → Option Key
  | .int i => some (.inl i)
  | .str x => some (.inr x)
  | _ => none
def vD {α : Type} (kvs : List (Key × α)) (k : Key) : Option α := (kvs.find? fun kv => decide (kv.1 = k)).map (·.2)
def putD {α : Type} (kvs : List (Key × α)) (k : Key) (v : α) : List (Key × α) :=
  if (kvs.any fun kv => decide (kv.1 = k)) = true then kvs.map fun kv => if kv.1 = k then (kv.1, v) else kv else kvs ++ [(k, v)]
def dropD {α : Type} (kvs : List (Key × α)) (k : Key) : List (Key × α) := kvs.filter fun kv => decide (kv.1 ≠ k)
theorem putD_eq (kvs : List (Key × V)) (k : Key) (v : V) : putK kvs k v = putD kvs k v := by first | rfl | (unfold putK putD; rfl)
theorem vD_eq (kvs : List (Key × V)) (k : Key) : valV kvs k = vD kvs k := rfl
theorem dropD_eq (kvs : List (Key × V)) (k : Key) : dropK kvs k = dropD kvs k := rfl
section
variable {K : PySem.W.Frag} {Z : Addr → Prop} {e : Eta} {H : Hp}
theorem RepK.any : ∀ {vs : List (Key × V)} {ds : List (Key × D)}, RepK K Z e H vs ds → ∀ k : Key, (vs.any fun kv => decide (kv.1 = k)) = ds.any fun kv => decide (kv.1 = k)
  | _, _, .nil, _ => rfl
  | _, _, .cons (k := k0) _ r, k => by rw [List.any_cons, List.any_cons, RepK.any r k]
theorem RepK.repl {v : V} {d : D} (h : Rep K Z e H v d) (k : Key) : ∀ {vs : List (Key × V)} {ds : List (Key × D)}, RepK K Z e H vs ds → RepK K Z e H (vs.map fun kv => if kv.1 = k then (kv.1, v) else kv) (ds.map fun kv => if kv.1 = k then (kv.1, d) else kv)
  | _, _, .nil => .nil
  | _, _, .cons (k := k0) a r => by
    rw [List.map_cons, List.map_cons]
    by_cases hk : k0 = k
    · rw [if_pos hk, if_pos hk]; exact .cons h (RepK.repl h k r)
    · rw [if_neg hk, if_neg hk]; exact .cons a (RepK.repl h k r)
theorem RepK.snoc {v : V} {d : D} (h : Rep K Z e H v d) (k : Key) : ∀ {vs : List (Key × V)} {ds : List (Key × D)}, RepK K Z e H vs ds → RepK K Z e H (vs ++ [(k, v)]) (ds ++ [(k, d)])
  | _, _, .nil => .cons h .nil
  | _, _, .cons a r => .cons a (RepK.snoc h k r)
theorem RepK.put {v : V} {d : D} (h : Rep K Z e H v d) (k : Key) {vs : List (Key × V)} {ds : List (Key × D)} (r : RepK K Z e H vs ds) : RepK K Z e H (putD vs k v) (putD ds k d) := by
  unfold putD
  rw [r.any k]
  split
  · exact r.repl h k
  · exact r.snoc h k
theorem RepK.drop (k : Key) : ∀ {vs : List (Key × V)} {ds : List (Key × D)}, RepK K Z e H vs ds → RepK K Z e H (dropD vs k) (dropD ds k)
  | _, _, .nil => .nil
  | _, _, .cons (k := k0) a r => by
    unfold dropD
    rw [List.filter_cons, List.filter_cons]
    by_cases hk : k0 = k
    · rw [if_neg (by simp [hk]), if_neg (by simp [hk])]; exact RepK.drop k r
    · rw [if_pos (by simp [hk]), if_pos (by simp [hk])]; exact .cons a (RepK.drop k r)
theorem RepK.val : ∀ {vs : List (Key × V)} {ds : List (Key × D)}, RepK K Z e H vs ds → ∀ k : Key, (vD ds k = none ∧ vD vs k = none) ∨ ∃ v d, vD ds k = some d ∧ vD vs k = some v ∧ Rep K Z e H v d
  | _, _, .nil, _ => .inl ⟨rfl, rfl⟩
  | _, _, .cons (k := k0) (v := v0) (d := d0) a r, k => by
    by_cases hk : k0 = k
    · exact .inr ⟨v0, d0, by simp [vD, hk], by simp [vD, hk], a⟩
    · rcases RepK.val r k with ⟨h1, h2⟩ | ⟨v, d, h1, h2, h3⟩
      · exact .inl ⟨by simpa [vD, hk] using h1, by simpa [vD, hk] using h2⟩
      · exact .inr ⟨v, d, by simpa [vD, hk] using h1, by simpa [vD, hk] using h2, h3⟩
theorem RepK.length : ∀ {κ : Type} {vs : List (κ × V)} {ds : List (κ × D)}, RepK K Z e H vs ds → vs.length = ds.length
  | _, _, _, .nil => rfl
  | _, _, _, .cons _ r => congrArg Nat.succ (RepK.length r)
theorem RepK.keys : ∀ {κ : Type} {vs : List (κ × V)} {ds : List (κ × D)}, RepK K Z e H vs ds → vs.map (·.1) = ds.map (·.1)
  | _, _, _, .nil => rfl
  | _, _, _, .cons _ r => by rw [List.map_cons, List.map_cons, RepK.keys r]
theorem RepK.look {v : Str} : ∀ {vs : List (Str × V)} {ds : List (Str × D)}, RepK K Z e H vs ds → (ds.lookup v = none ∧ vs.lookup v = none) ∨ ∃ x d, ds.lookup v = some d ∧ vs.lookup v = some x ∧ Rep K Z e H x d
  | _, _, .nil => .inl ⟨rfl, rfl⟩
  | _, _, .cons (k := k0) (v := v0) (d := d0) a r => by
    rw [List.lookup_cons, List.lookup_cons]
    cases q : v == k0 with
    | true => exact .inr ⟨v0, d0, rfl, rfl, a⟩
    | false => exact RepK.look r
theorem lst_ref {e : Eta} {p : Addr} {ds : List D} (q : lstD e (.ref p) = some ds) : e p = some (.lst ds) := lstO_ex q
theorem lst_at (h : HRel K Z e H) {x : V} {d : D} {ds : List D} (r : Rep K Z e H x d) (q : lstD e d = some ds) : ∃ a vs, x = .ref a ∧ H a = some (.lst vs) ∧ RepL K Z e H vs ds := by
  cases r with
  | lst f r => cases q; exact ⟨_, _, rfl, f.2.2, r⟩
  | ref p =>
    obtain ⟨vs, h1, h2⟩ := h.cell _ _ (lst_ref q)
    exact ⟨_, _, rfl, h1, h2⟩
  | _ => cases q
theorem seq_at (h : HRel K Z e H) {x : V} {d : D} {ds : List D} (r : Rep K Z e H x d) (q : seqD e d = some ds) : ∃ a vs, x = .ref a ∧ (H a = some (.lst vs) ∨ H a = some (.tup vs)) ∧ RepL K Z e H vs ds := by
  cases r with
  | lst f r => cases q; exact ⟨_, _, rfl, .inl f.2.2, r⟩
  | tup f r => cases q; exact ⟨_, _, rfl, .inr f.2.2, r⟩
  | ref p =>
    obtain ⟨vs, h1, h2⟩ := h.cell _ _ (lst_ref q)
    exact ⟨_, _, rfl, .inl h1, h2⟩
  | _ => cases q
theorem keyD_at {y : V} {d : D} {k : Key} (r : Rep K Z e H y d) (q : keyD d = some k) : y = kV k := by
  cases r <;> cases q <;> rfl
end

/-! ### names, constants -/
@[simp] def dVar (i : Nat) (dl : Sd) (e : Eta) (Q : D → Eta → Prop) : Prop := match dl[i]? with
  | some (some d) => Q d e
  | _ => False
@[simp] def dC (d : D) (dl : Sd) (e : Eta) (Q : D → Eta → Prop) : Prop := Q d e
section
variable {X : Cy}
theorem d_var {i : Nat} {ex : Expr} (h : PE X ex (tVar i)) : DE X ex (dVar i) := pe_imp h (by
  rintro sg H Q ⟨Z, dl, e, Qd, s, t, k⟩
  unfold dVar at t
  split at t
  · rename_i d hd
    obtain ⟨v, hv, r⟩ := s.get i d hd
    exact ⟨v, hv, k v H d e .refl r s.rel t⟩
  · exact t.elim)
/-- the name that stands in the i-th slot -/
theorem dv (i : Nat) {x : Str} {pos : Pos} (hN : X.N[i]? = some x := by rfl) (hv : Vis X.env.scope x := by first | exact Or.inl rfl | exact Or.inr (Or.inl rfl) | exact Or.inr (Or.inr rfl)) (hd : (x == ("__debug__" : Str)) = false := by decide)
    (hcd : (x == ("__classdict__" : Str)) = false := by decide) : DE X (.Name x pos) (dVar i) := d_var (pe_var hN hv hd hcd)
theorem d_const {ex : Expr} {v : V} {d : D} (h : PE X ex (tC v)) (r : ∀ {K : PySem.W.Frag} {Z : Addr → Prop} {e : Eta} {H : Hp}, Rep K Z e H v d) : DE X ex (dC d) := pe_imp h (by
  rintro sg H Q ⟨Z, dl, e, Qd, s, t, k⟩
  exact k v H d e .refl r s.rel t)
theorem d_int {i j pos} : DE X (.Constant (.int i) j pos) (dC (.int i)) := d_const pe_int (.int i)
theorem d_str {i j pos} : DE X (.Constant (.str i) j pos) (dC (.str i)) := d_const pe_str (.str i)
theorem d_bl {i j pos} : DE X (.Constant (.bool i) j pos) (dC (.bl i)) := d_const pe_bl (.bl i)
theorem d_non {j pos} : DE X (.Constant .none j pos) (dC .non) := d_const pe_non .non

/-! ### two values -/
abbrev RD := D → D → Eta → (D → Eta → Prop) → Prop
def AdR (K : PySem.W.Frag) (r : R2) (R : RD) : Prop := ∀ (Z : Addr → Prop) (e : Eta) (H : Hp) (x y : V) (dx dy : D) (Qd : D → Eta → Prop) (Q : VK), HRel K Z e H → Rep K Z e H x dx → Rep K Z e H y dy → R dx dy e Qd →
  (∀ v H' d e', Ext e H e' H' → Rep K Z e' H' v d → HRel K Z e' H' → Qd d e' → Q v H') → r x y H Q
@[simp] def dOp (R : RD) (A B : TD) (dl : Sd) (e : Eta) (Q : D → Eta → Prop) : Prop := A dl e fun x e1 => B dl e1 fun y e2 => R x y e2 Q
variable {a b : Expr} {A B : TD} {r : R2} {R : RD} {pos : Pos}
theorem low_op (ad : AdR X.K r R) : ∀ sg H Q, low X.Y (dOp R A B) sg H Q → tOp r (low X.Y A) (low X.Y B) sg H Q := by
  rintro sg H Q ⟨Z, dl, e, Qd, s, t, k⟩
  exact low.use s t fun x H1 dx e1 x1 r1 h1 q1 => low.use (s.ext x1 h1) q1 fun y H2 dy e2 x2 r2 h2 q2 =>
    ad Z e2 H2 x y dx dy Qd Q h2 (r1.ext x2) r2 q2 fun v H' d e' x3 r3 h3 q => k v H' d e' (x1.trans (x2.trans x3)) r3 h3 q
theorem d_op {op : Operator} (ho : OpR X (binaryOp op) r) (ad : AdR X.K r R) (ha : DE X a A) (hb : DE X b B) : DE X (.BinOp a op b pos) (dOp R A B) := pe_imp (pe_op ho ha hb) (low_op ad)
theorem d_cmp {op : CmpOp} (ho : OpR X (compareOp op) r) (ad : AdR X.K r R) (ha : DE X a A) (hb : DE X b B) (hm : behindInMarks op b = false) : DE X (.Compare a [op] [b] pos) (dOp R A B) := pe_imp (pe_cmpR ho ha hb hm) (low_op ad)
/-- a value that is a truth, as a test -/
@[simp] def dTest (A : TD) (dl : Sd) (e : Eta) (Q : Bool → Eta → Prop) : Prop := A dl e fun x e1 => onB x fun b => Q b e1
theorem low_test {t : TE} (h : ∀ sg H Q, low X.Y A sg H Q → t sg H Q) : ∀ sg H Q, lowb X.Y (dTest A) sg H Q → tTest t sg H Q := by
  rintro sg H Q ⟨Z, dl, e, Qd, s, t, k⟩
  refine h _ _ _ (low.use s t fun v H' d e' x1 r1 h1 q1 => ?_)
  cases r1 with
  | bl b => exact ⟨b, rfl, k b H' e' x1 h1 q1⟩
  | _ => exact q1.elim
theorem dt_cmp {op : CmpOp} (ho : OpR X (compareOp op) r) (ad : AdR X.K r R) (ha : DE X a A) (hb : DE X b B) (hm : behindInMarks op b = false) : DT X (.Compare a [op] [b] pos) (dTest (dOp R A B)) := pt_imp (pt_cmpR ho ha hb hm) (low_test (low_op ad))
theorem OpR.any {f : Value → Value → Sem Value} {r r' : R2} (h : OpR X f r) (h' : OpR X f r') : OpR X f (fun x y H Q => r x y H Q ∨ r' x y H Q) := h.or h'

/-! ### arithmetic -/
def rInt (C : Int → Int → Prop) (g : Int → Int → D) : D → D → Eta → (D → Eta → Prop) → Prop
  | .int i, .int j, e, Q => C i j ∧ Q (g i j) e
  | _, _, _, _ => False
def rInt0 (g : Int → Int → D) : D → D → Eta → (D → Eta → Prop) → Prop
  | .int i, .int j, e, Q => Q (g i j) e
  | _, _, _, _ => False
theorem ad_int {K : PySem.W.Frag} {C : Int → Int → Prop} {gv : Int → Int → V} {g : Int → Int → D} (hg : ∀ i j {Z : Addr → Prop} {e : Eta} {H : Hp}, Rep K Z e H (gv i j) (g i j)) : AdR K (rI C gv) (rInt C g) := by
  intro Z e H x y dx dy Qd Q h rx ry q k
  cases rx with
  | int i =>
    cases ry with
    | int j => exact ⟨i, j, rfl, rfl, q.1, k _ H _ e .refl (hg i j) h q.2⟩
    | _ => exact q.elim
  | _ => exact q.elim
theorem ad_int0 {K : PySem.W.Frag} {gv : Int → Int → V} {g : Int → Int → D} (hg : ∀ i j {Z : Addr → Prop} {e : Eta} {H : Hp}, Rep K Z e H (gv i j) (g i j)) : AdR K (rI0 gv) (rInt0 g) := by
  intro Z e H x y dx dy Qd Q h rx ry q k
  cases rx with
  | int i =>
    cases ry with
    | int j => exact ⟨i, j, rfl, rfl, k _ H _ e .refl (hg i j) h q⟩
    | _ => exact q.elim
  | _ => exact q.elim
abbrev rSubD : RD := rInt0 fun i j => .int (i - j)
abbrev rDivD : RD := rInt CDivW fun i j => .int (i / j)
abbrev rModD : RD := rInt (fun _ j => 0 < j) fun i j => .int (i % j)
abbrev rPowD : RD := rInt CPow fun i j => .int (i ^ j.toNat)
theorem d_sub (ha : DE X a A) (hb : DE X b B) : DE X (.BinOp a .Sub b pos) (dOp rSubD A B) := d_op op_sub (ad_int0 fun i j => .int _) ha hb
theorem d_div (ha : DE X a A) (hb : DE X b B) : DE X (.BinOp a .FloorDiv b pos) (dOp rDivD A B) := d_op op_fdivW (ad_int fun i j => .int _) ha hb
theorem d_mod (ha : DE X a A) (hb : DE X b B) : DE X (.BinOp a .Mod b pos) (dOp rModD A B) := d_op op_mod (ad_int fun i j => .int _) ha hb
theorem d_pow (ha : DE X a A) (hb : DE X b B) : DE X (.BinOp a .Pow b pos) (dOp rPowD A B) := d_op op_pow (ad_int fun i j => .int _) ha hb
abbrev rLtD : RD := rInt0 fun i j => .bl (decide (i < j))
abbrev rLeD : RD := rInt0 fun i j => .bl (decide (i ≤ j))
abbrev rGtD : RD := rInt0 fun i j => .bl (decide (j < i))
abbrev rGeD : RD := rInt0 fun i j => .bl (decide (j ≤ i))
theorem ad_lt {K : PySem.W.Frag} : AdR K (rI0 fun i j => .bl (decide (i < j))) rLtD := ad_int0 fun i j => .bl _
theorem ad_le {K : PySem.W.Frag} : AdR K (rI0 fun i j => .bl (decide (i ≤ j))) rLeD := ad_int0 fun i j => .bl _
theorem ad_gt {K : PySem.W.Frag} : AdR K (rI0 fun i j => .bl (decide (j < i))) rGtD := ad_int0 fun i j => .bl _
theorem ad_ge {K : PySem.W.Frag} : AdR K (rI0 fun i j => .bl (decide (j ≤ i))) rGeD := ad_int0 fun i j => .bl _
theorem d_lt (ha : DE X a A) (hb : DE X b B) : DE X (.Compare a [.Lt] [b] pos) (dOp rLtD A B) := d_cmp op_lt ad_lt ha hb (nomark _)
theorem d_le (ha : DE X a A) (hb : DE X b B) : DE X (.Compare a [.LtE] [b] pos) (dOp rLeD A B) := d_cmp op_le ad_le ha hb (nomark _)
theorem d_gt (ha : DE X a A) (hb : DE X b B) : DE X (.Compare a [.Gt] [b] pos) (dOp rGtD A B) := d_cmp op_gt ad_gt ha hb (nomark _)
theorem d_ge (ha : DE X a A) (hb : DE X b B) : DE X (.Compare a [.GtE] [b] pos) (dOp rGeD A B) := d_cmp op_ge ad_ge ha hb (nomark _)
theorem dt_lt (ha : DE X a A) (hb : DE X b B) : DT X (.Compare a [.Lt] [b] pos) (dTest (dOp rLtD A B)) := dt_cmp op_lt ad_lt ha hb (nomark _)
theorem dt_le (ha : DE X a A) (hb : DE X b B) : DT X (.Compare a [.LtE] [b] pos) (dTest (dOp rLeD A B)) := dt_cmp op_le ad_le ha hb (nomark _)
theorem dt_gt (ha : DE X a A) (hb : DE X b B) : DT X (.Compare a [.Gt] [b] pos) (dTest (dOp rGtD A B)) := dt_cmp op_gt ad_gt ha hb (nomark _)
theorem dt_ge (ha : DE X a A) (hb : DE X b B) : DT X (.Compare a [.GtE] [b] pos) (dTest (dOp rGeD A B)) := dt_cmp op_ge ad_ge ha hb (nomark _)
/-- -a -/
@[simp] def dNeg (A : TD) (dl : Sd) (e : Eta) (Q : D → Eta → Prop) : Prop := A dl e fun x e1 => onI x fun i => Q (.int (-i)) e1
theorem d_neg (ha : DE X a A) : DE X (.UnaryOp .USub a pos) (dNeg A) := pe_imp (pe_un un_neg ha) (by
  rintro sg H Q ⟨Z, dl, e, Qd, s, t, k⟩
  refine low.use s t fun v H' d e' x1 r1 h1 q1 => ?_
  cases r1 with
  | int i => exact ⟨i, rfl, k _ H' _ e' x1 (.int _) h1 q1⟩
  | _ => exact q1.elim)
/-- a chain of two comparisons of ints -/
@[simp] def dChain (p p' : Int → Int → Bool) (A B C : TD) (dl : Sd) (e : Eta) (Q : D → Eta → Prop) : Prop := A dl e fun x e1 => B dl e1 fun y e2 => onI x fun i => onI y fun j => if p i j = true then C dl e2 fun z e3 => (onI z fun l => Q (.bl (p' j l)) e3) else Q (.bl false) e2
theorem low_chain {p p' : Int → Int → Bool} {C : TD} : ∀ sg H Q, low X.Y (dChain p p' A B C) sg H Q → tChain (rI0 fun i j => .bl (p i j)) (rI0 fun i j => .bl (p' i j)) (low X.Y A) (low X.Y B) (low X.Y C) sg H Q := by
  rintro sg H Q ⟨Z, dl, e, Qd, s, t, k⟩
  refine low.use s t fun x H1 dx e1 x1 r1 h1 q1 => low.use (s.ext x1 h1) q1 fun y H2 dy e2 x2 r2 h2 q2 => ?_
  have r1' := r1.ext x2
  cases r1' with
  | int i =>
    cases r2 with
    | int j =>
      refine ⟨i, j, rfl, rfl, p i j, rfl, ?_⟩
      have q3 : if p i j = true then C dl e2 fun z e3 => (onI z fun l => Qd (.bl (p' j l)) e3) else Qd (.bl false) e2 := q2
      cases hp : p i j with
      | true =>
        rw [hp, if_pos rfl] at q3
        rw [if_pos rfl]
        refine low.use (s.ext (x1.trans x2) h2) q3 fun z H3 dz e3 x3 r3 h3 q4 => ?_
        cases r3 with
        | int l => exact ⟨j, l, rfl, rfl, k _ H3 _ e3 (x1.trans (x2.trans x3)) (.bl _) h3 q4⟩
        | _ => exact q4.elim
      | false =>
        rw [hp, if_neg Bool.false_ne_true] at q3
        rw [if_neg Bool.false_ne_true]
        exact k _ H2 _ e2 (x1.trans x2) (.bl _) h2 q3
    | _ => exact q2.elim
  | _ => exact q2.elim
abbrev cLe : Int → Int → Bool := fun i j => decide (i ≤ j)
abbrev cLt : Int → Int → Bool := fun i j => decide (i < j)
theorem d_lele {c : Expr} {C : TD} (ha : DE X a A) (hb : DE X b B) (hc : DE X c C) (hm : lastMarks [.LtE, .LtE] [b, c] = false := by with_unfolding_all rfl) : DE X (.Compare a [.LtE, .LtE] [b, c] pos) (dChain cLe cLe A B C) := pe_imp (pe_chain op_le op_le ha hb hc hm) low_chain
theorem d_lelt {c : Expr} {C : TD} (ha : DE X a A) (hb : DE X b B) (hc : DE X c C) (hm : lastMarks [.LtE, .Lt] [b, c] = false := by with_unfolding_all rfl) : DE X (.Compare a [.LtE, .Lt] [b, c] pos) (dChain cLe cLt A B C) := pe_imp (pe_chain op_le op_lt ha hb hc hm) low_chain
theorem dt_lele {c : Expr} {C : TD} (ha : DE X a A) (hb : DE X b B) (hc : DE X c C) (hm : lastMarks [.LtE, .LtE] [b, c] = false := by with_unfolding_all rfl) : DT X (.Compare a [.LtE, .LtE] [b, c] pos) (dTest (dChain cLe cLe A B C)) := pt_imp (pt_chain op_le op_le ha hb hc hm) (low_test low_chain)
theorem dt_lelt {c : Expr} {C : TD} (ha : DE X a A) (hb : DE X b B) (hc : DE X c C) (hm : lastMarks [.LtE, .Lt] [b, c] = false := by with_unfolding_all rfl) : DT X (.Compare a [.LtE, .Lt] [b, c] pos) (dTest (dChain cLe cLt A B C)) := pt_imp (pt_chain op_le op_lt ha hb hc hm) (low_test low_chain)

/-! ### +, * of anything -/
def catQ (x y : D) (e : Eta) (Q : D → Eta → Prop) : Prop := onSome (lstD e x) fun i => onSome (lstD e y) fun j => i.length + j.length ≤ sizeLine ∧ Q (.lst (i ++ j)) e
@[simp] theorem catQ_l (i : List D) (y : D) (e : Eta) (Q : D → Eta → Prop) : catQ (.lst i) y e Q = onSome (lstD e y) fun j => i.length + j.length ≤ sizeLine ∧ Q (.lst (i ++ j)) e := rfl
@[simp] theorem catQ_r (p : Addr) (y : D) (e : Eta) (Q : D → Eta → Prop) : catQ (.ref p) y e Q = onSome (lstO (e p)) fun i => onSome (lstD e y) fun j => i.length + j.length ≤ sizeLine ∧ Q (.lst (i ++ j)) e := rfl
def rPlus : D → D → Eta → (D → Eta → Prop) → Prop
  | .int i, .int j, e, Q => Q (.int (i + j)) e
  | .str i, .str j, e, Q => i.length + j.length ≤ sizeLine ∧ Q (.str (i ++ j)) e
  | .tup i, .tup j, e, Q => i.length + j.length ≤ sizeLine ∧ Q (.tup (i ++ j)) e
  | .lst i, y, e, Q => catQ (.lst i) y e Q
  | .ref i, y, e, Q => catQ (.ref i) y e Q
  | _, _, _, _ => False
theorem Rep.new_lst {K : PySem.W.Frag} {Z : Addr → Prop} {e : Eta} {H : Hp} {p : Addr} {vs : List V} {ds : List D} (h : HRel K Z e H) (hp : H p = none) (r : RepL K Z e H vs ds) :
    Ext e H e (upd H p (.lst vs)) ∧ Rep K Z e (upd H p (.lst vs)) (.ref p) (.lst ds) ∧ HRel K Z e (upd H p (.lst vs)) := by
  obtain ⟨x, h'⟩ := h.junk (u := .lst vs) hp
  obtain ⟨f1, f2⟩ := h.free hp
  exact ⟨x, .lst ⟨f2, f1, upd_same⟩ (r.ext x), h'⟩
theorem Rep.new_tup {K : PySem.W.Frag} {Z : Addr → Prop} {e : Eta} {H : Hp} {p : Addr} {vs : List V} {ds : List D} (h : HRel K Z e H) (hp : H p = none) (r : RepL K Z e H vs ds) :
    Ext e H e (upd H p (.tup vs)) ∧ Rep K Z e (upd H p (.tup vs)) (.ref p) (.tup ds) ∧ HRel K Z e (upd H p (.tup vs)) := by
  obtain ⟨x, h'⟩ := h.junk (u := .tup vs) hp
  obtain ⟨f1, f2⟩ := h.free hp
  exact ⟨x, .tup ⟨f2, f1, upd_same⟩ (r.ext x), h'⟩
/-- a new cell that holds a list -/
theorem Rep.new_cell {K : PySem.W.Frag} {Z : Addr → Prop} {e : Eta} {H : Hp} {p : Addr} {vs : List V} {ds : List D} (h : HRel K Z e H) (hp : H p = none) (r : RepL K Z e H vs ds) :
    Ext e H (e.put p (.lst ds)) (upd H p (.lst vs)) ∧ HRel K Z (e.put p (.lst ds)) (upd H p (.lst vs)) :=
  h.newc hp fun x _ => ⟨vs, upd_same, r.ext x⟩
theorem Rep.set_cell {K : PySem.W.Frag} {Z : Addr → Prop} {e : Eta} {H : Hp} {p : Addr} {vs : List V} {ds : List D} {o : O} (h : HRel K Z e H) (hp : e p = some o) (r : RepL K Z e H vs ds) :
    Ext e H (e.put p (.lst ds)) (upd H p (.lst vs)) ∧ HRel K Z (e.put p (.lst ds)) (upd H p (.lst vs)) :=
  h.write hp fun x => ⟨vs, upd_same, r.ext x⟩
theorem Rep.set_dic {K : PySem.W.Frag} {Z : Addr → Prop} {e : Eta} {H : Hp} {p : Addr} {vs : List (Key × V)} {ds : List (Key × D)} {o : O} (h : HRel K Z e H) (hp : e p = some o) (r : RepK K Z e H vs ds) :
    Ext e H (e.put p (.dic ds)) (upd H p (.dK vs)) ∧ HRel K Z (e.put p (.dic ds)) (upd H p (.dK vs)) :=
  h.write hp fun x => ⟨vs, upd_same, r.ext x⟩
theorem RepL.nil_iff {K : PySem.W.Frag} {Z : Addr → Prop} {e : Eta} {H : Hp} {vs : List V} {ds : List D} (r : RepL K Z e H vs ds) : vs = [] ↔ ds = [] := by
  cases r <;> simp
abbrev vPlus (K : PySem.W.Frag) : R2 := fun x y H Q => rI0 (fun i j => .int (i + j)) x y H Q ∨ (∃ i j, x = .str i ∧ y = .str j ∧ i.length + j.length ≤ sizeLine ∧ Q (.str (i ++ j)) H) ∨ rCatA K x y H Q ∨ rCat x y H Q
theorem op_plus : OpR X (binaryOp .Add) (vPlus X.K) := op_add.or (op_add_str.or (op_catA.or op_cat))
theorem ad_cat {K : PySem.W.Frag} {Z : Addr → Prop} {e : Eta} {H : Hp} {x y : V} {dx dy : D} {Qd : D → Eta → Prop} {Q : VK} (h : HRel K Z e H) (rx : Rep K Z e H x dx) (ry : Rep K Z e H y dy) (q : catQ dx dy e Qd)
    (k : ∀ v H' d e', Ext e H e' H' → Rep K Z e' H' v d → HRel K Z e' H' → Qd d e' → Q v H') : rCat x y H Q := by
  obtain ⟨i, h1, q⟩ := onSome_ex q
  obtain ⟨j, h2, q⟩ := onSome_ex q
  obtain ⟨a1, v1, rfl, g1, l1⟩ := lst_at h rx h1
  obtain ⟨a2, v2, rfl, g2, l2⟩ := lst_at h ry h2
  refine ⟨a1, a2, v1, v2, rfl, rfl, g1, g2, by rw [l1.length, l2.length]; exact q.1, fun p hp => ?_⟩
  obtain ⟨x1, x2, x3⟩ := Rep.new_lst h hp (l1.append l2)
  exact k _ _ _ e x1 x2 x3 q.2
theorem ad_plus {K : PySem.W.Frag} : AdR K (vPlus K) rPlus := by
  intro Z e H x y dx dy Qd Q h rx ry q k
  cases rx with
  | int i =>
    cases ry with
    | int j => exact .inl ⟨i, j, rfl, rfl, k _ H _ e .refl (.int _) h q⟩
    | _ => exact q.elim
  | str i =>
    cases ry with
    | str j => exact .inr (.inl ⟨i, j, rfl, rfl, q.1, k _ H _ e .refl (.str _) h q.2⟩)
    | _ => exact q.elim
  | tup f r =>
    cases ry with
    | tup f2 r2 =>
      refine .inr (.inr (.inl ⟨_, _, _, _, rfl, rfl, SqT.of f.2.2, SqT.of f2.2.2, by rw [r.length, r2.length]; exact q.1, fun e0 => ?_, fun e1 e2 => ?_, fun e1 e2 p hp => ?_⟩))
      · rw [r.nil_iff.mp e0] at q
        have q : _ ∧ Qd (.tup ([] ++ _)) e := q
        rw [List.nil_append] at q
        exact k _ H _ e .refl (.tup f2 r2) h q.2
      · rw [r2.nil_iff.mp e2] at q
        have q : _ ∧ Qd (.tup (_ ++ [])) e := q
        rw [List.append_nil] at q
        exact k _ H _ e .refl (.tup f r) h q.2
      · obtain ⟨x1, x2, x3⟩ := Rep.new_tup h hp (r.append r2)
        exact k _ _ _ e x1 x2 x3 q.2
    | _ => exact q.elim
  | ref a => exact .inr (.inr (.inr (ad_cat h (.ref a) ry q k)))
  | lst f r => exact .inr (.inr (.inr (ad_cat h (.lst f r) ry q k)))
  | non => exact (show False by cases dy <;> exact q).elim
  | bl b => exact (show False by cases dy <;> exact q).elim
  | scr f => exact (show False by cases dy <;> exact q).elim
  | dic _ _ _ => exact (show False by cases dy <;> exact q).elim
  | obj _ _ _ => exact (show False by cases dy <;> exact q).elim
  | exc _ _ _ => exact (show False by cases dy <;> exact q).elim
theorem d_add (ha : DE X a A) (hb : DE X b B) : DE X (.BinOp a .Add b pos) (dOp rPlus A B) := d_op op_plus ad_plus ha hb
/-- list * j; c: the new list a cell? -/
def repQ (c : Bool) (x : D) (j : Int) (e : Eta) (Q : D → Eta → Prop) : Prop := onSome (lstD e x) fun ds => (-(2 ^ 63) ≤ j ∧ j < 2 ^ 63 ∧ ds.length * j.toNat ≤ sizeLine) ∧ if c = true then ∀ p, e p = none → Q (.ref p) (e.put p (.lst (List.replicate j.toNat ds).flatten)) else Q (.lst (List.replicate j.toNat ds).flatten) e
@[simp] theorem repQ_l (c : Bool) (ds : List D) (j : Int) (e : Eta) (Q : D → Eta → Prop) : repQ c (.lst ds) j e Q = ((-(2 ^ 63) ≤ j ∧ j < 2 ^ 63 ∧ ds.length * j.toNat ≤ sizeLine) ∧ if c = true then ∀ p, e p = none → Q (.ref p) (e.put p (.lst (List.replicate j.toNat ds).flatten)) else Q (.lst (List.replicate j.toNat ds).flatten) e) := rfl
def rMul (c : Bool) : D → D → Eta → (D → Eta → Prop) → Prop
  | .int i, .int j, e, Q => CMulW i j ∧ Q (.int (i * j)) e
  | .lst ds, .int j, e, Q => repQ c (.lst ds) j e Q
  | .ref ds, .int j, e, Q => repQ c (.ref ds) j e Q
  | _, _, _, _ => False
abbrev vMul : R2 := fun x y H Q => rI CMulW (fun i j => .int (i * j)) x y H Q ∨ rRep x y H Q
theorem op_mulA : OpR X (binaryOp .Mult) vMul := op_mulW.or op_rep
theorem ad_rep {K : PySem.W.Frag} {c : Bool} {Z : Addr → Prop} {e : Eta} {H : Hp} {x : V} {j : Int} {dx : D} {Qd : D → Eta → Prop} {Q : VK} (h : HRel K Z e H) (rx : Rep K Z e H x dx) (q : repQ c dx j e Qd)
    (k : ∀ v H' d e', Ext e H e' H' → Rep K Z e' H' v d → HRel K Z e' H' → Qd d e' → Q v H') : rRep x (.int j) H Q := by
  obtain ⟨ds, h1, q⟩ := onSome_ex q
  obtain ⟨a1, v1, rfl, g1, l1⟩ := lst_at h rx h1
  refine ⟨a1, j, v1, rfl, rfl, g1, q.1.1, q.1.2.1, by rw [l1.length]; exact q.1.2.2, fun p hp => ?_⟩
  cases c with
  | true =>
    obtain ⟨x1, x2⟩ := Rep.new_cell h hp (l1.rep j.toNat)
    exact k _ _ _ _ x1 (.ref p) x2 (by have q2 := q.2; rw [if_pos rfl] at q2; exact q2 p (h.free hp).1)
  | false =>
    obtain ⟨x1, x2, x3⟩ := Rep.new_lst h hp (l1.rep j.toNat)
    exact k _ _ _ e x1 x2 x3 (by have q2 := q.2; rw [if_neg Bool.false_ne_true] at q2; exact q2)
theorem ad_mul {K : PySem.W.Frag} {c : Bool} : AdR K vMul (rMul c) := by
  intro Z e H x y dx dy Qd Q h rx ry q k
  cases ry with
  | int j =>
    cases rx with
    | int i => exact .inl ⟨i, j, rfl, rfl, q.1, k _ H _ e .refl (.int _) h q.2⟩
    | ref a => exact .inr (ad_rep (c := c) h (.ref a) q k)
    | lst f r => exact .inr (ad_rep (c := c) h (.lst f r) q k)
    | _ => exact q.elim
  | _ => cases rx <;> exact q.elim
theorem d_mul (ha : DE X a A) (hb : DE X b B) : DE X (.BinOp a .Mult b pos) (dOp (rMul false) A B) := d_op op_mulA ad_mul ha hb
theorem d_mulC (ha : DE X a A) (hb : DE X b B) : DE X (.BinOp a .Mult b pos) (dOp (rMul true) A B) := d_op op_mulA ad_mul ha hb
end
end FL

set_option Elab.async false
set_option linter.all false
set_option maxRecDepth 100000
set_option maxHeartbeats 4000000
/-! The layer's expressions: equality, membership, subscripts, tests. -/
namespace FL
open PySem PySem.Spec PyProof.Rows L2

/-! ### trees as data -/
mutual
def pyD : D → PyData
  | .non => .none
  | .bl b => .bool b
  | .int i => .int i
  | .str x => .str x
  | .tup ds => .tuple (pyDs ds)
  | .lst ds => .list (pyDs ds)
  | .ref _ => .none
  | .scr _ => .none
  | .dic _ => .none
  | .obj _ _ => .none
  | .exc _ _ => .none
def pyDs : List D → List PyData
  | [] => []
  | d :: ds => pyD d :: pyDs ds
end
mutual
def nrD : D → Bool
  | .ref _ => false
  | .scr _ => false
  | .dic _ => false
  | .obj _ _ => false
  | .exc _ _ => false
  | .tup ds => nrDs ds
  | .lst ds => nrDs ds
  | _ => true
def nrDs : List D → Bool
  | [] => true
  | d :: ds => nrD d && nrDs ds
end
theorem pyDs_map : ∀ ds : List D, pyDs ds = ds.map pyD
  | [] => rfl
  | d :: ds => by rw [pyDs, pyDs_map ds]; rfl
theorem nrDs_all : ∀ ds : List D, nrDs ds = ds.all nrD
  | [] => rfl
  | d :: ds => by rw [nrDs, nrDs_all ds]; rfl
/-- a list's cell is looked into -/
def resO (p : Addr) : Option O → D
  | some (.lst ds) => .lst ds
  | _ => .ref p
def resD (e : Eta) : D → D
  | .ref p => resO p (e p)
  | d => d
def okD (d : D) : Bool := nrD d && SeqAt.shaped (pyD d)
def eqD (a b : D) : Bool := PyData.eqv (pyD a) (pyD b)
section
variable {K : PySem.W.Frag} {Z : Addr → Prop} {e : Eta} {H : Hp}
mutual
theorem dp_of : ∀ (d : D) (v : V), Rep K Z e H v d → nrD d = true → Dp K H v (pyD d)
  | .non, _, r, _ => by cases r; exact .non
  | .bl b, _, r, _ => by cases r; exact .bl b
  | .int i, _, r, _ => by cases r; exact .int i
  | .str x, _, r, _ => by cases r; exact .str x
  | .tup ds, _, r, h => by
    cases r with
    | tup f r => exact .tup (SqT.of f.2.2) (dps_of ds _ r h)
  | .lst ds, _, r, h => by
    cases r with
    | lst f r => exact .lst (SqL.of f.2.2) (dps_of ds _ r h)
  | .ref _, _, _, h => by cases h
  | .scr _, _, _, h => by cases h
  | .dic _, _, _, h => by cases h
  | .obj _ _, _, _, h => by cases h
  | .exc _ _, _, _, h => by cases h
theorem dps_of : ∀ (ds : List D) (vs : List V), RepL K Z e H vs ds → nrDs ds = true → DpAll K H vs (pyDs ds)
  | [], _, r, _ => by cases r; exact .nil
  | d :: ds, _, r, h => by
    cases r with
    | cons a r =>
      have h : (nrD d && nrDs ds) = true := h
      obtain ⟨h1, h2⟩ := Bool.and_eq_true_iff.mp h
      exact .cons (dp_of d _ a h1) (dps_of ds _ r h2)
end
theorem resD_ref {p : Addr} : (∃ ds, e p = some (.lst ds) ∧ resD e (.ref p) = .lst ds) ∨ resD e (.ref p) = .ref p := by
  cases q : e p with
  | none => right; show resO p (e p) = _; rw [q]; rfl
  | some o =>
    cases o with
    | lst ds => left; exact ⟨ds, rfl, by show resO p (e p) = _; rw [q]; rfl⟩
    | _ => right; show resO p (e p) = _; rw [q]; rfl
theorem dp_res (h : HRel K Z e H) {v : V} {d : D} (r : Rep K Z e H v d) (n : nrD (resD e d) = true) : Dp K H v (pyD (resD e d)) := by
  cases r with
  | ref p =>
    rcases resD_ref (e := e) (p := p) with ⟨ds, h1, h2⟩ | h2
    · rw [h2] at n ⊢
      obtain ⟨vs, g1, g2⟩ := h.cell _ _ h1
      exact .lst (SqL.of g1) (dps_of ds vs g2 n)
    · rw [h2] at n; cases n
  | non => exact .non
  | bl b => exact .bl b
  | int b => exact .int b
  | str b => exact .str b
  | tup f r => exact dp_of _ _ (.tup f r) n
  | lst f r => exact dp_of _ _ (.lst f r) n
  | scr f => cases n
  | dic _ _ _ => cases n
  | obj _ _ _ => cases n
  | exc _ _ _ => cases n
end
def rEq2 (n : Bool) : RD := fun x y e Q => (okD (resD e x) = true ∧ okD (resD e y) = true) ∧ Q (.bl (if n = true then !eqD (resD e x) (resD e y) else eqD (resD e x) (resD e y))) e
section
variable {X : Cy} {a b : Expr} {A B : TD} {r : R2} {R : RD} {pos : Pos}
theorem ad_eq {K : PySem.W.Frag} : AdR K (rEqD K) (rEq2 false) := by
  intro Z e H x y dx dy Qd Q h rx ry q k
  obtain ⟨⟨h1, h2⟩, q⟩ := q
  obtain ⟨n1, s1⟩ := Bool.and_eq_true_iff.mp h1
  obtain ⟨n2, s2⟩ := Bool.and_eq_true_iff.mp h2
  exact ⟨_, _, dp_res h rx n1, dp_res h ry n2, s1, s2, k _ H _ e .refl (.bl _) h q⟩
theorem ad_ne {K : PySem.W.Frag} : AdR K (rNeD K) (rEq2 true) := by
  intro Z e H x y dx dy Qd Q h rx ry q k
  obtain ⟨⟨h1, h2⟩, q⟩ := q
  obtain ⟨n1, s1⟩ := Bool.and_eq_true_iff.mp h1
  obtain ⟨n2, s2⟩ := Bool.and_eq_true_iff.mp h2
  exact ⟨_, _, dp_res h rx n1, dp_res h ry n2, s1, s2, k _ H _ e .refl (.bl _) h q⟩
theorem d_eq (hu : X.A.units + 64 < cLine) (ha : DE X a A) (hb : DE X b B) : DE X (.Compare a [.Eq] [b] pos) (dOp (rEq2 false) A B) := d_cmp (op_eqD hu) ad_eq ha hb (nomark _)
theorem d_ne (hu : X.A.units + 64 < cLine) (ha : DE X a A) (hb : DE X b B) : DE X (.Compare a [.NotEq] [b] pos) (dOp (rEq2 true) A B) := d_cmp (op_neD hu) ad_ne ha hb (nomark _)
theorem dt_eq (hu : X.A.units + 64 < cLine) (ha : DE X a A) (hb : DE X b B) : DT X (.Compare a [.Eq] [b] pos) (dTest (dOp (rEq2 false) A B)) := dt_cmp (op_eqD hu) ad_eq ha hb (nomark _)
theorem dt_ne (hu : X.A.units + 64 < cLine) (ha : DE X a A) (hb : DE X b B) : DT X (.Compare a [.NotEq] [b] pos) (dTest (dOp (rEq2 true) A B)) := dt_cmp (op_neD hu) ad_ne ha hb (nomark _)
/-! ### is None -/
def noneD : D → Bool
  | .non => true
  | _ => false
def rIsN (n : Bool) : D → D → Eta → (D → Eta → Prop) → Prop
  | x, .non, e, Q => Q (.bl (if n = true then !noneD x else noneD x)) e
  | _, _, _, _ => False
theorem noneD_eq {K : PySem.W.Frag} {Z : Addr → Prop} {e : Eta} {H : Hp} {x : V} {d : D} (r : Rep K Z e H x d) : decide (x = V.non) = noneD d := by
  cases r <;> rfl
theorem ad_isN {K : PySem.W.Frag} : AdR K (fun x y H Q => y = .non ∧ Q (.bl (decide (x = .non))) H) (rIsN false) := by
  intro Z e H x y dx dy Qd Q h rx ry q k
  cases ry with
  | non => exact ⟨rfl, by rw [noneD_eq rx]; exact k _ H _ e .refl (.bl _) h q⟩
  | _ => exact q.elim
theorem ad_notN {K : PySem.W.Frag} : AdR K (fun x y H Q => y = .non ∧ Q (.bl (!decide (x = .non))) H) (rIsN true) := by
  intro Z e H x y dx dy Qd Q h rx ry q k
  cases ry with
  | non => exact ⟨rfl, by rw [noneD_eq rx]; exact k _ H _ e .refl (.bl _) h q⟩
  | _ => exact q.elim
theorem d_isN (ha : DE X a A) (hb : DE X b B) : DE X (.Compare a [.Is] [b] pos) (dOp (rIsN false) A B) := d_cmp op_isN ad_isN ha hb (nomark _)
theorem d_notN (ha : DE X a A) (hb : DE X b B) : DE X (.Compare a [.IsNot] [b] pos) (dOp (rIsN true) A B) := d_cmp op_notN ad_notN ha hb (nomark _)
theorem dt_isN (ha : DE X a A) (hb : DE X b B) : DT X (.Compare a [.Is] [b] pos) (dTest (dOp (rIsN false) A B)) := dt_cmp op_isN ad_isN ha hb (nomark _)
theorem dt_notN (ha : DE X a A) (hb : DE X b B) : DT X (.Compare a [.IsNot] [b] pos) (dTest (dOp (rIsN true) A B)) := dt_cmp op_notN ad_notN ha hb (nomark _)
/-! ### in -/
def flatD : D → Bool
  | .non => true
  | .bl _ => true
  | .int _ => true
  | .str _ => true
  | _ => false
def toV : D → V
  | .non => .non
  | .bl b => .bl b
  | .int i => .int i
  | .str x => .str x
  | _ => .non
def inD (x : D) (ds : List D) : Bool := ds.any fun y => eqV (toV y) (toV x)
theorem flat_at {K : PySem.W.Frag} {Z : Addr → Prop} {e : Eta} {H : Hp} {x : V} {d : D} (r : Rep K Z e H x d) (f : flatD d = true) : x = toV d ∧ flatV x = true := by
  cases r <;> first | exact ⟨rfl, rfl⟩ | cases f
theorem flats_at {K : PySem.W.Frag} {Z : Addr → Prop} {e : Eta} {H : Hp} : ∀ {vs : List V} {ds : List D}, RepL K Z e H vs ds → ds.all flatD = true → vs = ds.map toV ∧ vs.all flatV = true
  | _, _, .nil, _ => ⟨rfl, rfl⟩
  | _, _, .cons (d := d) a r, h => by
    rw [List.all_cons] at h
    obtain ⟨h1, h2⟩ := Bool.and_eq_true_iff.mp h
    obtain ⟨e1, f1⟩ := flat_at a h1
    obtain ⟨e2, f2⟩ := flats_at r h2
    refine ⟨by rw [List.map_cons, e1, e2], ?_⟩
    rw [List.all_cons, f1, f2]; rfl
theorem inV_eq (x : D) (ds : List D) : inV (toV x) (ds.map toV) = inD x ds := by
  unfold inV inD
  rw [List.any_map]; rfl
def inC (n : Bool) (x : D) (e : Eta) (Q : D → Eta → Prop) : Option O → Prop
  | some (.lst ds) => (flatD x = true ∧ ds.all flatD = true) ∧ Q (.bl (if n = true then !inD x ds else inD x ds)) e
  | some (.dic kvs) => onSome (keyD x) fun k => Q (.bl (if n = true then !(vD kvs k).isSome else (vD kvs k).isSome)) e
  | some (.lck _ _ kvs) => onSome (keyD x) fun k => Q (.bl (if n = true then !(vD kvs k).isSome else (vD kvs k).isSome)) e
  | _ => False
def strIn (n : Bool) (j : Str) (e : Eta) (Q : D → Eta → Prop) : D → Prop
  | .str i => Q (.bl (if n = true then !(!(Builtin.Str.occurrences j i 0 j.length 1).isEmpty) else !(Builtin.Str.occurrences j i 0 j.length 1).isEmpty)) e
  | _ => False
def inY (n : Bool) (x : D) (e : Eta) (Q : D → Eta → Prop) : D → Prop
  | .str j => strIn n j e Q x
  | .ref p => inC n x e Q (e p)
  | .dic kvs => onSome (keyD x) fun k => Q (.bl (if n = true then !(vD kvs k).isSome else (vD kvs k).isSome)) e
  | .lst ds => (flatD x = true ∧ ds.all flatD = true) ∧ Q (.bl (if n = true then !inD x ds else inD x ds)) e
  | .tup ds => (flatD x = true ∧ ds.all flatD = true) ∧ Q (.bl (if n = true then !inD x ds else inD x ds)) e
  | _ => False
@[simp] def rInA (n : Bool) (x y : D) (e : Eta) (Q : D → Eta → Prop) : Prop := inY n x e Q y
def rDIn (n : Bool) : R2 := fun y x H Q => ∃ a o, x = .ref a ∧ DGet H a y o ∧ Q (.bl (if n = true then !o.isSome else o.isSome)) H
theorem op_din (hu : X.A.units + 1 < cLine) : OpR X (compareOp .In) (rDIn false) := by
  intro pins s sg H x y v u Q I rx ry h
  obtain ⟨a, o, rfl, g, q⟩ := h
  cases ry
  exact d_in hu I g rx fun s3 I3 => ⟨.bl o.isSome, H, I3, rfl, q⟩
theorem op_dnin (hu : X.A.units + 1 < cLine) : OpR X (compareOp .NotIn) (rDIn true) := by
  intro pins s sg H x y v u Q I rx ry h
  obtain ⟨a, o, rfl, g, q⟩ := h
  cases ry
  exact d_notIn hu I g rx fun s3 I3 => ⟨.bl (!o.isSome), H, I3, rfl, q⟩
def rStrIn (n : Bool) : R2 := fun x y H Q => ∃ i j, x = .str i ∧ y = .str j ∧ Q (.bl (if n = true then !(!(Builtin.Str.occurrences j i 0 j.length 1).isEmpty) else !(Builtin.Str.occurrences j i 0 j.length 1).isEmpty)) H
abbrev vIn (K : PySem.W.Frag) (n : Bool) : R2 := fun x y H Q => rIn K n x y H Q ∨ rDIn n x y H Q ∨ rStrIn n x y H Q
theorem op_inA (hu : X.A.units + 1 < cLine) : OpR X (compareOp .In) (vIn X.K false) := op_in_seq.or ((op_din hu).or (by
  intro pins s sg H x y v u Q I rx ry h
  obtain ⟨i, j, h1, h2, q⟩ := h
  exact op_in_str pins s sg H x y v u Q I rx ry ⟨i, j, h1, h2, q⟩))
theorem op_ninA (hu : X.A.units + 1 < cLine) : OpR X (compareOp .NotIn) (vIn X.K true) := op_notIn_seq.or ((op_dnin hu).or (by
  intro pins s sg H x y v u Q I rx ry h
  obtain ⟨i, j, h1, h2, q⟩ := h
  exact op_notIn_str pins s sg H x y v u Q I rx ry ⟨i, j, h1, h2, q⟩))
theorem ad_in {K : PySem.W.Frag} {n : Bool} : AdR K (vIn K n) (rInA n) := by
  intro Z e H x y dx dy Qd Q h rx ry q k
  have seqc : ∀ {p : Addr} {vs : List V} {ds : List D}, y = .ref p → (SqL K H p vs ∨ SqT K H p vs) → RepL K Z e H vs ds → (flatD dx = true ∧ ds.all flatD = true) ∧ Qd (.bl (if n = true then !inD dx ds else inD dx ds)) e → vIn K n x y H Q := by
    intro p vs ds ey hs r q
    obtain ⟨e1, f1⟩ := flat_at rx q.1.1
    obtain ⟨e2, f2⟩ := flats_at r q.1.2
    refine .inl ⟨p, vs, ey, hs, f1, f2, ?_⟩
    rw [e1, e2, inV_eq]
    exact k _ H _ e .refl (.bl _) h q.2
  cases ry with
  | str j =>
    cases rx with
    | str i => exact .inr (.inr ⟨i, j, rfl, rfl, k _ H _ e .refl (.bl _) h q⟩)
    | _ => exact q.elim
  | lst f r => exact seqc rfl (.inl (SqL.of f.2.2)) r q
  | tup f r => exact seqc rfl (.inr (SqT.of f.2.2)) r q
  | @dic _ vs kvs f nn r =>
    obtain ⟨kk, hk, q2⟩ := onSome_ex q
    refine .inr (.inl ⟨_, valV vs kk, rfl, ?_, ?_⟩)
    · rw [keyD_at rx hk]; exact DGet.k f.2.2
    · have es : (valV vs kk).isSome = (vD kvs kk).isSome := by
        rw [vD_eq]
        rcases (RepK.of nn r).val kk with ⟨z1, z2⟩ | ⟨v, d, z1, z2, _⟩
        · rw [z1, z2]; rfl
        · rw [z1, z2]; rfl
      rw [es]
      exact k _ H _ e .refl (.bl _) h q2
  | ref p =>
    have q' : inC n dx e Qd (e p) := q
    cases hp : e p with
    | none => rw [hp] at q'; exact q'.elim
    | some o =>
      rw [hp] at q'
      cases o with
      | lst ds =>
        obtain ⟨vs, g1, g2⟩ := h.cell _ _ hp
        exact seqc rfl (.inl (SqL.of g1)) g2 q'
      | dic kvs =>
        obtain ⟨vs, g1, g2⟩ := h.cell _ _ hp
        · obtain ⟨kk, hk, q2⟩ := onSome_ex q'
          refine .inr (.inl ⟨p, valV vs kk, rfl, ?_, ?_⟩)
          · rw [keyD_at rx hk]; exact DGet.k g1
          · have es : (valV vs kk).isSome = (vD kvs kk).isSome := by
              rw [vD_eq]
              rcases g2.val kk with ⟨z1, z2⟩ | ⟨v, d, z1, z2, _⟩
              · rw [z1, z2]; rfl
              · rw [z1, z2]; rfl
            rw [es]
            exact k _ H _ e .refl (.bl _) h q2
      | ins C fs => exact q'.elim
      | lck od vs kvs =>
        obtain ⟨g1, g2⟩ := h.cell _ _ hp
        obtain ⟨kk, hk, q2⟩ := onSome_ex q'
        refine .inr (.inl ⟨p, valV vs kk, rfl, ?_, ?_⟩)
        · rw [keyD_at rx hk]; exact .inl ⟨vs, kk, .inr ⟨od, g1⟩, rfl, rfl⟩
        · have es : (valV vs kk).isSome = (vD kvs kk).isSome := by
            rw [vD_eq]
            rcases g2.val kk with ⟨z1, z2⟩ | ⟨v, d, z1, z2, _⟩
            · rw [z1, z2]; rfl
            · rw [z1, z2]; rfl
          rw [es]
          exact k _ H _ e .refl (.bl _) h q2
      | dT _ => exact q'.elim
  | _ => exact q.elim
theorem d_in' (hu : X.A.units + 64 < cLine) (ha : DE X a A) (hb : DE X b B) (hm : behindInMarks .In b = false := by rfl) : DE X (.Compare a [.In] [b] pos) (dOp (rInA false) A B) := d_cmp (op_inA (Nat.lt_of_le_of_lt (Nat.add_le_add_left (by decide) _) hu)) ad_in ha hb hm
theorem d_nin (hu : X.A.units + 64 < cLine) (ha : DE X a A) (hb : DE X b B) (hm : behindInMarks .NotIn b = false := by rfl) : DE X (.Compare a [.NotIn] [b] pos) (dOp (rInA true) A B) := d_cmp (op_ninA (Nat.lt_of_le_of_lt (Nat.add_le_add_left (by decide) _) hu)) ad_in ha hb hm
theorem dt_in (hu : X.A.units + 64 < cLine) (ha : DE X a A) (hb : DE X b B) (hm : behindInMarks .In b = false := by rfl) : DT X (.Compare a [.In] [b] pos) (dTest (dOp (rInA false) A B)) := dt_cmp (op_inA (Nat.lt_of_le_of_lt (Nat.add_le_add_left (by decide) _) hu)) ad_in ha hb hm
theorem dt_nin (hu : X.A.units + 64 < cLine) (ha : DE X a A) (hb : DE X b B) (hm : behindInMarks .NotIn b = false := by rfl) : DT X (.Compare a [.NotIn] [b] pos) (dTest (dOp (rInA true) A B)) := dt_cmp (op_ninA (Nat.lt_of_le_of_lt (Nat.add_le_add_left (by decide) _) hu)) ad_in ha hb hm

/-! ### subscripts -/
def atD (ds : List D) : D → Option D
  | .int i => atI ds i
  | _ => none
def idxC : Option O → D → Option D
  | some (.lst ds), y => atD ds y
  | some (.dic kvs), y => (keyD y).bind fun k => vD kvs k
  | some (.lck _ _ kvs), y => (keyD y).bind fun k => vD kvs k
  | _, _ => none
def idxD (e : Eta) : D → D → Option D
  | .str z, .int i => if z.length ≤ sizeLine then (atI z.cps.toList i).map fun c => .str ⟨#[c]⟩ else none
  | .lst ds, y => atD ds y
  | .tup ds, y => atD ds y
  | .ref p, y => idxC (e p) y
  | .dic kvs, y => (keyD y).bind fun k => vD kvs k
  | _, _ => none
theorem idxD_ref (e : Eta) (p : Addr) (y : D) : idxD e (.ref p) y = idxC (e p) y := by cases y <;> rfl
@[simp] def rIdx (x y : D) (e : Eta) (Q : D → Eta → Prop) : Prop := onSome (idxD e x y) fun d => Q d e
theorem RepL.atI {K : PySem.W.Frag} {Z : Addr → Prop} {e : Eta} {H : Hp} {vs : List V} {ds : List D} {i : Int} {d : D} (r : RepL K Z e H vs ds) (h : L2.atI ds i = some d) : ∃ v, L2.atI vs i = some v ∧ Rep K Z e H v d := by
  unfold L2.atI at h ⊢
  rw [r.length]
  cases q : ixN ds.length i with
  | none => rw [q] at h; cases h
  | some j =>
    rw [q] at h
    exact r.get h
def rDIx : R2 := fun x y H Q => ∃ a v, x = .ref a ∧ DGet H a y (some v) ∧ Q v H
theorem ix_dic (hu : X.A.units + 1 < cLine) : IxR X rDIx := by
  intro value slice pins s sg H x y v u Q I rx ry h hs
  obtain ⟨a, w, rfl, g, q⟩ := h
  cases rx
  exact tail_any (dict_typeIs I g) PySem.F.slot_dict_getitem.lookup (d_getItem hu I g ry fun w' s3 I3 rw' => ⟨w, H, I3, rw', q⟩) hs
abbrev vIx (K : PySem.W.Frag) : R2 := fun x y H Q => rIx K x y H Q ∨ rDIx x y H Q
theorem ix_any (hu : X.A.units + 1 < cLine) : IxR X (vIx X.K) := ix_seq.or (ix_dic hu)
theorem ad_idx {K : PySem.W.Frag} : AdR K (vIx K) rIdx := by
  intro Z e H x y dx dy Qd Q h rx ry q k
  obtain ⟨d, hd, q1⟩ := onSome_ex q
  cases rx with
  | str z =>
    cases ry with
    | int i =>
      have hd' : (if z.length ≤ sizeLine then (atI z.cps.toList i).map fun c => D.str ⟨#[c]⟩ else none) = some d := hd
      split at hd'
      · rename_i hz
        obtain ⟨c, hc, rfl⟩ := Option.map_eq_some_iff.mp hd'
        exact .inl (.inr (.inr ⟨z, i, c, rfl, rfl, hz, hc, k _ H _ e .refl (.str _) h q1⟩))
      · cases hd'
    | _ => cases hd
  | lst f r =>
    cases ry with
    | int i =>
      obtain ⟨v, h1, h2⟩ := r.atI hd
      exact .inl (.inl ⟨_, _, i, v, rfl, rfl, SqL.of f.2.2, h1, k v H _ e .refl h2 h q1⟩)
    | _ => cases hd
  | tup f r =>
    cases ry with
    | int i =>
      obtain ⟨v, h1, h2⟩ := r.atI hd
      exact .inl (.inr (.inl ⟨_, _, i, v, rfl, rfl, SqT.of f.2.2, h1, k v H _ e .refl h2 h q1⟩))
    | _ => cases hd
  | ref p =>
    have hd' := (idxD_ref e p dy).symm.trans hd
    cases hp : e p with
    | none => rw [hp] at hd'; cases hd'
    | some o =>
      rw [hp] at hd'
      cases o with
      | lst ds =>
        obtain ⟨vs, g1, g2⟩ := h.cell _ _ hp
        cases ry with
        | int i =>
          obtain ⟨v, h1, h2⟩ := g2.atI hd'
          exact .inl (.inl ⟨_, _, i, v, rfl, rfl, SqL.of g1, h1, k v H _ e .refl h2 h q1⟩)
        | _ => cases hd'
      | dic kvs =>
        obtain ⟨vs, g1, g2⟩ := h.cell _ _ hp
        obtain ⟨kk, hk, hv⟩ := Option.bind_eq_some_iff.mp hd'
        rcases g2.val kk with ⟨z1, z2⟩ | ⟨v, d', z1, z2, z3⟩
        · rw [z1] at hv; cases hv
        · rw [z1] at hv; cases hv
          refine .inr ⟨p, v, rfl, ?_, k v H _ e .refl z3 h q1⟩
          rw [keyD_at ry hk, show (some v) = valV vs kk from by rw [vD_eq, z2]]
          exact DGet.k g1
      | ins C fs => cases hd'
      | lck od vs kvs =>
        obtain ⟨g1, g2⟩ := h.cell _ _ hp
        obtain ⟨kk, hk, hv⟩ := Option.bind_eq_some_iff.mp hd'
        rcases g2.val kk with ⟨z1, z2⟩ | ⟨v, d', z1, z2, z3⟩
        · rw [z1] at hv; cases hv
        · rw [z1] at hv; cases hv
          refine .inr ⟨p, v, rfl, ?_, k v H _ e .refl z3 h q1⟩
          rw [keyD_at ry hk, show (some v) = valV vs kk from by rw [vD_eq, z2]]
          exact .inl ⟨vs, kk, .inr ⟨od, g1⟩, rfl, rfl⟩
      | dT _ => cases hd'
  | @dic _ vs kvs f nn r =>
    have hd' : (keyD dy).bind (fun k => vD kvs k) = some d := by cases dy <;> exact hd
    obtain ⟨kk, hk, hv⟩ := Option.bind_eq_some_iff.mp hd'
    rcases (RepK.of nn r).val kk with ⟨z1, z2⟩ | ⟨v, d', z1, z2, z3⟩
    · rw [z1] at hv; cases hv
    · rw [z1] at hv; cases hv
      refine .inr ⟨_, v, rfl, ?_, k v H _ e .refl z3 h q1⟩
      rw [keyD_at ry hk, show (some v) = valV vs kk from by rw [vD_eq, z2]]
      exact DGet.k f.2.2
  | _ => cases dy <;> cases hd
theorem d_ix (hu : X.A.units + 64 < cLine) (ha : DE X a A) (hb : DE X b B) (hs : PlainIx b := by intro _ _; rfl) : DE X (.Subscript a b pos) (dOp rIdx A B) := pe_imp (pe_ix (ix_any (Nat.lt_of_le_of_lt (Nat.add_le_add_left (by decide) _) hu)) ha hb hs) (low_op ad_idx)

/-! ### slices -/
abbrev TDo := Sd → Eta → (Option Int → Eta → Prop) → Prop
def lowo (Y : Yx) (T : TDo) : TO := fun sg H Q => ∃ (Z : Addr → Prop) (dl : Sd) (e : Eta) (Qd : Option Int → Eta → Prop), SRel Y Z e H dl sg ∧ T dl e Qd ∧ ∀ b H' e', Ext e H e' H' → HRel Y.K Z e' H' → Qd b e' → Q b H'
abbrev DO (X : Cy) (ex : Option Expr) (T : TDo) : Prop := PO X ex (lowo X.Y T)
theorem po_imp {ex : Option Expr} {t t' : TO} (p : PO X ex t) (h : ∀ sg H Q, t' sg H Q → t sg H Q) : PO X ex t' := by
  obtain ⟨run⟩ := p
  exact ⟨fun pins s sg H Q I q => run pins s sg H Q I (h _ _ _ q)⟩
@[simp] def dNo (dl : Sd) (e : Eta) (Q : Option Int → Eta → Prop) : Prop := Q none e
@[simp] def dSome (A : TD) (dl : Sd) (e : Eta) (Q : Option Int → Eta → Prop) : Prop := A dl e fun x e1 => onI x fun i => Q (some i) e1
theorem do_none : DO X none dNo := po_imp po_none (by
  rintro sg H Q ⟨Z, dl, e, Qd, s, t, k⟩
  exact k none H e .refl s.rel t)
theorem do_some (ha : DE X a A) : DO X (some a) (dSome A) := po_imp (po_some ha) (by
  rintro sg H Q ⟨Z, dl, e, Qd, s, t, k⟩
  refine low.use s t fun v H' d e' x1 r1 h1 q1 => ?_
  cases r1 with
  | int i => exact ⟨i, rfl, k _ H' e' x1 h1 q1⟩
  | _ => exact q1.elim)
def cutD {α : Type} (xs : List α) (lo hi : Option Int) : List α := (xs.drop (HT.sIx xs.length 0 lo)).take (HT.sIx xs.length xs.length hi - HT.sIx xs.length 0 lo)
theorem RepL.cut {K : PySem.W.Frag} {Z : Addr → Prop} {e : Eta} {H : Hp} {vs : List V} {ds : List D} (r : RepL K Z e H vs ds) (lo hi : Option Int) : RepL K Z e H (cutV vs lo hi) (cutD ds lo hi) := by
  unfold cutV cutD
  rw [r.length]
  exact (r.drop _).take _
theorem cutD_whole {α : Type} {xs : List α} {lo hi : Option Int} (h : HT.sIx xs.length 0 lo = 0 ∧ HT.sIx xs.length xs.length hi = xs.length) : cutD xs lo hi = xs := by
  unfold cutD
  rw [h.1, h.2]; simp
/-- x[lo:hi]; c: a new list a cell? -/
@[simp] def newQ (c : Bool) (ds : List D) (e : Eta) (Q : D → Eta → Prop) : Prop := if c = true then ∀ p, e p = none → Q (.ref p) (e.put p (.lst ds)) else Q (.lst ds) e
def rCut (c : Bool) (lo hi : Option Int) (e : Eta) (Q : D → Eta → Prop) : D → Prop
  | .str z => z.length ≤ sizeLine ∧ Q (.str (cutS z lo hi)) e
  | .tup ds => Q (.tup (cutD ds lo hi)) e
  | .scr ns => newQ c ((cutD ns lo hi).map D.int) e Q
  | .lst ds => newQ c (cutD ds lo hi) e Q
  | .ref p => onSome (lstO (e p)) fun ds => newQ c (cutD ds lo hi) e Q
  | _ => False
@[simp] def dCut (c : Bool) (A : TD) (L R : TDo) (dl : Sd) (e : Eta) (Q : D → Eta → Prop) : Prop := A dl e fun x e1 => L dl e1 fun lo e2 => R dl e2 fun hi e3 => rCut c lo hi e3 Q x
abbrev vCut (K : PySem.W.Frag) : V → Option Int → Option Int → Hp → VK → Prop := fun x lo hi H Q => rSlL K x lo hi H Q ∨ rSlA K x lo hi H Q ∨ rSlS x lo hi H Q
theorem sl_any : SlR X (vCut X.K) := sl_list.or (sl_tupA.or sl_str)
theorem cutV_map (ns : List Int) (lo hi : Option Int) : cutV (ns.map V.int) lo hi = (cutD ns lo hi).map V.int := by
  unfold cutV cutD
  rw [List.length_map, List.map_take, List.map_drop]
theorem ad_cutL {K : PySem.W.Frag} {c : Bool} {Z : Addr → Prop} {e : Eta} {H : Hp} {vs : List V} {ds : List D} {p : Addr} {lo hi : Option Int} {Qd : D → Eta → Prop} {Q : VK} (h : HRel K Z e H) (g : H p = some (.lst vs)) (r : RepL K Z e H vs ds)
    (q : if c = true then ∀ p, e p = none → Qd (.ref p) (e.put p (.lst (cutD ds lo hi))) else Qd (.lst (cutD ds lo hi)) e)
    (k : ∀ v H' d e', Ext e H e' H' → Rep K Z e' H' v d → HRel K Z e' H' → Qd d e' → Q v H') : rSlL K (.ref p) lo hi H Q := by
  refine ⟨p, vs, rfl, SqL.of g, fun p' hp => ?_⟩
  cases c with
  | true =>
    obtain ⟨x1, x2⟩ := Rep.new_cell h hp (r.cut lo hi)
    exact k _ _ _ _ x1 (.ref p') x2 (by rw [if_pos rfl] at q; exact q p' (h.free hp).1)
  | false =>
    obtain ⟨x1, x2, x3⟩ := Rep.new_lst h hp (r.cut lo hi)
    exact k _ _ _ e x1 x2 x3 (by rw [if_neg Bool.false_ne_true] at q; exact q)
theorem RepL.ints {K : PySem.W.Frag} {Z : Addr → Prop} {e : Eta} {H : Hp} (ns : List Int) : RepL K Z e H (ns.map V.int) (ns.map D.int) := RepL.map (fun i => .int i) ns
theorem ad_cut {K : PySem.W.Frag} {c : Bool} {Z : Addr → Prop} {e : Eta} {H : Hp} {x : V} {dx : D} {lo hi : Option Int} {Qd : D → Eta → Prop} {Q : VK} (h : HRel K Z e H) (rx : Rep K Z e H x dx) (q : rCut c lo hi e Qd dx)
    (k : ∀ v H' d e', Ext e H e' H' → Rep K Z e' H' v d → HRel K Z e' H' → Qd d e' → Q v H') : vCut K x lo hi H Q := by
  cases rx with
  | str z => exact .inr (.inr ⟨z, rfl, q.1, k _ H _ e .refl (.str _) h q.2⟩)
  | tup f r =>
    refine .inr (.inl ⟨_, _, rfl, SqT.of f.2.2, fun w => ?_, fun w p hp => ?_⟩)
    · have q : Qd (.tup (cutD _ lo hi)) e := q
      rw [cutD_whole (by rw [← r.length]; exact w)] at q
      exact k _ H _ e .refl (.tup f r) h q
    · obtain ⟨x1, x2, x3⟩ := Rep.new_tup h hp (r.cut lo hi)
      exact k _ _ _ e x1 x2 x3 q
  | scr f =>
    refine .inl ⟨_, _, rfl, f.seq, fun p' hp => ?_⟩
    rw [cutV_map]
    have q : if c = true then ∀ p, e p = none → Qd (.ref p) (e.put p (.lst ((cutD _ lo hi).map D.int))) else Qd (.lst ((cutD _ lo hi).map D.int)) e := q
    cases c with
    | true =>
      obtain ⟨x1, x2⟩ := Rep.new_cell h hp (RepL.ints _)
      exact k _ _ _ _ x1 (.ref p') x2 (by rw [if_pos rfl] at q; exact q p' (h.free hp).1)
    | false =>
      obtain ⟨x1, x2, x3⟩ := Rep.new_lst h hp (RepL.ints _)
      exact k _ _ _ e x1 x2 x3 (by rw [if_neg Bool.false_ne_true] at q; exact q)
  | lst f r => exact .inl (ad_cutL h f.2.2 r q k)
  | ref p =>
    obtain ⟨ds, hl, q'⟩ := onSome_ex q
    obtain ⟨vs, g1, g2⟩ := h.cell _ _ (lstO_ex hl)
    exact .inl (ad_cutL h g1 g2 q' k)
  | _ => exact q.elim
theorem d_cut (c : Bool) {lo hi : Option Expr} {L R : TDo} {p2 : Pos} (ha : DE X a A) (hl : DO X lo L) (hh : DO X hi R) : DE X (.Subscript a (.Slice lo hi none p2) pos) (dCut c A L R) := pe_imp (pe_slice sl_any ha hl hh) (by
  rintro sg H Q ⟨Z, dl, e, Qd, s, t, k⟩
  refine low.use s t fun v H' d e' x1 r1 h1 q1 => ⟨Z, dl, e', _, s.ext x1 h1, q1, fun lo H2 e2 x2 h2 q2 => ⟨Z, dl, e2, _, s.ext (x1.trans x2) h2, q2, fun hi H3 e3 x3 h3 q3 => ?_⟩⟩
  exact ad_cut h3 (r1.ext (x2.trans x3)) q3 fun v H' d e' x4 r4 h4 q4 => k v H' d e' (x1.trans (x2.trans (x3.trans x4))) r4 h4 q4)

/-! ### tests, and, or, not -/
def truO : Option O → Option Bool
  | some (.lst ds) => some (!ds.isEmpty)
  | some (.dic ds) => some (!ds.isEmpty)
  | _ => none
def truD (e : Eta) : D → Option Bool
  | .non => some false
  | .bl b => some b
  | .int i => some (i != 0)
  | .str z => if z.length ≤ sizeLine then some ((z.length : Int) != 0) else none
  | .tup ds => some (!ds.isEmpty)
  | .lst ds => some (!ds.isEmpty)
  | .ref p => truO (e p)
  | .dic kvs => some (!kvs.isEmpty)
  | _ => none
@[simp] def dTru (A : TD) (dl : Sd) (e : Eta) (Q : Bool → Eta → Prop) : Prop := A dl e fun x e1 => onSome (truD e1 x) fun b => Q b e1
theorem RepL.empty {K : PySem.W.Frag} {Z : Addr → Prop} {e : Eta} {H : Hp} {vs : List V} {ds : List D} (r : RepL K Z e H vs ds) : ds.isEmpty = vs.isEmpty := by cases r <;> rfl
theorem RepK.empty {κ : Type} {K : PySem.W.Frag} {Z : Addr → Prop} {e : Eta} {H : Hp} {vs : List (κ × V)} {ds : List (κ × D)} (r : RepK K Z e H vs ds) : ds.isEmpty = vs.isEmpty := by cases r <;> rfl
theorem tru_at {K : PySem.W.Frag} {Z : Addr → Prop} {e : Eta} {H : Hp} (h : HRel K Z e H) {x : V} {d : D} {b : Bool} (r : Rep K Z e H x d) (q : truD e d = some b) : TruV K x H b := by
  cases r with
  | non => cases q; rfl
  | bl b => cases q; rfl
  | int b => cases q; rfl
  | str z =>
    have q : (if z.length ≤ sizeLine then some ((z.length : Int) != 0) else none) = some b := q
    split at q
    · cases q; exact ⟨by assumption, rfl⟩
    · cases q
  | tup f r => cases q; exact .inr (.inl ⟨_, SqT.of f.2.2, by rw [r.empty]⟩)
  | lst f r => cases q; exact .inl ⟨_, SqL.of f.2.2, by rw [r.empty]⟩
  | ref p =>
    have q : truO (e p) = some b := q
    cases hp : e p with
    | none => rw [hp] at q; cases q
    | some o =>
      rw [hp] at q
      cases o with
      | lst ds => cases q; obtain ⟨vs, g1, g2⟩ := h.cell _ _ hp; exact .inl ⟨_, SqL.of g1, by rw [g2.empty]⟩
      | dic ds => cases q; obtain ⟨vs, g1, g2⟩ := h.cell _ _ hp; exact .inr (.inr ⟨_, g1, by rw [g2.empty]⟩)
      | ins C fs => cases q
      | lck _ _ _ => cases q
      | dT _ => cases q
  | dic f n r => cases q; exact .inr (.inr ⟨_, f.2.2, by rw [(RepK.of n r).empty]⟩)
  | _ => cases q
theorem dt_tru (ha : DE X a A) (he : ∀ whole, isTrue a X.env whole = (do let v ← whole; standAt a.pos; holding [v] (truthy v)) := by intro _; rfl) : DT X a (dTru A) := pt_imp (pt_truth ha he) (by
  rintro sg H Q ⟨Z, dl, e, Qd, s, t, k⟩
  refine low.use s t fun v H' d e' x1 r1 h1 q1 => ?_
  obtain ⟨b, z, q2⟩ := onSome_ex q1
  exact ⟨b, tru_at h1 r1 z, k b H' e' x1 h1 q2⟩)
@[simp] def dAnd (A B : TDb) (dl : Sd) (e : Eta) (Q : Bool → Eta → Prop) : Prop := A dl e fun b e1 => if b = true then B dl e1 Q else Q false e1
@[simp] def dOr (A B : TDb) (dl : Sd) (e : Eta) (Q : Bool → Eta → Prop) : Prop := A dl e fun b e1 => if b = true then Q true e1 else B dl e1 Q
@[simp] def dNot (A : TDb) (dl : Sd) (e : Eta) (Q : Bool → Eta → Prop) : Prop := A dl e fun b e1 => Q (!b) e1
variable {A' B' : TDb} {rest : List Expr}
theorem dw_and1 (ha : DT X a A') : DW X (.BoolOp .And [a] pos) A' := pw_and1 ha
theorem dw_or1 (ha : DT X a A') : DW X (.BoolOp .Or [a] pos) A' := pw_or1 ha
theorem dw_and (ha : DT X a A') (hb : DW X (.BoolOp .And (b :: rest) pos) B') : DW X (.BoolOp .And (a :: b :: rest) pos) (dAnd A' B') := pw_imp (pw_and ha hb) (by
  rintro sg H Q ⟨Z, dl, e, Qd, s, t, k⟩
  refine lowb.use s t fun c H' e' x1 h1 q1 => ?_
  cases c with
  | true => rw [if_pos rfl] at q1 ⊢; exact lowb.use (s.ext x1 h1) q1 fun c H2 e2 x2 h2 q2 => k c H2 e2 (x1.trans x2) h2 q2
  | false => rw [if_neg Bool.false_ne_true] at q1 ⊢; exact k _ H' e' x1 h1 q1)
theorem dw_or (ha : DT X a A') (hb : DW X (.BoolOp .Or (b :: rest) pos) B') : DW X (.BoolOp .Or (a :: b :: rest) pos) (dOr A' B') := pw_imp (pw_or ha hb) (by
  rintro sg H Q ⟨Z, dl, e, Qd, s, t, k⟩
  refine lowb.use s t fun c H' e' x1 h1 q1 => ?_
  cases c with
  | false => rw [if_neg Bool.false_ne_true] at q1 ⊢; exact lowb.use (s.ext x1 h1) q1 fun c H2 e2 x2 h2 q2 => k c H2 e2 (x1.trans x2) h2 q2
  | true => rw [if_pos rfl] at q1 ⊢; exact k _ H' e' x1 h1 q1)
theorem DW.dt {ex : Expr} (h : DW X ex A') : DT X ex A' := PW.pt h
theorem dt_not (ha : DT X a A') : DT X (.UnaryOp .Not a pos) (dNot A') := pt_imp (pt_not ha) (by
  rintro sg H Q ⟨Z, dl, e, Qd, s, t, k⟩
  exact lowb.use s t fun c H' e' x1 h1 q1 => k (!c) H' e' x1 h1 q1)
/-- .. as values -/
@[simp] def dAndV (A B : TD) (dl : Sd) (e : Eta) (Q : D → Eta → Prop) : Prop := A dl e fun x e1 => onB x fun b => if b = true then B dl e1 Q else Q (.bl false) e1
@[simp] def dOrV (A B : TD) (dl : Sd) (e : Eta) (Q : D → Eta → Prop) : Prop := A dl e fun x e1 => onB x fun b => if b = true then Q (.bl true) e1 else B dl e1 Q
@[simp] def dNotV (A : TD) (dl : Sd) (e : Eta) (Q : D → Eta → Prop) : Prop := A dl e fun x e1 => onB x fun b => Q (.bl (!b)) e1
theorem d_one {op} (ha : DE X a A) : DE X (.BoolOp op [a] pos) A := pe_one ha
theorem d_and (ha : DE X a A) (hb : DE X (.BoolOp .And (b :: rest) pos) B) : DE X (.BoolOp .And (a :: b :: rest) pos) (dAndV A B) := pe_imp (pe_and ha hb) (by
  rintro sg H Q ⟨Z, dl, e, Qd, s, t, k⟩
  refine low.use s t fun v H' d e' x1 r1 h1 q1 => ?_
  cases r1 with
  | bl c =>
    refine ⟨c, rfl, ?_⟩
    have q1 : if c = true then B dl e' Qd else Qd (.bl false) e' := q1
    cases c with
    | true => rw [if_pos rfl] at q1 ⊢; exact low.use (s.ext x1 h1) q1 fun v H2 d e2 x2 r2 h2 q2 => k v H2 d e2 (x1.trans x2) r2 h2 q2
    | false => rw [if_neg Bool.false_ne_true] at q1 ⊢; exact k _ H' _ e' x1 (.bl _) h1 q1
  | _ => exact q1.elim)
theorem d_or (ha : DE X a A) (hb : DE X (.BoolOp .Or (b :: rest) pos) B) : DE X (.BoolOp .Or (a :: b :: rest) pos) (dOrV A B) := pe_imp (pe_or ha hb) (by
  rintro sg H Q ⟨Z, dl, e, Qd, s, t, k⟩
  refine low.use s t fun v H' d e' x1 r1 h1 q1 => ?_
  cases r1 with
  | bl c =>
    refine ⟨c, rfl, ?_⟩
    have q1 : if c = true then Qd (.bl true) e' else B dl e' Qd := q1
    cases c with
    | false => rw [if_neg Bool.false_ne_true] at q1 ⊢; exact low.use (s.ext x1 h1) q1 fun v H2 d e2 x2 r2 h2 q2 => k v H2 d e2 (x1.trans x2) r2 h2 q2
    | true => rw [if_pos rfl] at q1 ⊢; exact k _ H' _ e' x1 (.bl _) h1 q1
  | _ => exact q1.elim)
theorem d_not (ha : DE X a A) : DE X (.UnaryOp .Not a pos) (dNotV A) := pe_imp (pe_not ha) (by
  rintro sg H Q ⟨Z, dl, e, Qd, s, t, k⟩
  refine low.use s t fun v H' d e' x1 r1 h1 q1 => ?_
  cases r1 with
  | bl c => exact ⟨c, rfl, k _ H' _ e' x1 (.bl _) h1 q1⟩
  | _ => exact q1.elim)
@[simp] def dIf (C : TDb) (A B : TD) (dl : Sd) (e : Eta) (Q : D → Eta → Prop) : Prop := C dl e fun b e1 => if b = true then A dl e1 Q else B dl e1 Q
theorem d_if {c : Expr} {C : TDb} (hc : DT X c C) (ha : DE X a A) (hb : DE X b B) : DE X (.IfExp c a b pos) (dIf C A B) := pe_imp (pe_ifExp hc ha hb) (by
  rintro sg H Q ⟨Z, dl, e, Qd, s, t, k⟩
  refine lowb.use s t fun c H' e' x1 h1 q1 => ?_
  cases c with
  | true => rw [if_pos rfl] at q1 ⊢; exact low.use (s.ext x1 h1) q1 fun v H2 d e2 x2 r2 h2 q2 => k v H2 d e2 (x1.trans x2) r2 h2 q2
  | false => rw [if_neg Bool.false_ne_true] at q1 ⊢; exact low.use (s.ext x1 h1) q1 fun v H2 d e2 x2 r2 h2 q2 => k v H2 d e2 (x1.trans x2) r2 h2 q2)
end
end FL

set_option Elab.async false
set_option linter.all false
set_option maxRecDepth 100000
set_option maxHeartbeats 4000000
/-! The layer's calls and displays. -/
namespace FL
open PySem PySem.Spec PyProof.Rows L2

/-! ### argument lists, displays -/
@[simp] def dNil (dl : Sd) (e : Eta) (Q : List D → Eta → Prop) : Prop := Q [] e
@[simp] def dCons (A : TD) (T : TDs) (dl : Sd) (e : Eta) (Q : List D → Eta → Prop) : Prop := A dl e fun x e1 => T dl e1 fun xs e2 => Q (x :: xs) e2
@[simp] def dTup (T : TDs) (dl : Sd) (e : Eta) (Q : D → Eta → Prop) : Prop := T dl e fun xs e1 => xs.length ≤ sizeLine ∧ Q (.tup xs) e1
@[simp] def dLst (T : TDs) (dl : Sd) (e : Eta) (Q : D → Eta → Prop) : Prop := T dl e fun xs e1 => xs.length ≤ sizeLine ∧ Q (.lst xs) e1
@[simp] def dLstC (T : TDs) (dl : Sd) (e : Eta) (Q : D → Eta → Prop) : Prop := T dl e fun xs e1 => xs.length ≤ sizeLine ∧ ∀ p, e1 p = none → Q (.ref p) (e1.put p (.lst xs))
@[simp] def dDicC (dl : Sd) (e : Eta) (Q : D → Eta → Prop) : Prop := ∀ p, e p = none → Q (.ref p) (e.put p (.dic []))
section
variable {X : Cy} {a b : Expr} {es : List Expr} {A B : TD} {T : TDs} {pos : Pos}
theorem da_nil : DA X [] dNil := pa_imp pa_nil (by
  rintro sg H Q ⟨Z, dl, e, Qd, s, t, k⟩
  exact k [] H [] e .refl .nil s.rel t)
theorem da_cons (ha : DE X a A) (hr : DA X es T) (hs : starEach (a :: es) X.env = (false, eval a X.env) :: starEach es X.env := by rfl) : DA X (a :: es) (dCons A T) := pa_imp (pa_cons ha hr hs) (by
  rintro sg H Q ⟨Z, dl, e, Qd, s, t, k⟩
  refine low.use s t fun v H1 d e1 x1 r1 h1 q1 => lows.use (s.ext x1 h1) q1 fun vs H2 ds e2 x2 r2 h2 q2 => ?_
  exact k _ H2 _ e2 (x1.trans x2) (.cons (r1.ext x2) r2) h2 q2)
theorem d_tup {x1} (h : DA X es T) : DE X (.Tuple es x1 pos) (dTup T) := pe_imp (pe_tup h) (by
  rintro sg H Q ⟨Z, dl, e, Qd, s, t, k⟩
  refine lows.use s t fun vs H1 ds e1 x1 r1 h1 q1 => ⟨by rw [r1.length]; exact q1.1, fun p hp => ?_⟩
  obtain ⟨y1, y2, y3⟩ := Rep.new_tup h1 hp r1
  exact k _ _ _ e1 (x1.trans y1) y2 y3 q1.2)
theorem d_lst (h : DA X es T) : DE X (.List es pos) (dLst T) := pe_imp (pe_lst h) (by
  rintro sg H Q ⟨Z, dl, e, Qd, s, t, k⟩
  refine lows.use s t fun vs H1 ds e1 x1 r1 h1 q1 => ⟨by rw [r1.length]; exact q1.1, fun p hp => ?_⟩
  obtain ⟨y1, y2, y3⟩ := Rep.new_lst h1 hp r1
  exact k _ _ _ e1 (x1.trans y1) y2 y3 q1.2)
theorem d_lstC (h : DA X es T) : DE X (.List es pos) (dLstC T) := pe_imp (pe_lst h) (by
  rintro sg H Q ⟨Z, dl, e, Qd, s, t, k⟩
  refine lows.use s t fun vs H1 ds e1 x1 r1 h1 q1 => ⟨by rw [r1.length]; exact q1.1, fun p hp => ?_⟩
  obtain ⟨y1, y2⟩ := Rep.new_cell h1 hp r1
  exact k _ _ _ _ (x1.trans y1) (.ref p) y2 (q1.2 p (h1.free hp).1))
theorem Rep.new_dic {K : PySem.W.Frag} {Z : Addr → Prop} {e : Eta} {H : Hp} {p : Addr} {vs : List (Key × V)} {ds : List (Key × D)} (h : HRel K Z e H) (hp : H p = none) (r : RepK K Z e H vs ds) :
    Ext e H (e.put p (.dic ds)) (upd H p (.dK vs)) ∧ HRel K Z (e.put p (.dic ds)) (upd H p (.dK vs)) :=
  h.newc hp fun x _ => ⟨vs, upd_same, r.ext x⟩
theorem d_dicC : DE X (.Dict [] [] pos) dDicC := pe_imp pe_dnewK (by
  rintro sg H Q ⟨Z, dl, e, Qd, s, t, k⟩ p hp
  obtain ⟨y1, y2⟩ := Rep.new_dic s.rel hp (.nil (κ := Key))
  exact k _ _ _ _ y1 (.ref p) y2 (t p (s.rel.free hp).1))

/-! ### calls of what is built in -/
abbrev RC := List D → Eta → (D → Eta → Prop) → Prop
def AdC (K : PySem.W.Frag) (r : List V → Hp → VK → Prop) (R : RC) : Prop := ∀ (Z : Addr → Prop) (e : Eta) (H : Hp) (xs : List V) (ds : List D) (Qd : D → Eta → Prop) (Q : VK), HRel K Z e H → RepL K Z e H xs ds → R ds e Qd →
  (∀ v H' d e', Ext e H e' H' → Rep K Z e' H' v d → HRel K Z e' H' → Qd d e' → Q v H') → r xs H Q
@[simp] def dCall (R : RC) (T : TDs) (dl : Sd) (e : Eta) (Q : D → Eta → Prop) : Prop := T dl e fun ds e1 => R ds e1 Q
variable {bid Ty : String} {r : List V → Hp → VK → Prop} {R : RC} {x : Str} {p : Pos}
theorem low_call (ad : AdC X.K r R) : ∀ sg H Q, low X.Y (dCall R T) sg H Q → tCB r (lows X.Y T) sg H Q := by
  rintro sg H Q ⟨Z, dl, e, Qd, s, t, k⟩
  refine lows.use s t fun vs H1 ds e1 x1 r1 h1 q1 => ad Z e1 H1 vs ds Qd Q h1 r1 q1 fun v H' d e' x2 r2 h2 q2 => k v H' d e' (x1.trans x2) r2 h2 q2
theorem d_callB (hc : CallR X (.builtin bid) r) (ad : AdC X.K r R) (hg : Gl X x) (hm : X.mg x = none) (hv : bootBuiltins x = some (.builtin bid)) (ha : DA X (a :: es) T) (hn : x ≠ "__name__" := by decide) (hdb : (x == ("__debug__" : Str)) = false := by decide)
    (he : starEach (a :: es) X.env = (false, eval a X.env) :: starEach es X.env := by rfl) (hpl : (backTo pos (starEach es X.env)).any (·.1) = false := by rfl) : DE X (.Call (.Name x p) (a :: es) [] pos) (dCall R T) :=
  pe_imp (pe_callB hc hg hm hv ha hn hdb he hpl) (low_call ad)
theorem d_callT (hc : CallR X (.type Ty) r) (ad : AdC X.K r R) (hg : Gl X x) (hm : X.mg x = none) (hv : bootBuiltins x = some (.type Ty)) (ha : DA X (a :: es) T) (hn : x ≠ "__name__" := by decide) (hdb : (x == ("__debug__" : Str)) = false := by decide)
    (he : starEach (a :: es) X.env = (false, eval a X.env) :: starEach es X.env := by rfl) (hpl : (backTo pos (starEach es X.env)).any (·.1) = false := by rfl) : DE X (.Call (.Name x p) (a :: es) [] pos) (dCall R T) :=
  pe_imp (pe_callTy hc hg hm hv ha hn hdb he hpl) (low_call ad)
/-! len -/
def one : List D → (D → Prop) → Prop
  | [x], Q => Q x
  | _, _ => False
theorem one_ex {xs : List D} {Q : D → Prop} (h : one xs Q) : ∃ x, xs = [x] ∧ Q x := by
  match xs, h with
  | [x], h => exact ⟨x, rfl, h⟩
  | [], h => exact h.elim
  | _ :: _ :: _, h => exact h.elim
def lenO : Option O → Option Nat
  | some (.lst ds) => some ds.length
  | some (.dic ds) => some ds.length
  | _ => none
def lenD (e : Eta) : D → Option Nat
  | .str z => if z.length ≤ sizeLine then some z.length else none
  | .tup ds => some ds.length
  | .lst ds => some ds.length
  | .ref p => lenO (e p)
  | .dic kvs => some kvs.length
  | _ => none
@[simp] def rLen' : RC := fun xs e Q => one xs fun x => onSome (lenD e x) fun n => Q (.int n) e
abbrev vLen (K : PySem.W.Frag) : List V → Hp → VK → Prop := fun xs H Q => (∃ x n, xs = [x] ∧ LenV K x H n ∧ Q (.int n) H) ∨ ∃ a kvs, xs = [V.ref a] ∧ H a = some (.dK kvs) ∧ Q (.int kvs.length) H
theorem len_at {K : PySem.W.Frag} {Z : Addr → Prop} {e : Eta} {H : Hp} (h : HRel K Z e H) {x : V} {d : D} {n : Nat} (r : Rep K Z e H x d) (q : lenD e d = some n) : LenV K x H n ∨ ∃ a kvs, x = V.ref a ∧ H a = some (.dK kvs) ∧ n = kvs.length := by
  cases r with
  | str z =>
    have q : (if z.length ≤ sizeLine then some z.length else none) = some n := q
    split at q
    · cases q; exact .inl ⟨by assumption, rfl⟩
    · cases q
  | tup f r => cases q; exact .inl (.inr ⟨_, SqT.of f.2.2, r.length.symm⟩)
  | lst f r => cases q; exact .inl (.inl ⟨_, SqL.of f.2.2, r.length.symm⟩)
  | ref p =>
    have q : lenO (e p) = some n := q
    cases hp : e p with
    | none => rw [hp] at q; cases q
    | some o =>
      rw [hp] at q
      cases o with
      | lst ds => cases q; obtain ⟨vs, g1, g2⟩ := h.cell _ _ hp; exact .inl (.inl ⟨_, SqL.of g1, g2.length.symm⟩)
      | dic ds => cases q; obtain ⟨vs, g1, g2⟩ := h.cell _ _ hp; exact .inr ⟨_, _, rfl, g1, g2.length.symm⟩
      | ins C fs => cases q
      | lck _ _ _ => cases q
      | dT _ => cases q
  | dic f n r => cases q; exact .inr ⟨_, _, rfl, f.2.2, (RepK.of n r).length.symm⟩
  | _ => cases q
theorem RepL.one {K : PySem.W.Frag} {Z : Addr → Prop} {e : Eta} {H : Hp} {xs : List V} {d : D} (r : RepL K Z e H xs [d]) : ∃ x, xs = [x] ∧ Rep K Z e H x d := by
  cases r with
  | cons a r => cases r; exact ⟨_, rfl, a⟩
theorem RepL.two {K : PySem.W.Frag} {Z : Addr → Prop} {e : Eta} {H : Hp} {xs : List V} {d c : D} (r : RepL K Z e H xs [d, c]) : ∃ x y, xs = [x, y] ∧ Rep K Z e H x d ∧ Rep K Z e H y c := by
  cases r with
  | cons a r =>
    obtain ⟨y, rfl, b⟩ := r.one
    exact ⟨_, _, rfl, a, b⟩
/-- one value in, by what it is -/
theorem ad_one {K : PySem.W.Frag} {r : List V → Hp → VK → Prop} {R : D → Eta → (D → Eta → Prop) → Prop} (h : ∀ (Z : Addr → Prop) (e : Eta) (H : Hp) (x : V) (d : D) (Qd : D → Eta → Prop) (Q : VK), HRel K Z e H → Rep K Z e H x d → R d e Qd →
    (∀ v H' d e', Ext e H e' H' → Rep K Z e' H' v d → HRel K Z e' H' → Qd d e' → Q v H') → r [x] H Q) : AdC K r (fun ds e Q => one ds fun d => R d e Q) := by
  intro Z e H xs ds Qd Q hr rx q k
  obtain ⟨d, rfl, q⟩ := one_ex q
  obtain ⟨x, rfl, r⟩ := rx.one
  exact h Z e H x d Qd Q hr r q k
theorem ad_len {K : PySem.W.Frag} : AdC K (vLen K) rLen' := ad_one (R := fun x e Q => onSome (lenD e x) fun n => Q (.int n) e) fun Z e H x d Qd Q h r q k => by
  obtain ⟨n, z, q⟩ := onSome_ex q
  rcases len_at h r z with g | ⟨a, kvs, rfl, g, rfl⟩
  · exact .inl ⟨x, n, rfl, g, k _ H _ e .refl (.int _) h q⟩
  · exact .inr ⟨a, kvs, rfl, g, k _ H _ e .refl (.int _) h q⟩
theorem d_len (hg : Gl X "len") (hm : X.mg "len" = none) (ha : DA X [a] T) (he : starEach [a] X.env = (false, eval a X.env) :: starEach [] X.env := by rfl) : DE X (.Call (.Name "len" p) [a] [] pos) (dCall rLen' T) :=
  d_callB (call_len.or call_lenD) ad_len hg hm PySem.boot_len ha (he := he)
/-! list(x), tuple(x) -/
def keyT : Key → D
  | .inl i => .int i
  | .inr x => .str x
def itmO : Option O → Option (List D)
  | some (.lst ds) => some ds
  | some (.dic kvs) => some (kvs.map fun kv => keyT kv.1)
  | _ => none
/-- what list(x) makes -/
def itmD (e : Eta) : D → Option (List D)
  | .lst ds => some ds
  | .tup ds => some ds
  | .ref p => itmO (e p)
  | .dic kvs => some (kvs.map fun kv => keyT kv.1)
  | _ => none
@[simp] def rList (c : Bool) : RC := fun xs e Q => one xs fun x => onSome (itmD e x) fun ds => newQ c ds e Q
theorem keys_rep {K : PySem.W.Frag} {Z : Addr → Prop} {e : Eta} {H : Hp} : ∀ {vs : List (Key × V)} {ds : List (Key × D)}, RepK K Z e H vs ds → RepL K Z e H (vs.map fun kv => kV kv.1) (ds.map fun kv => keyT kv.1)
  | _, _, .nil => .nil
  | _, _, .cons (k := k) a r => by
    rw [List.map_cons, List.map_cons]
    refine .cons ?_ (keys_rep r)
    cases k with
    | inl i => exact .int i
    | inr x => exact .str x
theorem new_or {K : PySem.W.Frag} {Z : Addr → Prop} {e : Eta} {H : Hp} {c : Bool} {p : Addr} {vs : List V} {ds : List D} {Qd : D → Eta → Prop} {Q : VK} (h : HRel K Z e H) (hp : H p = none) (r : RepL K Z e H vs ds)
    (q : if c = true then ∀ p, e p = none → Qd (.ref p) (e.put p (.lst ds)) else Qd (.lst ds) e)
    (k : ∀ v H' d e', Ext e H e' H' → Rep K Z e' H' v d → HRel K Z e' H' → Qd d e' → Q v H') : Q (.ref p) (upd H p (.lst vs)) := by
  cases c with
  | true =>
    obtain ⟨x1, x2⟩ := Rep.new_cell h hp r
    exact k _ _ _ _ x1 (.ref p) x2 (by rw [if_pos rfl] at q; exact q p (h.free hp).1)
  | false =>
    obtain ⟨x1, x2, x3⟩ := Rep.new_lst h hp r
    exact k _ _ _ e x1 x2 x3 (by rw [if_neg Bool.false_ne_true] at q; exact q)
abbrev vList (K : PySem.W.Frag) : List V → Hp → VK → Prop := fun xs H Q => (∃ p ys, xs = [.ref p] ∧ (SqL K H p ys ∨ SqT K H p ys) ∧ ∀ l, H l = none → Q (.ref l) (upd H l (.lst ys))) ∨ rListD xs H Q
theorem ad_list {K : PySem.W.Frag} {c : Bool} : AdC K (vList K) (rList c) := ad_one (R := fun x e Q => onSome (itmD e x) fun ds => newQ c ds e Q) fun Z e H x d Qd Q h r q k => by
  obtain ⟨ds, z, q1⟩ := onSome_ex q
  clear q
  cases r with
  | lst f r => cases z; exact .inl ⟨_, _, rfl, .inl (SqL.of f.2.2), fun l hl => new_or h hl r q1 k⟩
  | tup f r => cases z; exact .inl ⟨_, _, rfl, .inr (SqT.of f.2.2), fun l hl => new_or h hl r q1 k⟩
  | ref p =>
    have z : itmO (e p) = some ds := z
    cases hp : e p with
    | none => rw [hp] at z; cases z
    | some o =>
      rw [hp] at z
      obtain g := h.cell _ _ hp
      cases o with
      | lst ds' => cases z; obtain ⟨vs, g1, g2⟩ := g; exact .inl ⟨_, _, rfl, .inl (SqL.of g1), fun l hl => new_or (c := c) (Qd := Qd) h hl g2 q1 k⟩
      | dic kvs => cases z; obtain ⟨vs, g1, g2⟩ := g; exact .inr ⟨p, vs, rfl, g1, fun l hl => new_or (c := c) (Qd := Qd) h hl (keys_rep g2) q1 k⟩
      | ins C fs => cases z
      | lck _ _ _ => cases z
      | dT _ => cases z
  | dic f n r => cases z; exact .inr ⟨_, _, rfl, f.2.2, fun l hl => new_or (c := c) (Qd := Qd) h hl (keys_rep (RepK.of n r)) q1 k⟩
  | _ => cases z
theorem d_list (c : Bool) (hc : X.calm = true) (hg : Gl X "list") (hm : X.mg "list" = none) (ha : DA X [a] T) (he : starEach [a] X.env = (false, eval a X.env) :: starEach [] X.env := by rfl) : DE X (.Call (.Name "list" p) [a] [] pos) (dCall (rList c) T) :=
  d_callT (call_list_of.or (call_list_dK hc)) ad_list hg hm PyProof.Rows.boot_list ha (he := he)
@[simp] def rTuple : RC := fun xs e Q => one xs fun x => onSome (seqD e x) fun ds => Q (.tup ds) e
abbrev vTuple (K : PySem.W.Frag) : List V → Hp → VK → Prop := fun xs H Q => ∃ p ys, xs = [.ref p] ∧ ((SqL K H p ys ∧ ∀ l, H l = none → Q (.ref l) (upd H l (.tup ys))) ∨ (SqT K H p ys ∧ Q (.ref p) H))
theorem ad_tuple {K : PySem.W.Frag} : AdC K (vTuple K) rTuple := ad_one (R := fun x e Q => onSome (seqD e x) fun ds => Q (.tup ds) e) fun Z e H x d Qd Q h r q k => by
  obtain ⟨ds, z, q1⟩ := onSome_ex q
  clear q
  have nw : ∀ {p : Addr} {vs : List V}, H p = some (.lst vs) → RepL K Z e H vs ds → vTuple K [.ref p] H Q := fun {p vs} g r => by
    refine ⟨p, vs, rfl, .inl ⟨SqL.of g, fun l hl => ?_⟩⟩
    obtain ⟨y1, y2, y3⟩ := Rep.new_tup h hl r
    exact k _ _ _ e y1 y2 y3 q1
  cases r with
  | tup f r => cases z; exact ⟨_, _, rfl, .inr ⟨SqT.of f.2.2, k _ H _ e .refl (.tup f r) h q1⟩⟩
  | lst f r => cases z; exact nw f.2.2 r
  | ref p => obtain ⟨vs, g1, g2⟩ := h.cell _ _ (lstO_ex z); exact nw g1 g2
  | _ => cases z
theorem d_tuple (hg : Gl X "tuple") (hm : X.mg "tuple" = none) (ha : DA X [a] T) (he : starEach [a] X.env = (false, eval a X.env) :: starEach [] X.env := by rfl) : DE X (.Call (.Name "tuple" p) [a] [] pos) (dCall rTuple T) :=
  d_callT call_tuple_of ad_tuple hg hm PyProof.Rows.boot_tuple ha (he := he)
/-! min, max, int, str -/
def rMin2 : List D → Eta → (D → Eta → Prop) → Prop
  | [.int i, .int j], e, Q => Q (.int (if j < i then j else i)) e
  | _, _, _ => False
def rMax2 : List D → Eta → (D → Eta → Prop) → Prop
  | [.int i, .int j], e, Q => Q (.int (if j > i then j else i)) e
  | _, _, _ => False
theorem ints2 {K : PySem.W.Frag} {Z : Addr → Prop} {e : Eta} {H : Hp} {xs : List V} {i j : Int} (r : RepL K Z e H xs [.int i, .int j]) : xs = [.int i, .int j] := by
  obtain ⟨x, y, rfl, a, b⟩ := r.two
  cases a; cases b; rfl
theorem ad_min {K : PySem.W.Frag} : AdC K (fun xs H Q => ∃ i j, xs = [.int i, .int j] ∧ Q (.int (if j < i then j else i)) H) rMin2 := by
  intro Z e H xs ds Qd Q hr rx q k
  unfold rMin2 at q
  split at q
  · exact ⟨_, _, ints2 rx, k _ H _ e .refl (.int _) hr q⟩
  · exact q.elim
theorem ad_max {K : PySem.W.Frag} : AdC K (fun xs H Q => ∃ i j, xs = [.int i, .int j] ∧ Q (.int (if j > i then j else i)) H) rMax2 := by
  intro Z e H xs ds Qd Q hr rx q k
  unfold rMax2 at q
  split at q
  · exact ⟨_, _, ints2 rx, k _ H _ e .refl (.int _) hr q⟩
  · exact q.elim
theorem d_min2 (hc : X.calm = true) (hg : Gl X "min") (hm : X.mg "min" = none) (ha : DA X [a, b] T) (he : starEach [a, b] X.env = (false, eval a X.env) :: starEach [b] X.env := by rfl) (hpl : (backTo pos (starEach [b] X.env)).any (·.1) = false := by rfl) : DE X (.Call (.Name "min" p) [a, b] [] pos) (dCall rMin2 T) :=
  d_callB (call_min2 hc) ad_min hg hm PyProof.Rows.boot_min ha (he := he) (hpl := hpl)
theorem d_max2 (hc : X.calm = true) (hg : Gl X "max") (hm : X.mg "max" = none) (ha : DA X [a, b] T) (he : starEach [a, b] X.env = (false, eval a X.env) :: starEach [b] X.env := by rfl) (hpl : (backTo pos (starEach [b] X.env)).any (·.1) = false := by rfl) : DE X (.Call (.Name "max" p) [a, b] [] pos) (dCall rMax2 T) :=
  d_callB (call_max2 hc) ad_max hg hm PyProof.Rows.boot_max ha (he := he) (hpl := hpl)
def rIntC : List D → Eta → (D → Eta → Prop) → Prop
  | [.int i], e, Q => Q (.int i) e
  | [.bl k], e, Q => Q (.int (if k then 1 else 0)) e
  | _, _, _ => False
theorem ad_intC {K : PySem.W.Frag} : AdC K (fun xs H Q => (∃ i, xs = [.int i] ∧ Q (.int i) H) ∨ ∃ k, xs = [.bl k] ∧ Q (.int (if k then 1 else 0)) H) rIntC := by
  intro Z e H xs ds Qd Q hr rx q k
  unfold rIntC at q
  split at q
  · obtain ⟨x, rfl, r⟩ := rx.one
    cases r
    exact .inl ⟨_, rfl, k _ H _ e .refl (.int _) hr q⟩
  · obtain ⟨x, rfl, r⟩ := rx.one
    cases r
    exact .inr ⟨_, rfl, k _ H _ e .refl (.int _) hr q⟩
  · exact q.elim
theorem d_intC (hg : Gl X "int") (hm : X.mg "int" = none) (ha : DA X [a] T) (he : starEach [a] X.env = (false, eval a X.env) :: starEach [] X.env := by rfl) : DE X (.Call (.Name "int" p) [a] [] pos) (dCall rIntC T) :=
  d_callT call_int1 ad_intC hg hm PyProof.Rows.boot_int ha (he := he)
/-! all, any -/
def blsD : List D → Option (List Bool)
  | [] => some []
  | .bl b :: r => (blsD r).map (b :: ·)
  | _ :: _ => none
theorem bls_at {K : PySem.W.Frag} {Z : Addr → Prop} {e : Eta} {H : Hp} : ∀ {vs : List V} {ds : List D} {bs : List Bool}, RepL K Z e H vs ds → blsD ds = some bs → vs = bs.map V.bl
  | _, _, _, .nil, h => by cases h; rfl
  | _, _, _, .cons (d := d) a r, h => by
    cases a with
    | bl b =>
      obtain ⟨c, hc, rfl⟩ := Option.map_eq_some_iff.mp (show (blsD _).map (b :: ·) = some _ from h)
      rw [bls_at r hc]; rfl
    | _ => cases h
@[simp] theorem blsD_map (f : α → Bool) (l : List α) : blsD (l.map fun x => D.bl (f x)) = some (l.map f) := by
  induction l with
  | nil => rfl
  | cons x l ih => rw [List.map_cons, blsD, ih]; rfl
@[simp] def rAllD (any : Bool) : RC := fun xs e Q => one xs fun x => onSome ((lstD e x).bind blsD) fun bs => Q (.bl (if any = true then bs.any (fun z => z) else bs.all (fun z => z))) e
theorem ad_all {K : PySem.W.Frag} : AdC K (rAll K) (rAllD false) := ad_one (R := fun x e Q => onSome ((lstD e x).bind blsD) fun bs => Q (.bl (if false = true then bs.any (fun z => z) else bs.all (fun z => z))) e) fun Z e H x d Qd Q h r q k => by
  obtain ⟨bs, z, q⟩ := onSome_ex q
  obtain ⟨ds, h1, h2⟩ := Option.bind_eq_some_iff.mp z
  obtain ⟨a, vs, rfl, g, rl⟩ := lst_at h r h1
  exact ⟨a, bs, rfl, by rw [← bls_at rl h2]; exact SqL.of g, k _ H _ e .refl (.bl _) h q⟩
theorem ad_any {K : PySem.W.Frag} : AdC K (rAny K) (rAllD true) := ad_one (R := fun x e Q => onSome ((lstD e x).bind blsD) fun bs => Q (.bl (if true = true then bs.any (fun z => z) else bs.all (fun z => z))) e) fun Z e H x d Qd Q h r q k => by
  obtain ⟨bs, z, q⟩ := onSome_ex q
  obtain ⟨ds, h1, h2⟩ := Option.bind_eq_some_iff.mp z
  obtain ⟨a, vs, rfl, g, rl⟩ := lst_at h r h1
  exact ⟨a, bs, rfl, by rw [← bls_at rl h2]; exact SqL.of g, k _ H _ e .refl (.bl _) h q⟩
theorem d_all (hc : X.calm = true) (hg : Gl X "all") (hm : X.mg "all" = none) (ha : DA X [a] T) (he : starEach [a] X.env = (false, eval a X.env) :: starEach [] X.env := by rfl) : DE X (.Call (.Name "all" p) [a] [] pos) (dCall (rAllD false) T) :=
  d_callB (cr_all hc) ad_all hg hm PyProof.Rows.boot_all ha (he := he)
theorem d_any (hc : X.calm = true) (hg : Gl X "any") (hm : X.mg "any" = none) (ha : DA X [a] T) (he : starEach [a] X.env = (false, eval a X.env) :: starEach [] X.env := by rfl) : DE X (.Call (.Name "any" p) [a] [] pos) (dCall (rAllD true) T) :=
  d_callB (cr_any hc) ad_any hg hm PyProof.Rows.boot_any ha (he := he)
/-! sorted, dict -/
def intsD : List D → Option (List Int)
  | [] => some []
  | .int b :: r => (intsD r).map (b :: ·)
  | _ :: _ => none
@[simp] theorem intsD_map (l : List Int) : intsD (l.map D.int) = some l := by
  induction l with
  | nil => rfl
  | cons x l ih => rw [List.map_cons, intsD, ih]; rfl
@[simp] theorem intsD_map' (f : α → Int) (l : List α) : intsD (l.map fun x => D.int (f x)) = some (l.map f) := by
  induction l with
  | nil => rfl
  | cons x l ih => rw [List.map_cons, intsD, ih]; rfl
theorem ints_at {K : PySem.W.Frag} {Z : Addr → Prop} {e : Eta} {H : Hp} : ∀ {vs : List V} {ds : List D} {bs : List Int}, RepL K Z e H vs ds → intsD ds = some bs → vs = bs.map V.int
  | _, _, _, .nil, h => by cases h; rfl
  | _, _, _, .cons (d := d) a r, h => by
    cases a with
    | int b =>
      obtain ⟨c, hc, rfl⟩ := Option.map_eq_some_iff.mp (show (intsD _).map (b :: ·) = some _ from h)
      rw [ints_at r hc]; rfl
    | _ => cases h
def sortI (l : List Int) : List Int := l.mergeSort (fun a b => decide (a ≤ b))
theorem sortI_perm (l : List Int) : (sortI l).Perm l := List.mergeSort_perm l _
theorem sortI_sorted (l : List Int) : (sortI l).Pairwise (· ≤ ·) := by
  have h := List.pairwise_mergeSort (le := fun (a b : Int) => decide (a ≤ b)) (fun a b c h1 h2 => by simp at h1 h2 ⊢; omega) (fun a b => by simp; omega) l
  exact h.imp fun h => of_decide_eq_true h
theorem sortI_eq {l l' : List Int} (p : l'.Perm l) (s : l'.Pairwise (· ≤ ·)) : l' = sortI l :=
  (p.trans (sortI_perm l).symm).eq_of_pairwise (fun x y _ _ h1 h2 => Int.le_antisymm h1 h2) s (sortI_sorted l)
def keysI {α : Type} : List (Key × α) → Option (List Int)
  | [] => some []
  | (.inl b, _) :: r => (keysI r).map (b :: ·)
  | _ :: _ => none
theorem keysI_at {K : PySem.W.Frag} {Z : Addr → Prop} {e : Eta} {H : Hp} : ∀ {vs : List (Key × V)} {ds : List (Key × D)} {bs : List Int}, RepK K Z e H vs ds → keysI ds = some bs → vs.map (·.1) = bs.map Sum.inl
  | _, _, _, .nil, h => by cases h; rfl
  | _, _, _, .cons (k := k0) a r, h => by
    cases k0 with
    | inl b =>
      obtain ⟨c, hc, rfl⟩ := Option.map_eq_some_iff.mp (show (keysI _).map (b :: ·) = some _ from h)
      rw [List.map_cons, keysI_at r hc]; rfl
    | inr _ => cases h
def srtO : Option O → Option (List Int)
  | some (.lst ds) => intsD ds
  | some (.dic kvs) => (keysI kvs).bind fun ns => if ns.length < 64 then some ns else none
  | _ => none
def srtD (e : Eta) : D → Option (List Int)
  | .lst ds => intsD ds
  | .ref p => srtO (e p)
  | _ => none
@[simp] def rSortD (c : Bool) : RC := fun xs e Q => one xs fun x => onSome (srtD e x) fun ns => newQ c ((sortI ns).map D.int) e Q
abbrev vSort (K : PySem.W.Frag) : List V → Hp → VK → Prop := fun xs H Q => rSortedI K xs H Q ∨ (∃ (a : Addr) (kvs : List (Key × V)) (ks : List Int), xs = [.ref a] ∧ Rd H a (.dK kvs) ∧ kvs.map (·.1) = ks.map Sum.inl ∧ ks.length < 64 ∧
    ∀ (ys : List Int) (p : Addr), ys.Perm ks → ys.Pairwise (· ≤ ·) → H p = none → Q (.ref p) (upd H p (.lst (ys.map V.int))))
theorem ad_sort {K : PySem.W.Frag} {c : Bool} : AdC K (vSort K) (rSortD c) := ad_one (R := fun x e Q => onSome (srtD e x) fun ns => newQ c ((sortI ns).map D.int) e Q) fun Z e H x d Qd Q h r q k => by
  obtain ⟨ns, z, q1⟩ := onSome_ex q
  clear q
  have nw : ∀ {p : Addr} {vs : List V} {ds : List D}, H p = some (.lst vs) → RepL K Z e H vs ds → intsD ds = some ns → vSort K [.ref p] H Q := fun {p vs ds} g r hi => by
    refine .inl ⟨p, ns, rfl, by rw [← ints_at r hi]; exact SqL.of g, fun ns' p pm so hp => ?_⟩
    rw [sortI_eq pm so]
    exact new_or h hp (RepL.ints _) q1 k
  cases r with
  | lst f r => exact nw f.2.2 r z
  | ref p =>
    have z : srtO (e p) = some ns := z
    cases hp : e p with
    | none => rw [hp] at z; cases z
    | some o =>
      rw [hp] at z
      obtain g := h.cell _ _ hp
      cases o with
      | lst ds => obtain ⟨vs, g1, g2⟩ := g; exact nw g1 g2 z
      | dic kvs =>
        obtain ⟨vs, g1, g2⟩ := g
        obtain ⟨ns', hk, z2⟩ := Option.bind_eq_some_iff.mp z
        split at z2
        · rename_i hl
          cases z2
          refine .inr ⟨p, vs, _, rfl, Rd.of g1, keysI_at g2 hk, hl, fun ys l pm so hl => ?_⟩
          rw [sortI_eq pm so]
          exact new_or h hl (RepL.ints _) q1 k
        · cases z2
      | ins C fs => cases z
      | lck _ _ _ => cases z
      | dT _ => cases z
  | _ => cases z
theorem d_sorted (c : Bool) (hc : X.calm = true) (hg : Gl X "sorted") (hm : X.mg "sorted" = none) (ha : DA X [a] T) (he : starEach [a] X.env = (false, eval a X.env) :: starEach [] X.env := by rfl) : DE X (.Call (.Name "sorted" p) [a] [] pos) (dCall (rSortD c) T) :=
  d_callB (cr_sortedI.or (call_sortedDI hc)) ad_sort hg hm PyProof.Rows.boot_sorted ha (he := he)
/-! isinstance -/
def tyO : Option O → Option String
  | some (.lst _) => some "list"
  | some (.dic _) => some "dict"
  | _ => none
def tyD (e : Eta) : D → Option String
  | .non => some "NoneType"
  | .bl _ => some "bool"
  | .int _ => some "int"
  | .str _ => some "str"
  | .tup _ => some "tuple"
  | .lst _ => some "list"
  | .ref p => tyO (e p)
  | .dic _ => some "dict"
  | _ => none
@[simp] def dIsi (Ty : String) (A : TD) (dl : Sd) (e : Eta) (Q : D → Eta → Prop) : Prop := A dl e fun x e1 => onSome ((tyD e1 x).bind fun t => kitB t Ty) fun b => Q (.bl b) e1
theorem ty_at {K : PySem.W.Frag} {Z : Addr → Prop} {e : Eta} {H : Hp} (h : HRel K Z e H) {x : V} {d : D} {t : String} (r : Rep K Z e H x d) (q : tyD e d = some t) : TyX K H x (.type t) := by
  cases r with
  | non => cases q; exact .base .non
  | bl b => cases q; exact .base (.bl b)
  | int i => cases q; exact .base (.int i)
  | str z => cases q; exact .base (.str z)
  | tup f r => cases q; exact .base (.tup f.2.2)
  | lst f r => cases q; exact .base (.lst f.2.2)
  | ref p =>
    have q : tyO (e p) = some t := q
    cases hp : e p with
    | none => rw [hp] at q; cases q
    | some o =>
      rw [hp] at q
      cases o with
      | lst ds => cases q; obtain ⟨vs, g1, g2⟩ := h.cell _ _ hp; exact .base (.lst g1)
      | dic ds => cases q; obtain ⟨vs, g1, g2⟩ := h.cell _ _ hp; exact .base (.dK g1)
      | ins C fs => cases q
      | lck _ _ _ => cases q
      | dT _ => cases q
  | dic f n r => cases q; exact .base (.dK f.2.2)
  | _ => cases q
theorem d_isi {c : Expr} (Ty : String) (hg : Gl X "isinstance") (hm : X.mg "isinstance" = none) (ha : DE X a A) (hc : PE X c (tC (.ty Ty))) (he : starEach [a, c] X.env = (false, eval a X.env) :: starEach [c] X.env := by rfl) (he2 : starEach [c] X.env = (false, eval c X.env) :: starEach [] X.env := by rfl)
    (hpl : (backTo pos (starEach [c] X.env)).any (·.1) = false := by rfl) : DE X (.Call (.Name "isinstance" p) [a, c] [] pos) (dIsi Ty A) :=
  pe_imp (pe_callB call_isi hg hm PyProof.Rows.boot_isinstance (pa_cons ha (pa_cons hc pa_nil he2) he) (he := he) (hpl := hpl)) (by
    rintro sg H Q ⟨Z, dl, e, Qd, s, t, k⟩
    refine low.use s t fun v H1 d e1 x1 r1 h1 q1 => ?_
    obtain ⟨b, z, q1⟩ := onSome_ex q1
    obtain ⟨t, h2, h3⟩ := Option.bind_eq_some_iff.mp z
    exact ⟨v, _, _, _, b, rfl, .ty Ty, ty_at h1 r1 h2, kit_ty h3, k _ H1 _ e1 x1 (.bl _) h1 q1⟩)
theorem d_tyname {x : Str} {Ty : String} (hg : Gl X x) (hm : X.mg x = none) (hv : bootBuiltins x = some (.type Ty)) (hn : x ≠ "__name__" := by decide) (hd : (x == ("__debug__" : Str)) = false := by decide) : PE X (.Name x pos) (tC (.ty Ty)) := pe_bltn hg hm hv rfl hn hd
end
end FL

set_option Elab.async false
set_option linter.all false
set_option maxRecDepth 100000
set_option maxHeartbeats 4000000
/-! a, b = a list or a tuple -/
namespace FL
open PySem PySem.Spec PyProof.Rows L2
open Sem (wp)
section
variable {prog : Program} {w : World} {A : Around} {E : Value → Shared → Prop} {s : Shared}
theorem draw_list {it t : Addr} {items : Array Value} (hne : t ≠ it) : ∀ (n i : Nat) (s : Shared) (Q : List Value → Shared → Prop), s.heap.IsListIter it t i → s.heap.IsList t items → i + n ≤ items.size →
    (∀ h' : Heap, h'.IsListIter it t (i + n) → Heap.SameBut it s.heap h' → Q ((items.toList.drop i).take n) { s with heap := h' }) → wpAny (model prog w) A (draw (.ref it) n) Q E s
  | 0, i, s, Q, hit, _, _, hQ => by
    show wpAny _ _ (pure []) Q E s
    exact wpAny_pure (by simpa using hQ s.heap hit (Heap.SameBut.refl ..))
  | n + 1, i, s, Q, hit, ht, hle, hQ => by
    have hlt : i < items.size := by omega
    show wpAny _ _ (pyNext (.ref it) >>= _) Q E s
    refine wpAny_bind (wpAny_pyNext_list_item hit ht (x := items[i]) (by simp [hlt]) fun h₁ hit₁ hs₁ => ?_)
    refine wpAny_bind (wpAny_holding (draw_list hne n (i + 1) _ _ hit₁ (ht.extBut hs₁.extBut hne) (by omega) fun h₂ hit₂ hs₂ => wpAny_pure ?_))
    have hd : items.toList.drop i = items[i] :: items.toList.drop (i + 1) := by simp [List.drop_eq_getElem_cons, hlt]
    have := hQ h₂ (by rw [show i + (n + 1) = i + 1 + n by omega]; exact hit₂) (hs₁.trans hs₂)
    rw [hd, List.take_succ_cons] at this
    exact this
theorem unpackItems_list {t : Addr} {items : Array Value} {Q : List Value → Shared → Prop} (hh : A.handled = none) (ht : s.heap.IsList t items)
    (hQ : ∀ h', Heap.ExtBut s.heap.objs.size s.heap h' → Q items.toList { s with heap := h' }) : wpAny (model prog w) A (unpackItems (.ref t) items.size none) Q E s := by
  have hlt : t ≠ s.heap.objs.size := by obtain ⟨o, ho, _⟩ := ht; exact Nat.ne_of_lt (Heap.lt_size ho)
  unfold unpackItems
  refine wpAny_bind ?_
  · unfold notIterableAtAll
    refine wpAny_bind (wpAny_specialOf ht.typeIs slot_list_iter.lookup ?_)
    refine wpAny_pure ?_
    simp only [Bool.false_eq_true, if_false]
    refine wpAny_bind (wpAny_holding (wpAny_pyIter_list ht ?_))
    refine wpAny_bind (wpAny_holding (draw_list hlt items.size 0 _ _ ⟨_, Heap.get?_push_size _ rfl, rfl, rfl⟩ (ht.push _) (by omega) fun h₁ hit₁ hs₁ => ?_))
    have hall : List.take items.size (List.drop 0 items.toList) = items.toList := by
      rw [List.drop_zero]; exact List.take_of_length_le (by simp)
    rw [hall]
    rw [if_neg (by simp)]
    have ht₁ : h₁.IsList t items := (ht.push _).extBut hs₁.extBut hlt
    refine wpAny_bind (wpAny_holding (wpAny_pyNext_list_end hh hit₁ ht₁ (by simp) fun h₂ he₂ => ?_))
    simp only [Option.isSome_none, Bool.false_eq_true, if_false]
    refine wpAny_pure (hQ h₂ fun b o hb e => he₂ b o hb (hs₁.extBut b o hb (Heap.get?_push_of_some _ e)))
theorem assign_Tuple_list {env : Env} {elts : List Expr} {x1} {pos : Pos} {t : Addr} {items : Array Value} {Q : Unit → Shared → Prop} (hh : A.handled = none) (ht : s.heap.IsList t items)
    (hn : (assignEach elts env).length = items.size) (hstar : (assignEach elts env).findIdx? (·.1) = none)
    (h : ∀ h', Heap.ExtBut s.heap.objs.size s.heap h' → wpAny (model prog w) A (assignInOrder ((assignEach elts env).map (·.2)) items.toList) Q E { s with heap := h' }) :
    wpAny (model prog w) A (assign (.Tuple elts x1 pos) env (.ref t)) Q E s := by
  rw [assign_Tuple]
  refine wpAny_bind (wpAny_standAt ?_)
  unfold unpack
  rw [hn, hstar]
  exact wpAny_bind (wpAny_holding (unpackItems_list hh ht h))
end
/-- (a, b, ..) = a tuple or a list of that length -/
def gSeqT (K : PySem.W.Frag) (n : Nat) (t : TGs) : TG := fun v σ H Q => ∃ a xs, v = .ref a ∧ (SqT K H a xs ∨ SqL K H a xs) ∧ xs.length = n ∧ t xs σ H Q
section
variable {X : Cx} {pos : Pos}
theorem pg_seqT {es : List Expr} {k : Nat} {t : TGs} {n : Nat} (hc : X.calm = true) (h : PGs X es t)
    (hn : (assignEach es X.env).length = n := by rfl) (hst : (assignEach es X.env).findIdx? (·.1) = none := by rfl) : PG X (.Tuple es k pos) (gSeqT X.K n t) := by
  refine ⟨fun pins s σ H v u Q I r hw => ?_⟩
  obtain ⟨a, xs, e1, hq, hl, hw⟩ := hw
  subst e1
  cases r
  rcases hq with hq | hq
  · obtain ⟨its, rv, ht, hz⟩ := I.tuple hq
    refine assign_Tuple_tuple (I.ok.hd hc) ht (by simp [hn, ← hl, rv.length]) hst fun h' hx => ?_
    have I1 : Inv X pins σ H { s with heap := h' } := I.kept (t' := s.toks) fun b o e => hx b o (Nat.ne_of_lt (Heap.lt_size e)) e
    exact h.run pins _ σ H xs _ Q I1 (by simpa using rv) hw
  · obtain ⟨its, rv, ⟨o, n0, ho, hcl, _, hd⟩, hz⟩ := I.list hq
    refine assign_Tuple_list (I.ok.hd hc) ⟨o, ho, hcl, n0, hd⟩ (by simp [hn, ← hl, rv.length]) hst fun h' hx => ?_
    have I1 : Inv X pins σ H { s with heap := h' } := I.kept (t' := s.toks) fun b o e => hx b o (Nat.ne_of_lt (Heap.lt_size e)) e
    exact h.run pins _ σ H xs _ Q I1 (by simpa using rv) hw
end
end FL

set_option Elab.async false
set_option linter.all false
set_option maxRecDepth 100000
set_option maxHeartbeats 4000000
/-! The layer's statements, loops, comprehensions, defs. -/
namespace FL
open PySem PySem.Spec PyProof.Rows L2

/-! ### what one forgets: cells become trees -/
mutual
inductive Vw (e e' : Eta) : D → D → Prop
  | refl (d : D) : Vw e e' d d
  | tup {ds ds' : List D} : VwL e e' ds ds' → Vw e e' (.tup ds) (.tup ds')
  | lst {ds ds' : List D} : VwL e e' ds ds' → Vw e e' (.lst ds) (.lst ds')
  | cell {p : Addr} {ds ds' : List D} : e p = some (.lst ds) → e' p = none → VwL e e' ds ds' → Vw e e' (.ref p) (.lst ds')
  | dcell {p : Addr} {ds ds' : List (Key × D)} : e p = some (.dic ds) → e' p = none → ds.map (·.1) = ds'.map (·.1) → VwL e e' (ds.map (·.2)) (ds'.map (·.2)) → Vw e e' (.ref p) (.dic ds')
  | icell {p : Addr} {C : Str} {ds ds' : List (Str × D)} : e p = some (.ins C ds) → e' p = none → ds.map (·.1) = ds'.map (·.1) → VwL e e' (ds.map (·.2)) (ds'.map (·.2)) → Vw e e' (.ref p) (.obj C ds')
inductive VwL (e e' : Eta) : List D → List D → Prop
  | nil : VwL e e' [] []
  | cons {d d' : D} {ds ds' : List D} : Vw e e' d d' → VwL e e' ds ds' → VwL e e' (d :: ds) (d' :: ds')
end
theorem VwL.refl {e e' : Eta} : ∀ ds : List D, VwL e e' ds ds
  | [] => .nil
  | d :: ds => .cons (.refl d) (VwL.refl ds)
def Sub (e' e : Eta) : Prop := ∀ p o, e' p = some o → e p = some o
theorem Sub.refl (e : Eta) : Sub e e := fun _ _ h => h
theorem Sub.trans {a b c : Eta} (h : Sub a b) (g : Sub b c) : Sub a c := fun p o q => g p o (h p o q)
/-- forgetting a fresh cell -/
theorem Sub.put {e : Eta} {p : Addr} {o : O} (h : e p = none) : Sub e (e.put p o) := fun q u hq => by rw [put_ne (ne_cell h hq)]; exact hq
theorem Sub.none {e e' : Eta} (s : Sub e' e) {p : Addr} (h : e p = none) : e' p = none := by
  cases q : e' p with
  | none => rfl
  | some o => rw [s p o q] at h; cases h
theorem Sub.put2 {e e' : Eta} (s : Sub e' e) (p : Addr) (o : O) : Sub (e'.put p o) (e.put p o) := fun q u hq => by
  by_cases h : q = p
  · subst h; rw [put_same] at hq ⊢; exact hq
  · rw [put_ne h] at hq ⊢; exact s q u hq
section
variable {K : PySem.W.Frag} {Z : Addr → Prop} {e e' : Eta} {H : Hp}
theorem Sub.ext (s : Sub e' e) : Ext e H e' H := fun _ _ h n => ⟨h, s.none n⟩
theorem HRel.sub (h : HRel K Z e H) (s : Sub e' e) : HRel K Z e' H :=
  ⟨fun p o q => (h.cell p o (s p o q)).move s.ext.move rfl, fun p z => ⟨s.none (h.hid p z).1, (h.hid p z).2⟩⟩
mutual
theorem Vw.rep (h : HRel K Z e H) (s : Sub e' e) : ∀ {d d' : D} {v : V}, Vw e e' d d' → Rep K Z e H v d → Rep K Z e' H v d'
  | _, _, _, .refl d, r => r.ext s.ext
  | _, _, _, .tup l, r => by
    cases r with
    | tup f r => exact .tup ⟨f.1, s.none f.2.1, f.2.2⟩ (VwL.rep h s l r)
  | _, _, _, .lst l, r => by
    cases r with
    | lst f r => exact .lst ⟨f.1, s.none f.2.1, f.2.2⟩ (VwL.rep h s l r)
  | _, _, _, .cell hp hn l, r => by
    cases r with
    | ref p =>
      obtain ⟨vs, g1, g2⟩ := h.cell _ _ hp
      refine .lst ⟨fun z => ?_, hn, g1⟩ (VwL.rep h s l g2)
      rw [(h.hid _ z).1] at hp; cases hp
  | _, _, _, .dcell hp hn hk l, r => by
    cases r with
    | ref p =>
      obtain ⟨vs, g1, g2⟩ := h.cell _ _ hp
      obtain ⟨n, q⟩ := g2.parts
      refine .dic ⟨fun z => ?_, hn, g1⟩ (n.trans hk) (VwL.rep h s l q)
      rw [(h.hid _ z).1] at hp; cases hp
  | _, _, _, .icell hp hn hk l, r => by
    cases r with
    | ref p =>
      obtain ⟨dx, vs, g1, g2⟩ := h.cell _ _ hp
      obtain ⟨n, q⟩ := g2.parts
      refine .obj ⟨fun z => ?_, hn, g1⟩ (n.trans hk) (VwL.rep h s l q)
      rw [(h.hid _ z).1] at hp; cases hp
theorem VwL.rep (h : HRel K Z e H) (s : Sub e' e) : ∀ {d d' : List D} {v : List V}, VwL e e' d d' → RepL K Z e H v d → RepL K Z e' H v d'
  | _, _, _, .nil, r => by cases r; exact .nil
  | _, _, _, .cons a l, r => by
    cases r with
    | cons b r => exact .cons (Vw.rep h s a b) (VwL.rep h s l r)
end
end
inductive VwS (e e' : Eta) : Sd → Sd → Prop
  | nil : VwS e e' [] []
  | drop {o : Option D} {r r' : Sd} : VwS e e' r r' → VwS e e' (o :: r) (none :: r')
  | cons {d d' : D} {r r' : Sd} : Vw e e' d d' → VwS e e' r r' → VwS e e' (some d :: r) (some d' :: r')
theorem VwS.refl {e e' : Eta} : ∀ r : Sd, VwS e e' r r
  | [] => .nil
  | none :: r => .drop (VwS.refl r)
  | some d :: r => .cons (.refl d) (VwS.refl r)
theorem VwS.len {e e' : Eta} : ∀ {r r' : Sd}, VwS e e' r r' → r.length = r'.length
  | _, _, .nil => rfl
  | _, _, .drop q => congrArg Nat.succ (VwS.len q)
  | _, _, .cons _ q => congrArg Nat.succ (VwS.len q)
theorem VwS.get {e e' : Eta} : ∀ {r r' : Sd}, VwS e e' r r' → ∀ (i : Nat) (d' : D), r'[i]? = some (some d') → ∃ d, r[i]? = some (some d) ∧ Vw e e' d d'
  | _, _, .nil, i, d', h => by simp at h
  | _, _, .drop q, 0, d', h => by simp at h
  | _, _, .drop q, i + 1, d', h => by
    obtain ⟨d, a, b⟩ := VwS.get q i d' (by simpa using h)
    exact ⟨d, by simpa using a, b⟩
  | _, _, .cons v q, 0, d', h => by simp at h; subst h; exact ⟨_, rfl, v⟩
  | _, _, .cons v q, i + 1, d', h => by
    obtain ⟨d, a, b⟩ := VwS.get q i d' (by simpa using h)
    exact ⟨d, by simpa using a, b⟩
theorem SRel.view {Y : Yx} {Z : Addr → Prop} {e e' : Eta} {H : Hp} {dl dl' : Sd} {sg : L2.St} (s : SRel Y Z e H dl sg) (b : Sub e' e) (v : VwS e e' dl dl') : SRel Y Z e' H dl' sg :=
  ⟨⟨v.len.symm.trans s.len, fun i d' q => let ⟨d, a, w⟩ := v.get i d' q; let ⟨x, g, r⟩ := s.get i d a; ⟨x, g, w.rep s.rel b r⟩, s.rel.sub b⟩, s.exc.ext b.ext⟩

/-! ### a def's promise -/
abbrev SpD := List D → Eta → (D → Eta → Prop) → Prop
def spOf (K : PySem.W.Frag) (sp : SpD) : Sp := fun vs H Q _ => ∃ (Z : Addr → Prop) (ds : List D) (e : Eta) (Qd : D → Eta → Prop), RepL K Z e H vs ds ∧ HRel K Z e H ∧ sp ds e Qd ∧
  ∀ v H' d e', Ext e H e' H' → Rep K Z e' H' v d → HRel K Z e' H' → Qd d e' → Q v H'
abbrev FnD (P : Program) (w : World) (K : PySem.W.Frag) (mg : Str → Option Value) (base : Heap) (k : Nat) (f : Addr) (fd : FuncData) (ps : List Str) (sp : SpD) : Prop := FnOk P w K mg base CX0 k f fd ps (spOf K sp)
section
variable {X : Cy} {a b c : Expr} {es : List Expr} {A B : TD} {T : TDs} {pos : Pos} {x : Str} {p : Pos}
theorem d_call {k : Nat} {f : Addr} {fd : FuncData} {ps : List Str} {sp : SpD} (F : FnD X.prog X.w X.K X.mg X.base k f fd ps sp) (hr : Room k X.A) (hg : Gl X x) (hm : X.mg x = some (.ref f)) (hk : PySem.W.keepIn X.K (.ref f) = true) (hb : Binds X.K fd ps [])
    (ha : DA X (a :: es) T) (hdb : (x == ("__debug__" : Str)) = false := by decide) (he : starEach (a :: es) X.env = (false, eval a X.env) :: starEach es X.env := by rfl) (hpl : (backTo pos (starEach es X.env)).any (·.1) = false := by rfl) :
    DE X (.Call (.Name x p) (a :: es) [] pos) (dCall sp T) := pe_imp (pe_call F hr hg hm hk hb .nil pass0 ha hdb he hpl) (by
  rintro sg H Q ⟨Z, dl, e, Qd, s, t, k⟩
  refine lows.use s t fun vs H1 ds e1 x1 r1 h1 q1 => ?_
  rw [List.append_nil]
  exact ⟨Z, ds, e1, Qd, r1, h1, q1, fun v H' d e' x2 r2 h2 q2 => k v H' d e' (x1.trans x2) r2 h2 q2⟩)
/-- a value's cells become trees -/
@[simp] def dView (A : TD) (dl : Sd) (e : Eta) (Q : D → Eta → Prop) : Prop := A dl e fun d e1 => ∃ d' e', Sub e' e1 ∧ Vw e1 e' d d' ∧ Q d' e'
theorem d_view (ha : DE X a A) : DE X a (dView A) := pe_imp ha (by
  rintro sg H Q ⟨Z, dl, e, Qd, s, t, k⟩
  refine low.use s t fun v H1 d e1 x1 r1 h1 ⟨d', e', b, w, q⟩ => ?_
  exact k v H1 d' e' (x1.trans b.ext) (w.rep h1 b r1) (h1.sub b) q)

/-! ### blocks, small statements -/
@[simp] def dSeq (T U : TSD) (E : EndsD) (dl : Sd) (e : Eta) : Prop := T { E with nx := U E } dl e
@[simp] def dNx (E : EndsD) (dl : Sd) (e : Eta) : Prop := E.nx dl e
variable {st : Stmt} {rest : List Stmt} {T' U : TSD}
theorem lowS.go {Y : Yx} {T : TSD} {E : EndsD} {Z : Addr → Prop} {e e1 : Eta} {H H1 : Hp} {F : Ends} {dl : Sd} {sg : L2.St} (k : EndsR Y Z e H E F) (x1 : Ext e H e1 H1) (s1 : SRel Y Z e1 H1 dl sg) (q : T E dl e1) : lowS Y T F sg H1 := ⟨Z, dl, e1, E, s1, q, k.ext x1⟩
theorem dss_nil : DSs X [] dNx := pss_imp pss_nil (by
  rintro F sg H ⟨Z, dl, e, E, s, t, k⟩
  exact k.nx dl e sg H .refl s t)
theorem dss_cons (h1 : DS X st T') (h2 : DSs X rest U) : DSs X (st :: rest) (dSeq T' U) := pss_imp (pss_cons h1 h2) (by
  rintro F sg H ⟨Z, dl, e, E, s, t, k⟩
  exact ⟨Z, dl, e, _, s, t, ⟨fun dl' e' sg' H' x1 s1 q => lowS.go k x1 s1 q, k.rt, k.bk, k.ct⟩⟩)
theorem dss_one (h1 : DS X st T') : DSs X [st] T' := pss_one h1
/-- ahead of a block -/
def dViewS (T : TSD) (E : EndsD) (dl : Sd) (e : Eta) : Prop := ∃ dl' e', Sub e' e ∧ VwS e e' dl dl' ∧ T E dl' e'
theorem dss_view (h1 : DSs X rest T') : DSs X rest (dViewS T') := pss_imp h1 (by
  rintro F sg H ⟨Z, dl, e, E, s, ⟨dl', e', b, v, t⟩, k⟩
  exact ⟨Z, dl', e', E, s.view b v, t, k.ext b.ext⟩)
theorem ds_pass : DS X (.Pass pos) dNx := ps_imp ps_pass (by
  rintro F sg H ⟨Z, dl, e, E, s, t, k⟩
  exact k.nx dl e sg H .refl s t)
theorem ds_doc {z j pos pos'} : DS X (.Expr (.Constant (.str z) j pos) pos') dNx := ps_imp ps_doc (by
  rintro F sg H ⟨Z, dl, e, E, s, t, k⟩
  exact k.nx dl e sg H .refl s t)
@[simp] def dBk (E : EndsD) (dl : Sd) (e : Eta) : Prop := E.bk dl e
@[simp] def dCt (E : EndsD) (dl : Sd) (e : Eta) : Prop := E.ct dl e
theorem ds_break : DS X (.Break pos) dBk := ps_imp ps_break (by
  rintro F sg H ⟨Z, dl, e, E, s, t, k⟩
  exact k.bk dl e sg H .refl s t)
theorem ds_continue : DS X (.Continue pos) dCt := ps_imp ps_continue (by
  rintro F sg H ⟨Z, dl, e, E, s, t, k⟩
  exact k.ct dl e sg H .refl s t)
@[simp] def dExp (A : TD) (E : EndsD) (dl : Sd) (e : Eta) : Prop := A dl e fun _ e1 => E.nx dl e1
theorem ds_expr (ha : DE X a A) (hs : swapsWith a none pos.line X.env = pure false := by rfl) : DS X (.Expr a pos) (dExp A) := ps_imp (ps_expr ha hs) (by
  rintro F sg H ⟨Z, dl, e, E, s, t, k⟩
  exact low.use s t fun v H1 d e1 x1 r1 h1 q => k.nx dl e1 sg H1 x1 (s.ext x1 h1) q)
@[simp] def dRet (A : TD) (E : EndsD) (dl : Sd) (e : Eta) : Prop := A dl e E.rt
theorem ds_ret (ha : DE X a A) : DS X (.Return (some a) pos) (dRet A) := ps_imp (ps_ret ha) (by
  rintro F sg H ⟨Z, dl, e, E, s, t, k⟩
  exact low.use s t fun v H1 d e1 x1 r1 h1 q => k.rt d e1 v H1 x1 r1 h1 q)
@[simp] def dRetN (E : EndsD) (dl : Sd) (e : Eta) : Prop := E.rt .non e
theorem ds_retN : DS X (.Return none pos) dRetN := ps_imp ps_retN (by
  rintro F sg H ⟨Z, dl, e, E, s, t, k⟩
  exact k.rt .non e .non H .refl .non s.rel t)
@[simp] def dIfS (C : TDb) (T U : TSD) (E : EndsD) (dl : Sd) (e : Eta) : Prop := C dl e fun b e1 => if b = true then T E dl e1 else U E dl e1
theorem ds_if {C : TDb} {st1 st2 : List Stmt} (hc : DT X c C) (ha : DSs X st1 T') (hb : DSs X st2 U) : DS X (.If c st1 st2 pos) (dIfS C T' U) := ps_imp (ps_if hc ha hb) (by
  rintro F sg H ⟨Z, dl, e, E, s, t, k⟩
  refine lowb.use s t fun b H1 e1 x1 h1 q => ?_
  cases b with
  | true => rw [if_pos rfl] at q ⊢; exact lowS.go k x1 (s.ext x1 h1) q
  | false => rw [if_neg Bool.false_ne_true] at q ⊢; exact lowS.go k x1 (s.ext x1 h1) q)

/-! ### targets -/
inductive GT where
  | one (i : Nat)
  | many (is : List Nat)
@[simp] def setAll : List Nat → List D → Sd → Option Sd
  | [], [], dl => some dl
  | i :: is, d :: ds, dl => setAll is ds (dl.set i (some d))
  | _, _, _ => none
def gtD : GT → D → Sd → Option Sd
  | .one i, d, dl => some (dl.set i (some d))
  | .many is, .tup ds, dl => setAll is ds dl
  | .many is, .lst ds, dl => setAll is ds dl
  | _, _, _ => none
def setAllV : List Nat → List V → L2.St → L2.St
  | i :: is, d :: ds, dl => setAllV is ds (dl.set i (some d))
  | _, _, dl => dl
def gsV : List Nat → TGs
  | [] => gNil
  | i :: is => gCons (gName i) (gsV is)
def gtV (K : PySem.W.Frag) : GT → TG
  | .one i => gName i
  | .many is => gSeqT K is.length (gsV is)
structure GTok (X : Cx) (tg : Expr) (g : GT) : Prop where
  pg : PG X tg (gtV X.K g)
structure GTsok (X : Cx) (tgs : List Expr) (is : List Nat) : Prop where
  pgs : PGs X tgs (gsV is)
theorem gt_one {i : Nat} {z : Str} (hN : X.N.Nodup) (hi : X.N[i]? = some z) (hx : Loc X.env.scope z) (hf : X.fn z = true ∨ X.env.scope.names.lookup z = some .local := by first | exact .inl rfl | exact .inr rfl | assumption) : GTok X (.Name z pos) (.one i) := ⟨pg_name hN hi hx hf⟩
theorem gts_nil : GTsok X [] [] := ⟨pgs_nil⟩
theorem gts_cons {tg : Expr} {tgs : List Expr} {i : Nat} {is : List Nat} (h1 : GTok X tg (.one i)) (h2 : GTsok X tgs is) (hs : (assignEach (tg :: tgs) X.env).map (·.2) = assign tg X.env :: (assignEach tgs X.env).map (·.2) := by rfl) : GTsok X (tg :: tgs) (i :: is) := ⟨pgs_cons h1.pg h2.pgs hs⟩
theorem gt_many {tgs : List Expr} {is : List Nat} {k : Nat} (hc : X.calm = true) (h : GTsok X tgs is) (hn : (assignEach tgs X.env).length = is.length := by rfl) (hst : (assignEach tgs X.env).findIdx? (·.1) = none := by rfl) : GTok X (.Tuple tgs k pos) (.many is) := ⟨pg_seqT hc h.pgs hn hst⟩
theorem gsV_go : ∀ (is : List Nat) (vs : List V) (sg : L2.St) (H : Hp) (Q : L2.St → Hp → Prop), vs.length = is.length → Q (setAllV is vs sg) H → gsV is vs sg H Q
  | [], [], _, _, _, _, q => ⟨rfl, q⟩
  | i :: is, v :: vs, sg, H, Q, h, q => ⟨v, vs, rfl, gsV_go is vs _ H Q (by simpa using h) q⟩
  | [], _ :: _, _, _, _, h, _ => by simp at h
  | _ :: _, [], _, _, _, h, _ => by simp at h
theorem setAll_rel {Y : Yx} {Z : Addr → Prop} {e : Eta} {H : Hp} : ∀ {is : List Nat} {ds : List D} {vs : List V} {dl dl' : Sd} {sg : L2.St}, SRel Y Z e H dl sg → RepL Y.K Z e H vs ds → setAll is ds dl = some dl' → vs.length = is.length ∧ SRel Y Z e H dl' (setAllV is vs sg)
  | [], [], _, dl, dl', sg, s, r, h => by cases r; cases h; exact ⟨rfl, s⟩
  | i :: is, d :: ds, _, dl, dl', sg, s, r, h => by
    cases r with
    | cons a r =>
      obtain ⟨h1, h2⟩ := setAll_rel (s.set i a) r (show setAll is ds (dl.set i (some d)) = some dl' from h)
      exact ⟨by simpa using h1, h2⟩
  | [], _ :: _, _, _, _, _, _, _, h => by cases h
  | _ :: _, [], _, _, _, _, _, _, h => by cases h
/-- the target is stored: what the slots are then -/
theorem gt_go {Y : Yx} {Z : Addr → Prop} {e : Eta} {H : Hp} {g : GT} {d : D} {v : V} {dl dl' : Sd} {sg : L2.St} (s : SRel Y Z e H dl sg) (r : Rep Y.K Z e H v d) (h : gtD g d dl = some dl') :
    ∃ sg', SRel Y Z e H dl' sg' ∧ (∀ is, (∀ i, (match g with | .one j => i = j | .many js => i ∈ js) → i ∈ is) → wipe sg' is = wipe sg is) ∧ ∀ Q : L2.St → Hp → Prop, Q sg' H → gtV Y.K g v sg H Q := by
  have wipe_set : ∀ (is : List Nat) (sg : L2.St) (i : Nat) (o : Option V), i ∈ is → wipe (sg.set i o) is = wipe sg is := by
    intro is
    induction is with
    | nil => intro sg i o h; cases h
    | cons j is ih =>
      intro sg i o h
      show (wipe (sg.set i o) is).set j none = (wipe sg is).set j none
      by_cases hm : i ∈ is
      · rw [ih sg i o hm]
      · have e1 : i = j := by
          rcases List.mem_cons.mp h with z | z
          · exact z
          · exact absurd z hm
        subst e1
        have comm : ∀ (is : List Nat) (sg : L2.St), i ∉ is → wipe (sg.set i o) is = (wipe sg is).set i o := by
          intro is
          induction is with
          | nil => intro sg _; rfl
          | cons k is ih2 =>
            intro sg hk
            show (wipe (sg.set i o) is).set k none = ((wipe sg is).set k none).set i o
            rw [ih2 sg (fun z => hk (List.mem_cons_of_mem _ z)), List.set_comm _ _ (fun (z : i = k) => hk (by rw [z]; exact List.mem_cons_self))]
        rw [comm is sg hm, List.set_set]
  cases g with
  | one i =>
    cases h
    exact ⟨_, s.set i r, fun is hi => wipe_set is sg i _ (hi i rfl), fun Q q => q⟩
  | many js =>
    have go : ∀ (is : List Nat), (∀ j ∈ js, j ∈ is) → ∀ (vs : List V) (sg : L2.St), wipe (setAllV js vs sg) is = wipe sg is := fun is hi => by
      have go : ∀ (js : List Nat) (vs : List V) (sg : L2.St), (∀ j ∈ js, j ∈ is) → wipe (setAllV js vs sg) is = wipe sg is := by
        intro js
        induction js with
        | nil => intro vs sg _; rfl
        | cons j js ih =>
          intro vs sg hj
          cases vs with
          | nil => rfl
          | cons v vs =>
            show wipe (setAllV js vs (sg.set j (some v))) is = _
            rw [ih vs _ (fun z hz => hj z (List.mem_cons_of_mem _ hz)), wipe_set is sg j _ (hj j List.mem_cons_self)]
      exact fun vs sg => go js vs sg hi
    cases r with
    | tup f rl =>
      obtain ⟨h1, h2⟩ := setAll_rel s rl (show setAll js _ dl = some dl' from h)
      exact ⟨_, h2, fun is hi => go is hi _ sg, fun Q q => ⟨_, _, rfl, .inl (SqT.of f.2.2), h1, gsV_go js _ _ _ Q h1 q⟩⟩
    | lst f rl =>
      obtain ⟨h1, h2⟩ := setAll_rel s rl (show setAll js _ dl = some dl' from h)
      exact ⟨_, h2, fun is hi => go is hi _ sg, fun Q q => ⟨_, _, rfl, .inr (SqL.of f.2.2), h1, gsV_go js _ _ _ Q h1 q⟩⟩
    | _ => cases h
/-- target = value -/
@[simp] def dAsg (A : TD) (g : GT) (E : EndsD) (dl : Sd) (e : Eta) : Prop := A dl e fun d e1 => onSome (gtD g d dl) fun dl' => E.nx dl' e1
theorem low_asg {Y : Yx} {g : GT} : ∀ F sg H, lowS Y (dAsg A g) F sg H → tAsg (low Y A) (gtV Y.K g) F sg H := by
  rintro F sg H ⟨Z, dl, e, E, s, t, k⟩
  refine low.use s t fun v H1 d e1 x1 r1 h1 q => ?_
  obtain ⟨dl', z, q⟩ := onSome_ex q
  obtain ⟨sg', s', _, go⟩ := gt_go (s.ext x1 h1) r1 z
  exact go _ (k.nx dl' e1 sg' H1 x1 s' q)
theorem ds_asg {tg : Expr} {g : GT} (ha : DE X a A) (hg : GTok X tg g) (hs : swapsWithSole [tg] a pos.line X.env = pure false := by rfl) (hw : swappedStores [tg] a X.env = pure none := by rfl)
    (h1 : (assignEach [tg] X.env).map (·.2) = [assign tg X.env] := by rfl) : DS X (.Assign [tg] a pos) (dAsg A g) := ps_imp (ps_asg ha hg.pg hs hw h1) low_asg
/-- name = value -/
theorem ds_set {i : Nat} {z : Str} {pos' : Pos} (hN : X.N.Nodup) (hi : X.N[i]? = some z) (hx : Loc X.env.scope z) (ha : DE X a A) (hs : swapsWith a (some (.Name z pos')) pos.line X.env = pure false := by rfl) (hf : X.fn z = true ∨ X.env.scope.names.lookup z = some .local := by first | exact .inl rfl | exact .inr rfl | assumption) :
    DS X (.Assign [.Name z pos'] a pos) (dAsg A (.one i)) := ps_imp (ps_set hN hi hx ha hs hf) low_asg
/-- name op= value -/
@[simp] def dAug (i : Nat) (A : TD) (R : RD) (E : EndsD) (dl : Sd) (e : Eta) : Prop := dVar i dl e fun d _ => A dl e fun y e1 => R d y e1 fun z e2 => E.nx (dl.set i (some z)) e2
theorem ds_aug {i : Nat} {z : Str} {op : Operator} {ti : TIp} {R : RD} {pos' : Pos} (hN : X.N.Nodup) (hi : X.N[i]? = some z) (hx : Loc X.env.scope z) (ha : DE X a A) (ho : PIp X op ti) (ad : AdR X.K ti R) (hf : X.fn z = true ∨ X.env.scope.names.lookup z = some .local := by first | exact .inl rfl | exact .inr rfl | assumption) :
    DS X (.AugAssign (.Name z pos') op a pos) (dAug i A R) := ps_imp (ps_aug hN hi hx ha ho hf) (by
  rintro F sg H ⟨Z, dl, e, E, s, t, k⟩
  unfold dAug dVar at t
  split at t
  · rename_i d hd
    obtain ⟨v, hv, r⟩ := s.get i d hd
    refine ⟨v, hv, low.use s t fun u H1 y e1 x1 r1 h1 q => ?_⟩
    exact ad Z e1 H1 v u d y _ _ h1 (r.ext x1) r1 q fun w H2 c e2 x2 r2 h2 q2 => k.nx _ e2 _ H2 (x1.trans x2) ((s.ext (x1.trans x2) h2).set i r2) q2
  · exact t.elim)
theorem ad_ipI {K : PySem.W.Frag} {f : Int → Int → Int} : AdR K (ipI f) (rInt0 fun i j => .int (f i j)) := by
  intro Z e H x y dx dy Qd Q h rx ry q k
  cases rx with
  | int i =>
    cases ry with
    | int j => exact ⟨i, j, rfl, rfl, k _ H _ e .refl (.int _) h q⟩
    | _ => exact q.elim
  | _ => exact q.elim
abbrev rAddI : RD := rInt0 fun i j => .int (i + j)
theorem ds_augAdd {i : Nat} {z : Str} {pos' : Pos} (hN : X.N.Nodup) (hi : X.N[i]? = some z) (hx : Loc X.env.scope z) (ha : DE X a A) (hf : X.fn z = true ∨ X.env.scope.names.lookup z = some .local := by first | exact .inl rfl | exact .inr rfl | assumption) : DS X (.AugAssign (.Name z pos') .Add a pos) (dAug i A rAddI) := ds_aug hN hi hx ha ip_add ad_ipI hf
theorem ds_augSub {i : Nat} {z : Str} {pos' : Pos} (hN : X.N.Nodup) (hi : X.N[i]? = some z) (hx : Loc X.env.scope z) (ha : DE X a A) (hf : X.fn z = true ∨ X.env.scope.names.lookup z = some .local := by first | exact .inl rfl | exact .inr rfl | assumption) : DS X (.AugAssign (.Name z pos') .Sub a pos) (dAug i A rSubD) := ds_aug hN hi hx ha ip_sub ad_ipI hf

/-! ### stores into a list, a dict -/
def stoL (e : Eta) (p : Addr) (ds : List D) (v : D) : D → Option Eta
  | .int i => (ixN ds.length i).map fun j => e.put p (.lst (ds.set j v))
  | _ => none
def stoC (e : Eta) (p : Addr) (y v : D) : Option O → Option Eta
  | some (.lst ds) => stoL e p ds v y
  | some (.dic kvs) => (keyD y).bind fun k => if kvs.length < sizeLine then some (e.put p (.dic (putD kvs k v))) else none
  | _ => none
def stoD (e : Eta) (y v : D) : D → Option Eta
  | .ref p => stoC e p y v (e p)
  | _ => none
def rSetA : V → V → V → Hp → (Hp → Prop) → Prop := fun o i v H Q => rSetL o i v H Q ∨ ∃ a H', o = .ref a ∧ DPut H a i v H' ∧ Q H'
theorem set_any (hu : X.A.units + 1 < cLine) : PSet X rSetA := by
  intro pins s sg H o i v ov iv u Q I ro ri ru h
  rcases h with h | ⟨q, H', rfl, g, h⟩
  · exact set_list pins s sg H o i v ov iv u Q I ro ri ru h
  · obtain rfl : ov = Value.ref q := ro
    exact d_setItem hu I g ri ru fun s4 I4 => ⟨H', I4, h⟩
theorem sto_at {K : PySem.W.Frag} {Z : Addr → Prop} {e e' : Eta} {H : Hp} (h : HRel K Z e H) {o i v : V} {x y d : D} {Q : Hp → Prop} (ro : Rep K Z e H o x) (ri : Rep K Z e H i y) (rv : Rep K Z e H v d) (q : stoD e y d x = some e')
    (k : ∀ H', Ext e H e' H' → HRel K Z e' H' → Q H') : rSetA o i v H Q := by
  cases ro with
  | ref p =>
    have q : stoC e p y d (e p) = some e' := q
    cases hp : e p with
    | none => rw [hp] at q; cases q
    | some ob =>
      rw [hp] at q
      cases ob with
      | lst ds =>
        obtain ⟨vs, g1, g2⟩ := h.cell _ _ hp
        cases ri with
        | int n =>
          obtain ⟨j, hj, rfl⟩ := Option.map_eq_some_iff.mp q
          obtain ⟨x1, x2⟩ := Rep.set_cell h hp (g2.set rv j)
          exact .inl ⟨p, vs, n, j, rfl, rfl, g1, by rw [g2.length]; exact hj, k _ x1 x2⟩
        | _ => cases q
      | dic kvs =>
        obtain ⟨vs, g1, g2⟩ := h.cell _ _ hp
        obtain ⟨kk, hk, q2⟩ := Option.bind_eq_some_iff.mp q
        split at q2
        · rename_i hl
          cases q2
          obtain ⟨x1, x2⟩ := Rep.set_dic h hp (g2.put rv kk)
          refine .inr ⟨p, _, rfl, ?_, k _ x1 x2⟩
          rw [keyD_at ri hk, ← putD_eq]
          exact DPut.k g1 (by rw [g2.length]; exact hl)
        · cases q2
      | ins C fs => cases q
      | lck _ _ _ => cases q
      | dT _ => cases q
  | _ => cases q
@[simp] def dSto (B C A : TD) (E : EndsD) (dl : Sd) (e : Eta) : Prop := A dl e fun d e1 => B dl e1 fun x e2 => C dl e2 fun y e3 => onSome (stoD e3 y d x) fun e' => E.nx dl e'
theorem ds_sto {C : TD} {p2 : Pos} (hu : X.A.units + 64 < cLine) (hb : DE X b B) (hc : DE X c C) (ha : DE X a A) (hs : swapsWithSole [.Subscript b c p2] a pos.line X.env = pure false := by rfl) (hw : swappedStores [.Subscript b c p2] a X.env = pure none := by rfl)
    (h1 : (assignEach [.Subscript b c p2] X.env).map (·.2) = [assign (.Subscript b c p2) X.env] := by rfl)
    (hsub : ∀ v, assign (.Subscript b c p2) X.env v = (do
      let ov ← holding [v] (eval b X.env)
      let iv ← holding [v, ov] (eval c X.env)
      standAt p2
      holding [v, ov, iv] (setItem ov iv v)
      release [v, ov, iv] []) := by intro _; rfl) : DS X (.Assign [.Subscript b c p2] a pos) (dSto B C A) :=
  ps_imp (ps_asg ha (pg_sub hb hc (set_any (Nat.lt_of_le_of_lt (Nat.add_le_add_left (by decide) _) hu)) hsub) hs hw h1) (by
    rintro F sg H ⟨Z, dl, e, E, s, t, k⟩
    refine low.use s t fun v H1 d e1 x1 r1 h1 q => low.use (s.ext x1 h1) q fun o H2 x e2 x2 r2 h2 q2 => low.use (s.ext (x1.trans x2) h2) q2 fun i H3 y e3 x3 r3 h3 q3 => ?_
    obtain ⟨e', z, q3⟩ := onSome_ex q3
    refine sto_at h3 (r2.ext x3) r3 (r1.ext (x2.trans x3)) z fun H' x4 h4 => ?_
    have xx := x1.trans (x2.trans (x3.trans x4))
    exact k.nx dl e' sg H' xx (s.ext xx h4) q3)
/-! o[i] op= e -/
def rGetA (K : PySem.W.Frag) : V → V → Hp → VK → Prop := fun o i H Q => rIxL K o i H Q ∨ rDIx o i H Q
theorem get_any (hu : X.A.units + 1 < cLine) : PGet X (rGetA X.K) := by
  intro pins s sg H x y v u Q I rx ry h
  rcases h with h | ⟨q, w, rfl, g, h⟩
  · obtain ⟨p, xs, i, z, rfl, rfl, hq, he, q⟩ := h
    cases rx
    obtain ⟨t, rfl⟩ := ry
    obtain ⟨its, r, pl, hz⟩ := I.list hq
    obtain ⟨j, h1, h2, h3, h4, h5⟩ := atI_get he
    obtain ⟨w, ew, rw'⟩ := r.get h2
    have hl := r.length
    have hn := line63
    have fin : EP X pins sg Q w s := ⟨z, H, I, rw', q⟩
    by_cases h0 : 0 ≤ i
    · have hj : i.toNat = j := by
        rw [seqIndex_of h0 h5] at h1
        exact Option.some.inj h1
      exact wpAny_getItem_list pl.isList h0 (by omega) (by rw [hj]; simpa using ew) fin
    · have hj : (i + (its.toArray.size : Int)).toNat = j := by
        rw [seqIndex_neg (by omega) h4] at h1
        rw [List.size_toArray, ← hl]
        exact Option.some.inj h1
      exact wpAny_getItem_list_neg pl.isList (by omega) (by rw [List.size_toArray] <;> omega) (by omega) (by rw [hj]; simpa using ew) fin
  · obtain rfl : v = Value.ref q := rx
    exact d_getItem hu I g ry fun w' s3 I3 rw' => ⟨w, H, I3, rw', h⟩
theorem get_at {K : PySem.W.Frag} {Z : Addr → Prop} {e : Eta} {H : Hp} (h : HRel K Z e H) {o i : V} {p : Addr} {y d : D} {Q : VK} (ro : Rep K Z e H o (.ref p)) (ri : Rep K Z e H i y) (q : idxD e (.ref p) y = some d)
    (k : ∀ v, Rep K Z e H v d → Q v H) : rGetA K o i H Q := by
  cases ro
  rw [idxD_ref] at q
  cases hp : e p with
  | none => rw [hp] at q; cases q
  | some ob =>
    rw [hp] at q
    cases ob with
    | lst ds =>
      obtain ⟨vs, g1, g2⟩ := h.cell _ _ hp
      cases ri with
      | int n =>
        obtain ⟨v, h1, h2⟩ := g2.atI (show atI ds n = some d from q)
        exact .inl ⟨p, vs, n, v, rfl, rfl, SqL.of g1, h1, k v h2⟩
      | _ => cases q
    | dic kvs =>
      obtain ⟨vs, g1, g2⟩ := h.cell _ _ hp
      obtain ⟨kk, hk, hv⟩ := Option.bind_eq_some_iff.mp (show (keyD y).bind (fun k => vD kvs k) = some d from q)
      rcases g2.val kk with ⟨z1, z2⟩ | ⟨v, d', z1, z2, z3⟩
      · rw [z1] at hv; cases hv
      · rw [z1] at hv; cases hv
        refine .inr ⟨p, v, rfl, ?_, k v z3⟩
        rw [keyD_at ri hk, show (some v) = valV vs kk from by rw [vD_eq, z2]]
        exact DGet.k g1
    | ins C fs => cases q
    | lck od vs kvs =>
      obtain ⟨g1, g2⟩ := h.cell _ _ hp
      obtain ⟨kk, hk, hv⟩ := Option.bind_eq_some_iff.mp (show (keyD y).bind (fun k => vD kvs k) = some d from q)
      rcases g2.val kk with ⟨z1, z2⟩ | ⟨v, d', z1, z2, z3⟩
      · rw [z1] at hv; cases hv
      · rw [z1] at hv; cases hv
        refine .inr ⟨p, v, rfl, ?_, k v z3⟩
        rw [keyD_at ri hk, show (some v) = valV vs kk from by rw [vD_eq, z2]]
        exact .inl ⟨vs, kk, .inr ⟨od, g1⟩, rfl, rfl⟩
    | dT _ => cases q
def onR : D → (Addr → Prop) → Prop
  | .ref p, Q => Q p
  | _, _ => False
@[simp] def dAugS (B C A : TD) (R : RD) (E : EndsD) (dl : Sd) (e : Eta) : Prop := B dl e fun x e1 => C dl e1 fun y e2 => onR x fun p => onSome (idxC (e2 p) y) fun d => A dl e2 fun z e3 => R d z e3 fun w e4 => onSome (stoC e4 p y w (e4 p)) fun e' => E.nx dl e'
theorem ds_augS {C : TD} {op : Operator} {ti : TIp} {R : RD} {p2 : Pos} (hu : X.A.units + 64 < cLine) (hb : DE X b B) (hc : DE X c C) (ha : DE X a A) (ho : PIp X op ti) (ad : AdR X.K ti R)
    (hst : ∀ ov iv new, augStore c ov iv new = (do holding [new, ov, iv] (setItem ov iv new); release [new, ov, iv] []; pure .next) := by intros; rfl) : DS X (.AugAssign (.Subscript b c p2) op a pos) (dAugS B C A R) :=
  ps_imp (ps_augS hb hc (get_any (Nat.lt_of_le_of_lt (Nat.add_le_add_left (by decide) _) hu)) ha ho (set_any (Nat.lt_of_le_of_lt (Nat.add_le_add_left (by decide) _) hu)) hst) (by
    rintro F sg H ⟨Z, dl, e, E, s, t, k⟩
    refine low.use s t fun o H1 x e1 x1 r1 h1 q => low.use (s.ext x1 h1) q fun i H2 y e2 x2 r2 h2 q2 => ?_
    cases r1 with
    | ref p =>
      obtain ⟨d, z, q2⟩ := onSome_ex (show onSome (idxC (e2 p) y) _ from q2)
      refine get_at h2 (.ref p) r2 (by rw [idxD_ref]; exact z) fun v rv => low.use (s.ext (x1.trans x2) h2) q2 fun u H3 c e3 x3 r3 h3 q3 => ?_
      refine ad Z e3 H3 v u d c _ _ h3 (rv.ext x3) r3 q3 fun w H4 f e4 x4 r4 h4 q4 => ?_
      obtain ⟨e', z2, q4⟩ := onSome_ex q4
      refine sto_at h4 (.ref p) (r2.ext (x3.trans x4)) r4 (show stoD e4 y f (.ref p) = some e' from z2) fun H' x5 h5 => ?_
      have xx := x1.trans (x2.trans (x3.trans (x4.trans x5)))
      exact k.nx dl e' sg H' xx (s.ext xx h5) q4
    | _ => exact q2.elim)
theorem ds_augSAdd {C : TD} {p2 : Pos} (hu : X.A.units + 64 < cLine) (hb : DE X b B) (hc : DE X c C) (ha : DE X a A) (hst : ∀ ov iv new, augStore c ov iv new = (do holding [new, ov, iv] (setItem ov iv new); release [new, ov, iv] []; pure .next) := by intros; rfl) : DS X (.AugAssign (.Subscript b c p2) .Add a pos) (dAugS B C A rAddI) := ds_augS hu hb hc ha ip_add ad_ipI hst
end
end FL

set_option Elab.async false
set_option linter.all false
set_option maxRecDepth 100000
set_option maxHeartbeats 4000000
/-! The layer's loops, comprehensions, methods, defs. -/
namespace FL
open PySem PySem.Spec PyProof.Rows L2 RZ

/-! ### what is walked -/
structure JOk (K : PySem.W.Frag) (J : It) (Z : Addr → Prop) (ds : List D) (C : Eta → Prop) (e0 : Eta) (H0 : Hp) : Prop where
  go : ∀ (i : Nat) (Z' : Addr → Prop) (e : Eta) (H : Hp), i < ds.length → Move K Z e0 H0 Z' e H → HRel K Z' e H → C e → J.go i H
  yld : ∀ (i : Nat) (Z' : Addr → Prop) (e : Eta) (H : Hp) (x : V) (H' : Hp), i < ds.length → Move K Z e0 H0 Z' e H → HRel K Z' e H → C e → J.yld i H x H' → ∃ d, ds[i]? = some d ∧ Ext e H e H' ∧ Rep K Z' e H' x d ∧ HRel K Z' e H'
  stop : ∀ (i : Nat) (Z' : Addr → Prop) (e : Eta) (H : Hp), ds.length ≤ i → Move K Z e0 H0 Z' e H → HRel K Z' e H → C e → J.stop i H
abbrev TID := Sd → Eta → (List D → (Eta → Prop) → Eta → Prop) → Prop
def lowI (Y : Yx) (T : TID) : L2.TI := fun sg H R => ∃ (Z : Addr → Prop) (dl : Sd) (e : Eta) (Qd : List D → (Eta → Prop) → Eta → Prop), SRel Y Z e H dl sg ∧ T dl e Qd ∧
  ∀ J H' ds C e', Ext e H e' H' → HRel Y.K Z e' H' → JOk Y.K J Z ds C e' H' → Qd ds C e' → R J H'
abbrev DI (X : Cy) (tg iter : Expr) (T : TID) : Prop := PI X tg iter (lowI X.Y T)
section
variable {X : Cy} {tg a b c : Expr} {es : List Expr} {A B : TD} {T : TDs} {pos : Pos} {x : Str} {p : Pos}
theorem pi_imp {iter : Expr} {t t' : L2.TI} (q : PI X tg iter t) (h : ∀ sg H R, t' sg H R → t sg H R) : PI X tg iter t' := by
  obtain ⟨run⟩ := q
  exact ⟨fun pins s sg H R I w => run pins s sg H R I (h _ _ _ w)⟩
/-- a list or a tuple, whichever it is -/
theorem pi_seq {l : Expr} {tl : TE} (hl : PE X l tl) : PI X tg l (fun sg H R => tl sg H fun x H1 => ∃ a, x = .ref a ∧ (((∃ xs, SqL X.K H1 a xs) ∧ R (Itl X.K a) H1) ∨ ((∃ xs, SqT X.K H1 a xs) ∧ R (Itt X.K a) H1))) := by
  refine ⟨fun pins s sg H R I h => ?_⟩
  refine thn (hl.run pins s sg H _ I h) fun v s1 ⟨x, H1, I1, r1, a, ex, q1⟩ => ?_
  subst ex
  cases r1
  have hp : ∀ b ∈ [s1.heap.objs.size], FpOk X pins H1 b := fun b hb => by
    rw [List.mem_singleton] at hb
    rw [hb]
    exact I1.fpOk (Nat.le_refl _) (I1.hok.fresh (Nat.le_refl _))
  rcases q1 with ⟨⟨xs, hq⟩, q⟩ | ⟨⟨xs, hq⟩, q⟩
  · obtain ⟨its, rv, pl, hz⟩ := I1.list hq
    exact wpAny_pyIter_list pl.isList ⟨_, [s1.heap.objs.size], _, _, H1, rfl, I1.kept (t' := s1.toks) fun b o ob => Heap.get?_push_of_some _ ob, turn_list a _, ⟨_, Heap.get?_push_size _ rfl, rfl, rfl⟩, hp, q⟩
  · obtain ⟨its, rv, pl, hz⟩ := I1.tuple hq
    exact wpAny_pyIter_tuple (show s1.heap.IsTuple a its.toArray from pl) ⟨_, [s1.heap.objs.size], _, _, H1, rfl, I1.kept (t' := s1.toks) fun b o ob => Heap.get?_push_of_some _ ob, turn_tuple a _, ⟨_, Heap.get?_push_size _ rfl, rfl, rfl⟩, hp, q⟩
/-- at each turn: the cell that is walked holds the same -/
def stayD : D → List D → Eta → Prop
  | .ref p, ds, e => e p = some (.lst ds)
  | _, _, _ => True
@[simp] def iSeq (A : TD) (dl : Sd) (e : Eta) (Q : List D → (Eta → Prop) → Eta → Prop) : Prop := A dl e fun x e1 => onSome (seqD e1 x) fun ds => Q ds (stayD x ds) e1
theorem jok_list {K : PySem.W.Frag} {Z : Addr → Prop} {a : Addr} {ds : List D} {C : Eta → Prop} {e0 : Eta} {H0 : Hp} (h : ∀ (Z' : Addr → Prop) (e : Eta) (H : Hp), Move K Z e0 H0 Z' e H → HRel K Z' e H → C e → ∃ vs, H a = some (.lst vs) ∧ RepL K Z' e H vs ds) : JOk K (Itl K a) Z ds C e0 H0 where
  go := fun i Z' e H hi m hr c => by
    obtain ⟨vs, g, r⟩ := h Z' e H m hr c
    have hv : i < vs.length := by rw [r.length]; exact hi
    exact ⟨vs, vs[i], SqL.of g, List.getElem?_eq_getElem hv⟩
  yld := fun i Z' e H x H' hi m hr c y => by
    obtain ⟨vs, g, r⟩ := h Z' e H m hr c
    obtain ⟨rfl, y⟩ := y
    obtain ⟨d, h1, h2⟩ := r.get' (y vs (SqL.of g))
    exact ⟨d, h1, .refl, h2, hr⟩
  stop := fun i Z' e H hi m hr c => by
    obtain ⟨vs, g, r⟩ := h Z' e H m hr c
    exact ⟨vs, SqL.of g, by rw [r.length]; exact hi⟩
theorem jok_tup {K : PySem.W.Frag} {Z : Addr → Prop} {a : Addr} {ds : List D} {C : Eta → Prop} {e0 : Eta} {H0 : Hp} (h : ∀ (Z' : Addr → Prop) (e : Eta) (H : Hp), Move K Z e0 H0 Z' e H → HRel K Z' e H → C e → ∃ vs, H a = some (.tup vs) ∧ RepL K Z' e H vs ds) : JOk K (Itt K a) Z ds C e0 H0 where
  go := fun i Z' e H hi m hr c => by
    obtain ⟨vs, g, r⟩ := h Z' e H m hr c
    have hv : i < vs.length := by rw [r.length]; exact hi
    exact ⟨vs, vs[i], SqT.of g, List.getElem?_eq_getElem hv⟩
  yld := fun i Z' e H x H' hi m hr c y => by
    obtain ⟨vs, g, r⟩ := h Z' e H m hr c
    obtain ⟨rfl, y⟩ := y
    obtain ⟨d, h1, h2⟩ := r.get' (y vs (SqT.of g))
    exact ⟨d, h1, .refl, h2, hr⟩
  stop := fun i Z' e H hi m hr c => by
    obtain ⟨vs, g, r⟩ := h Z' e H m hr c
    exact ⟨vs, SqT.of g, by rw [r.length]; exact hi⟩
/-- a list as it stands at each later turn -/
theorem list_stays {K : PySem.W.Frag} {Z : Addr → Prop} {e0 : Eta} {H0 : Hp} {v : V} {d : D} {ds : List D} (r : Rep K Z e0 H0 v d) (q : lstD e0 d = some ds) (hr : HRel K Z e0 H0) : ∃ a, v = .ref a ∧ (∃ vs, H0 a = some (.lst vs)) ∧
    ∀ (Z' : Addr → Prop) (e : Eta) (H : Hp), Move K Z e0 H0 Z' e H → HRel K Z' e H → stayD d ds e → ∃ vs, H a = some (.lst vs) ∧ RepL K Z' e H vs ds := by
  cases r with
  | lst f r =>
    cases q
    exact ⟨_, rfl, ⟨_, f.2.2⟩, fun Z' e H m h c => ⟨_, (m.go _ _ f.1 f.2.1 f.2.2).1, r.move m⟩⟩
  | ref p =>
    obtain ⟨vs, g1, g2⟩ := hr.cell _ _ (lst_ref q)
    exact ⟨p, rfl, ⟨_, g1⟩, fun Z' e H m h c => h.cell _ _ c⟩
  | _ => cases q
theorem di_seq (ha : DE X a A) : DI X tg a (iSeq A) := pi_imp (pi_seq ha) (by
  rintro sg H R ⟨Z, dl, e, Qd, s, t, k⟩
  refine low.use s t fun v H1 d e1 x1 r1 h1 q1 => ?_
  · obtain ⟨ds, z, q1⟩ := onSome_ex q1
    have lst : lstD e1 d = some ds → ∃ a, v = .ref a ∧ (((∃ xs, SqL X.K H1 a xs) ∧ R (Itl X.K a) H1) ∨ ((∃ xs, SqT X.K H1 a xs) ∧ R (Itt X.K a) H1)) := fun zl => by
      obtain ⟨a, ev, ⟨vs, g⟩, st⟩ := list_stays r1 zl h1
      exact ⟨a, ev, .inl ⟨⟨vs, SqL.of g⟩, k _ H1 ds _ e1 x1 h1 (jok_list st) q1⟩⟩
    cases r1 with
    | lst f r => exact lst z
    | ref q => exact lst z
    | tup f r =>
      cases z
      exact ⟨_, rfl, .inr ⟨⟨_, SqT.of f.2.2⟩, k _ H1 _ _ e1 x1 h1 (jok_tup fun Z' e H m h c => ⟨_, (m.go _ _ f.1 f.2.1 f.2.2).1, r.move m⟩) q1⟩⟩
    | _ => cases z)
/-! ranges -/
def rngD (lo : Int) (n : Nat) : List D := (List.range n).map fun (i : Nat) => D.int (lo + (i : Int))
theorem rngD_length (lo : Int) (n : Nat) : (rngD lo n).length = n := by unfold rngD; rw [List.length_map, List.length_range]
theorem rngD_get {lo : Int} {n i : Nat} (h : i < n) : (rngD lo n)[i]? = some (.int (lo + (i : Int))) := by
  unfold rngD
  rw [List.getElem?_map, List.getElem?_range h]; rfl
theorem jok_rng {K : PySem.W.Frag} {Z : Addr → Prop} {lo : Int} {n : Nat} {e0 : Eta} {H0 : Hp} : JOk K (Itr lo n) Z (rngD lo n) (fun _ => True) e0 H0 where
  go := fun i Z' e H hi m hr c => by rw [rngD_length] at hi; exact hi
  yld := fun i Z' e H x H' hi m hr c y => by
    obtain ⟨rfl, rfl⟩ := y
    rw [rngD_length] at hi
    exact ⟨_, rngD_get hi, .refl, .int _, hr⟩
  stop := fun i Z' e H hi m hr c => by rw [rngD_length] at hi; exact hi
@[simp] def iRng1 (A : TD) (dl : Sd) (e : Eta) (Q : List D → (Eta → Prop) → Eta → Prop) : Prop := A dl e fun x e1 => onI x fun j => (-(2 ^ 62) ≤ j ∧ j < 2 ^ 62) ∧ Q (rngD 0 j.toNat) (fun _ => True) e1
@[simp] def iRng2 (A B : TD) (dl : Sd) (e : Eta) (Q : List D → (Eta → Prop) → Eta → Prop) : Prop := A dl e fun x e1 => B dl e1 fun y e2 => onI x fun i => onI y fun j => (-(2 ^ 62) ≤ i ∧ i < 2 ^ 62 ∧ -(2 ^ 62) ≤ j ∧ j < 2 ^ 62) ∧ Q (rngD i (j - i).toNat) (fun _ => True) e2
theorem di_rng1 (hg : Gl X "range") (hm : X.mg "range" = none) (ha : DE X a A) (hs : starEach [a] X.env = [(false, eval a X.env)] := by rfl) (he : starEach [a] X.env = (false, eval a X.env) :: starEach [] X.env := by rfl) : DI X tg (.Call (.Name "range" p) [a] [] pos) (iRng1 A) := pi_imp (pi_range1 hg hm (pa_cons ha pa_nil he) hs) (by
  rintro sg H R ⟨Z, dl, e, Qd, s, t, k⟩
  refine low.use s t fun v H1 d e1 x1 r1 h1 q => ?_
  cases r1 with
  | int j => exact ⟨j, rfl, q.1.1, q.1.2, k _ H1 _ _ e1 x1 h1 jok_rng q.2⟩
  | _ => exact q.elim)
theorem di_rng2 (hg : Gl X "range") (hm : X.mg "range" = none) (ha : DE X a A) (hb : DE X b B) (hs : starEach [a, b] X.env = [(false, eval a X.env), (false, eval b X.env)] := by rfl) (hs2 : starEach [b] X.env = [(false, eval b X.env)] := by rfl) (he : starEach [a, b] X.env = (false, eval a X.env) :: starEach [b] X.env := by rfl) (he2 : starEach [b] X.env = (false, eval b X.env) :: starEach [] X.env := by rfl) :
    DI X tg (.Call (.Name "range" p) [a, b] [] pos) (iRng2 A B) := pi_imp (pi_range2 hg hm (pa_cons ha (pa_cons hb pa_nil he2) he) hs hs2) (by
  rintro sg H R ⟨Z, dl, e, Qd, s, t, k⟩
  refine low.use s t fun v H1 d e1 x1 r1 h1 q => low.use (s.ext x1 h1) q fun u H2 c e2 x2 r2 h2 q2 => ?_
  cases r1 with
  | int i =>
    cases r2 with
    | int j => exact ⟨i, j, rfl, q2.1, k _ H2 _ _ e2 (x1.trans x2) h2 jok_rng q2.2⟩
    | _ => exact q2.elim
  | _ => exact q2.elim)
/-! enumerate, zip -/
def enumD : Nat → List D → List D
  | _, [] => []
  | i, d :: ds => .tup [.int (i : Int), d] :: enumD (i + 1) ds
theorem enumD_get : ∀ (ds : List D) (k i : Nat), (enumD k ds)[i]? = ds[i]?.map fun d => .tup [.int ((k + i : Nat) : Int), d]
  | [], k, i => by simp [enumD]
  | d :: ds, k, 0 => by simp [enumD]
  | d :: ds, k, i + 1 => by
    rw [enumD, List.getElem?_cons_succ, List.getElem?_cons_succ, enumD_get ds (k + 1) i, show k + 1 + i = k + (i + 1) by omega]
theorem enumD_length : ∀ (ds : List D) (k : Nat), (enumD k ds).length = ds.length
  | [], _ => rfl
  | d :: ds, k => congrArg Nat.succ (enumD_length ds (k + 1))
@[simp] def iEnumD (A : TD) (dl : Sd) (e : Eta) (Q : List D → (Eta → Prop) → Eta → Prop) : Prop := A dl e fun x e1 => onSome (lstD e1 x) fun ds => Q (enumD 0 ds) (stayD x ds) e1
theorem jok_enum {K : PySem.W.Frag} {Z : Addr → Prop} {a : Addr} {ds : List D} {C : Eta → Prop} {e0 : Eta} {H0 : Hp} (h : ∀ (Z' : Addr → Prop) (e : Eta) (H : Hp), Move K Z e0 H0 Z' e H → HRel K Z' e H → C e → ∃ vs, H a = some (.lst vs) ∧ RepL K Z' e H vs ds) : JOk K (Ite K a) Z (enumD 0 ds) C e0 H0 where
  go := fun i Z' e H hi m hr c => by
    obtain ⟨vs, g, r⟩ := h Z' e H m hr c
    rw [enumD_length] at hi
    have hv : i < vs.length := by rw [r.length]; exact hi
    exact ⟨vs, vs[i], SqL.of g, List.getElem?_eq_getElem hv⟩
  yld := fun i Z' e H x H' hi m hr c y => by
    obtain ⟨vs, g, r⟩ := h Z' e H m hr c
    obtain ⟨T, y0, rfl, hT, rfl, y⟩ := y
    obtain ⟨d, h1, h2⟩ := r.get' (y vs (SqL.of g))
    obtain ⟨z1, z2, z3⟩ := Rep.new_tup hr hT (.cons (.int (i : Nat)) (.cons h2 .nil))
    refine ⟨_, ?_, z1, z2, z3⟩
    rw [enumD_get, h1, Nat.zero_add]; rfl
  stop := fun i Z' e H hi m hr c => by
    obtain ⟨vs, g, r⟩ := h Z' e H m hr c
    rw [enumD_length] at hi
    exact ⟨vs, SqL.of g, by rw [r.length]; exact hi⟩
theorem di_enum {elts : List Expr} {kk : Nat} {tpos : Pos} (hg : Gl X "enumerate") (hm : X.mg "enumerate" = none) (ha : DE X a A) (hs : starEach [a] X.env = [(false, eval a X.env)] := by rfl) (he : starEach [a] X.env = (false, eval a X.env) :: starEach [] X.env := by rfl) : DI X (.Tuple elts kk tpos) (.Call (.Name "enumerate" p) [a] [] pos) (iEnumD A) := pi_imp (pi_enum hg hm (pa_cons ha pa_nil he) hs) (by
  rintro sg H R ⟨Z, dl, e, Qd, s, t, k⟩
  refine low.use s t fun v H1 d e1 x1 r1 h1 q => ?_
  · obtain ⟨ds, z, q⟩ := onSome_ex q
    obtain ⟨a, rfl, ⟨vs, g⟩, st⟩ := list_stays r1 z h1
    exact ⟨a, vs, rfl, SqL.of g, k _ H1 _ _ e1 x1 h1 (jok_enum st) q⟩)
def zipD (xs ys : List D) : List D := List.zipWith (fun a b => .tup [a, b]) xs ys
@[simp] def zipL (e : Eta) (Q : List D → (Eta → Prop) → Eta → Prop) (x y : D) : Prop := onSome (lstD e x) fun xs => onSome (lstD e y) fun ys => Q (zipD xs ys) (fun e => stayD x xs e ∧ stayD y ys e) e
def zipX (e : Eta) (Q : List D → (Eta → Prop) → Eta → Prop) : D → D → Prop
  | .tup xs, .tup ys => Q (zipD xs ys) (fun _ => True) e
  | .lst x, y => zipL e Q (.lst x) y
  | .ref x, y => zipL e Q (.ref x) y
  | _, _ => False
@[simp] def iZipD (A B : TD) (dl : Sd) (e : Eta) (Q : List D → (Eta → Prop) → Eta → Prop) : Prop := A dl e fun x e1 => B dl e1 fun y e2 => zipX e2 Q x y
theorem zipD_get (xs ys : List D) (i : Nat) : (zipD xs ys)[i]? = match xs[i]?, ys[i]? with
  | some a, some b => some (.tup [a, b])
  | _, _ => none := by unfold zipD; rw [List.getElem?_zipWith]; cases xs[i]? <;> cases ys[i]? <;> rfl
theorem zipD_lt {xs ys : List D} {i : Nat} (h : i < (zipD xs ys).length) : i < xs.length ∧ i < ys.length := by
  unfold zipD at h
  rw [List.length_zipWith] at h
  omega
theorem zipD_ge {xs ys : List D} {i : Nat} (h : (zipD xs ys).length ≤ i) : xs.length ≤ i ∨ ys.length ≤ i := by
  unfold zipD at h
  rw [List.length_zipWith] at h
  omega
theorem jok_zip {K : PySem.W.Frag} {Z : Addr → Prop} {a b : Addr} {xs ys : List D} {C : Eta → Prop} {e0 : Eta} {H0 : Hp} (h : ∀ (Z' : Addr → Prop) (e : Eta) (H : Hp), Move K Z e0 H0 Z' e H → HRel K Z' e H → C e → (∃ vs, H a = some (.lst vs) ∧ RepL K Z' e H vs xs) ∧ ∃ vs, H b = some (.lst vs) ∧ RepL K Z' e H vs ys) : JOk K (Itz K a b) Z (zipD xs ys) C e0 H0 where
  go := fun i Z' e H hi m hr c => by
    obtain ⟨⟨vs, g, r⟩, us, g2, r2⟩ := h Z' e H m hr c
    obtain ⟨l1, l2⟩ := zipD_lt hi
    have hv : i < vs.length := by rw [r.length]; exact l1
    have hu : i < us.length := by rw [r2.length]; exact l2
    exact ⟨vs, us, vs[i], us[i], SqL.of g, SqL.of g2, List.getElem?_eq_getElem hv, List.getElem?_eq_getElem hu⟩
  yld := fun i Z' e H x H' hi m hr c y => by
    obtain ⟨⟨vs, g, r⟩, us, g2, r2⟩ := h Z' e H m hr c
    obtain ⟨T, x0, y0, rfl, hT, rfl, y, y'⟩ := y
    obtain ⟨d, h1, h2⟩ := r.get' (y vs (SqL.of g))
    obtain ⟨d', h1', h2'⟩ := r2.get' (y' us (SqL.of g2))
    obtain ⟨z1, z2, z3⟩ := Rep.new_tup hr hT (.cons h2 (.cons h2' .nil))
    refine ⟨_, ?_, z1, z2, z3⟩
    rw [zipD_get, h1, h1']
  stop := fun i Z' e H hi m hr c => by
    obtain ⟨⟨vs, g, r⟩, us, g2, r2⟩ := h Z' e H m hr c
    refine ⟨vs, us, SqL.of g, SqL.of g2, ?_⟩
    rw [r.length, r2.length]
    exact zipD_ge hi
theorem jok_zipT {K : PySem.W.Frag} {Z : Addr → Prop} {a b : Addr} {xs ys : List D} {C : Eta → Prop} {e0 : Eta} {H0 : Hp} (h : ∀ (Z' : Addr → Prop) (e : Eta) (H : Hp), Move K Z e0 H0 Z' e H → HRel K Z' e H → C e → (∃ vs, H a = some (.tup vs) ∧ RepL K Z' e H vs xs) ∧ ∃ vs, H b = some (.tup vs) ∧ RepL K Z' e H vs ys) : JOk K (ItzT K a b) Z (zipD xs ys) C e0 H0 where
  go := fun i Z' e H hi m hr c => by
    obtain ⟨⟨vs, g, r⟩, us, g2, r2⟩ := h Z' e H m hr c
    obtain ⟨l1, l2⟩ := zipD_lt hi
    have hv : i < vs.length := by rw [r.length]; exact l1
    have hu : i < us.length := by rw [r2.length]; exact l2
    exact ⟨vs, us, vs[i], us[i], SqT.of g, SqT.of g2, List.getElem?_eq_getElem hv, List.getElem?_eq_getElem hu⟩
  yld := fun i Z' e H x H' hi m hr c y => by
    obtain ⟨⟨vs, g, r⟩, us, g2, r2⟩ := h Z' e H m hr c
    obtain ⟨T, x0, y0, rfl, hT, rfl, y, y'⟩ := y
    obtain ⟨d, h1, h2⟩ := r.get' (y vs (SqT.of g))
    obtain ⟨d', h1', h2'⟩ := r2.get' (y' us (SqT.of g2))
    obtain ⟨z1, z2, z3⟩ := Rep.new_tup hr hT (.cons h2 (.cons h2' .nil))
    refine ⟨_, ?_, z1, z2, z3⟩
    rw [zipD_get, h1, h1']
  stop := fun i Z' e H hi m hr c => by
    obtain ⟨⟨vs, g, r⟩, us, g2, r2⟩ := h Z' e H m hr c
    refine ⟨vs, us, SqT.of g, SqT.of g2, ?_⟩
    rw [r.length, r2.length]
    exact zipD_ge hi
theorem list_goes {K : PySem.W.Frag} {Z : Addr → Prop} {e0 e1 : Eta} {H0 H1 : Hp} {v : V} {d : D} {ds : List D} (r : Rep K Z e0 H0 v d) (x : Ext e0 H0 e1 H1) : Rep K Z e1 H1 v d := r.ext x
theorem di_zip {elts : List Expr} {kk : Nat} {tpos : Pos} (hg : Gl X "zip") (hm : X.mg "zip" = none) (ha : DE X a A) (hb : DE X b B) (hs : starEach [a, b] X.env = (false, eval a X.env) :: starEach [b] X.env := by rfl) (hpl : (backTo pos (starEach [b] X.env)).any (·.1) = false := by rfl) (he2 : starEach [b] X.env = (false, eval b X.env) :: starEach [] X.env := by rfl) :
    DI X (.Tuple elts kk tpos) (.Call (.Name "zip" p) [a, b] [] pos) (iZipD A B) := pi_imp (pi_zipA hg hm (pa_cons ha (pa_cons hb pa_nil he2) hs) hs hpl) (by
  rintro sg H R ⟨Z, dl, e, Qd, s, t, k⟩
  refine low.use s t fun v H1 d e1 x1 r1 h1 q => low.use (s.ext x1 h1) q fun u H2 c e2 x2 r2 h2 q2 => ?_
  have r1' := r1.ext x2
  have lsts : zipL e2 Qd d c → ∃ a b xs ys, [v, u] = [.ref a, .ref b] ∧ ((SqL X.K H2 a xs ∧ SqL X.K H2 b ys ∧ R (Itz X.K a b) H2) ∨ (SqT X.K H2 a xs ∧ SqT X.K H2 b ys ∧ R (ItzT X.K a b) H2)) := fun q => by
    obtain ⟨xs, z1, q⟩ := onSome_ex q
    obtain ⟨ys, z2, q⟩ := onSome_ex q
    obtain ⟨a, rfl, ⟨vs, g⟩, st⟩ := list_stays r1' z1 h2
    obtain ⟨b, rfl, ⟨us, g'⟩, st'⟩ := list_stays r2 z2 h2
    exact ⟨a, b, vs, us, rfl, .inl ⟨SqL.of g, SqL.of g', k _ H2 _ _ e2 (x1.trans x2) h2 (jok_zip fun Z' e H m h c => ⟨st Z' e H m h c.1, st' Z' e H m h c.2⟩) q⟩⟩
  cases r1' with
  | tup f r =>
    cases r2 with
    | tup f2 r2 =>
      exact ⟨_, _, _, _, rfl, .inr ⟨SqT.of f.2.2, SqT.of f2.2.2, k _ H2 _ _ e2 (x1.trans x2) h2 (jok_zipT fun Z' e H m h c => ⟨⟨_, (m.go _ _ f.1 f.2.1 f.2.2).1, r.move m⟩, ⟨_, (m.go _ _ f2.1 f2.2.1 f2.2.2).1, r2.move m⟩⟩) q2⟩⟩
    | _ => exact q2.elim
  | ref _ => exact lsts q2
  | lst _ _ => exact lsts q2
  | _ => exact (show False by cases c <;> exact q2).elim)
end
end FL

set_option Elab.async false
set_option linter.all false
set_option maxRecDepth 100000
set_option maxHeartbeats 4000000
/-! The layer's loops, comprehensions, methods, defs. -/
namespace FL
open PySem PySem.Spec PyProof.Rows L2 RZ

/-! ### for -/
@[simp] def forD (C : Eta → Prop) (g : GT) (body : TSD) : List D → EndsD → Sd → Eta → Prop
  | [], E, dl, e => C e ∧ E.nx dl e
  | x :: xs, E, dl, e => C e ∧ onSome (gtD g x dl) fun dl' => body { nx := forD C g body xs E, rt := E.rt, bk := E.nx, ct := forD C g body xs E } dl' e
@[simp] def dFor (T : TID) (g : GT) (body : TSD) (E : EndsD) (dl : Sd) (e : Eta) : Prop := T dl e fun ds C e1 => forD C g body ds E dl e1
section
variable {X : Cy} {tg a b c iter : Expr} {es : List Expr} {A B : TD} {T : TDs} {pos : Pos} {x : Str} {p : Pos} {U V' : TSD} {st1 st2 : List Stmt}
theorem forD_C {C : Eta → Prop} {g : GT} {body : TSD} {xs : List D} {E : EndsD} {dl : Sd} {e : Eta} (h : forD C g body xs E dl e) : C e := by
  cases xs <;> exact h.1
theorem ds_for {I : TID} {g : GT} (hp : PassesOwn (model X.prog X.w) X.A X.env X.xe) (hc : X.calm = true) (hi : DI X tg iter I) (hg : GTok X tg g) (hb : DSs X st1 U) (hs : ∀ x, foldedSetIterable iter X.env x = pure x := by intro _; rfl) : DS X (.For tg iter st1 [] pos) (dFor I g U) :=
  ps_imp (ps_for hp hc hi hg.pg hb hs) (by
    rintro F sg H ⟨Z, dl, e, E, s, t, k⟩
    refine ⟨Z, dl, e, _, s, t, fun J H1 ds C e1 x1 h1 j q => ?_⟩
    refine ⟨fun i m sg' H' => m = ds.length - i ∧ i ≤ ds.length ∧ ∃ dl' e', Ext e1 H1 e' H' ∧ SRel X.Y Z e' H' dl' sg' ∧ forD C g U (ds.drop i) E dl' e', ⟨ds.length, by simp, Nat.zero_le _, dl, e1, .refl, s.ext x1 h1, q⟩, ?_⟩
    rintro i m sg' H' ⟨rfl, hi, dl', e', x2, s2, q2⟩
    have cc := forD_C q2
    by_cases hlt : i < ds.length
    · refine .inr ⟨j.go i Z e' H' hlt x2.move s2.rel cc, fun sg2 H2 => ∃ dl2 e2, Ext e1 H1 e2 H2 ∧ SRel X.Y Z e2 H2 dl2 sg2 ∧ forD C g U (ds.drop (i + 1)) E dl2 e2, fun sg2 H2 ⟨dl2, e2, y1, y2, y3⟩ => ⟨ds.length - (i + 1), by omega, rfl, hlt, dl2, e2, y1, y2, y3⟩, fun x H2 y => ?_⟩
      obtain ⟨d, hd, x3, rd, h3⟩ := j.yld i Z e' H' x H2 hlt x2.move s2.rel cc y
      rw [List.drop_eq_getElem_cons hlt] at q2
      have hd' : ds[i] = d := by rw [List.getElem?_eq_getElem hlt] at hd; exact Option.some.inj hd
      rw [hd'] at q2
      have q3 := q2.2
      · obtain ⟨dl2, z, q3⟩ := onSome_ex q3
        obtain ⟨sg2, s4, _, go⟩ := gt_go (s2.ext x3 h3) rd z
        refine go _ ⟨Z, dl2, e', _, s4, q3, ⟨fun dl3 e3 sg3 H3 x4 s5 q4 => ⟨dl3, e3, x2.trans (x3.trans x4), s5, q4⟩, fun d3 e3 v3 H3 x4 r4 h4 q4 => k.rt d3 e3 v3 H3 (x1.trans (x2.trans (x3.trans x4))) r4 h4 q4, fun dl3 e3 sg3 H3 x4 s5 q4 => k.nx dl3 e3 sg3 H3 (x1.trans (x2.trans (x3.trans x4))) s5 q4, fun dl3 e3 sg3 H3 x4 s5 q4 => ⟨dl3, e3, x2.trans (x3.trans x4), s5, q4⟩⟩⟩
    · have ei : i = ds.length := by omega
      subst ei
      rw [List.drop_length] at q2
      exact .inl ⟨j.stop _ Z e' H' (Nat.le_refl _) x2.move s2.rel cc, k.nx dl' e' sg' H' (x1.trans x2) s2 q2.2⟩)

/-! ### while -/
def dWhile (C : TDb) (body : TSD) (E : EndsD) (dl : Sd) (e : Eta) : Prop := ∃ W : Nat → Sd → Eta → Prop, (∃ m, W m dl e) ∧ ∀ m dl e, W m dl e →
  C dl e fun b e1 => if b = true then body { nx := fun dl' e' => ∃ m', m' < m ∧ W m' dl' e', rt := E.rt, bk := E.nx, ct := fun dl' e' => ∃ m', m' < m ∧ W m' dl' e' } dl e1 else E.nx dl e1
theorem ds_while {C : TDb} (hp : PassesOwn (model X.prog X.w) X.A X.env X.xe) (hc : DT X c C) (hb : DSs X st1 U) : DS X (.While c st1 [] pos) (dWhile C U) := ps_imp (ps_while hp hc hb) (by
  rintro F sg H ⟨Z, dl, e, E, s, ⟨W, ⟨m0, w0⟩, turn⟩, k⟩
  refine ⟨fun m sg' H' => ∃ dl' e', Ext e H e' H' ∧ SRel X.Y Z e' H' dl' sg' ∧ W m dl' e', ⟨m0, dl, e, .refl, s, w0⟩, ?_⟩
  rintro m sg1 H1 ⟨dl1, e1, x1, s1, w1⟩
  refine lowb.use s1 (turn m dl1 e1 w1) fun b H2 e2 x2 h2 q => ?_
  cases b with
  | true =>
    rw [if_pos rfl] at q ⊢
    refine ⟨fun sg' H' => ∃ m', m' < m ∧ ∃ dl' e', Ext e H e' H' ∧ SRel X.Y Z e' H' dl' sg' ∧ W m' dl' e', fun sg' H' h => h, ?_⟩
    exact ⟨Z, dl1, e2, _, s1.ext x2 h2, q, ⟨fun dl3 e3 sg3 H3 x4 s5 ⟨m', lm, q4⟩ => ⟨m', lm, dl3, e3, x1.trans (x2.trans x4), s5, q4⟩, fun d3 e3 v3 H3 x4 r4 h4 q4 => k.rt d3 e3 v3 H3 (x1.trans (x2.trans x4)) r4 h4 q4, fun dl3 e3 sg3 H3 x4 s5 q4 => k.nx dl3 e3 sg3 H3 (x1.trans (x2.trans x4)) s5 q4, fun dl3 e3 sg3 H3 x4 s5 ⟨m', lm, q4⟩ => ⟨m', lm, dl3, e3, x1.trans (x2.trans x4), s5, q4⟩⟩⟩
  | false =>
    rw [if_neg Bool.false_ne_true] at q ⊢
    exact k.nx dl1 e2 sg1 H2 (x1.trans x2) (s1.ext x2 h2) q)

/-! ### comprehensions -/
@[simp] def wipeD (dl : Sd) : List Nat → Sd
  | [] => dl
  | v :: vs => (wipeD dl vs).set v none
theorem SRel.wipe {Y : Yx} {Z : Addr → Prop} {e : Eta} {H : Hp} {dl : Sd} {sg : L2.St} (s : SRel Y Z e H dl sg) : ∀ vs : List Nat, SRel Y Z e H (wipeD dl vs) (L2.wipe sg vs)
  | [] => s
  | v :: vs => (SRel.wipe s vs).setN v
theorem wipe_wipe (sg : L2.St) (vs : List Nat) : L2.wipe (L2.wipe sg vs) vs = L2.wipe sg vs := by
  apply List.ext_getElem?
  intro i
  have key : ∀ (us : List Nat) (s : L2.St), (L2.wipe s us)[i]? = if i ∈ us then s[i]?.map (fun _ => none) else s[i]? := by
    intro us
    induction us with
    | nil => intro s; simp [L2.wipe]
    | cons u us ih =>
      intro s
      show ((L2.wipe s us).set u none)[i]? = _
      by_cases h : u = i
      · subst h
        rw [List.getElem?_set]
        simp only [if_true, List.mem_cons, true_or]
        rw [wipe_length]
        by_cases hl : u < s.length
        · rw [if_pos hl, List.getElem?_eq_getElem hl]; rfl
        · rw [if_neg hl, List.getElem?_eq_none (by omega)]; rfl
      · rw [List.getElem?_set_ne h, ih s]
        have hi : (i ∈ u :: us) ↔ i ∈ us := by simp [Ne.symm h]
        simp only [hi]
  rw [key, key]
  split
  · cases sg[i]? <;> rfl
  · rfl
@[simp] def compD (C : Eta → Prop) (g : GT) (tt : TDb) (te : TD) (vs : List Nat) : List D → List D → Sd → Eta → (List D → Eta → Prop) → Prop
  | [], acc, _, e, Q => C e ∧ Q acc e
  | x :: xs, acc, dl, e, Q => C e ∧ onSome (gtD g x (wipeD dl vs)) fun dl' => tt dl' e fun b e1 => if b = true then te dl' e1 fun y e2 => compD C g tt te vs xs (acc ++ [y]) dl e2 Q else compD C g tt te vs xs acc dl e1 Q
theorem compD_C {C : Eta → Prop} {g : GT} {tt : TDb} {te : TD} {vs : List Nat} {xs acc : List D} {dl : Sd} {e : Eta} {Q : List D → Eta → Prop} (h : compD C g tt te vs xs acc dl e Q) : C e := by
  cases xs <;> exact h.1
@[simp] def dYes (_ : Sd) (e : Eta) (Q : Bool → Eta → Prop) : Prop := Q true e
/-- cl: the new list a cell? -/
@[simp] def dComp (cl : Bool) (T : TID) (g : GT) (tt : TDb) (te : TD) (vs : List Nat) (dl : Sd) (e : Eta) (Q : D → Eta → Prop) : Prop := T dl e fun ds C e1 => ds.length ≤ sizeLine ∧ compD C g tt te vs ds [] dl e1 fun acc e2 =>
  if cl = true then ∀ p, e2 p = none → Q (.ref p) (e2.put p (.lst acc)) else Q (.lst acc) e2
/-- the hidden list grows -/
theorem HRel.hidw {K : PySem.W.Frag} {Z : Addr → Prop} {e : Eta} {H : Hp} (h : HRel K Z e H) {D0 : Addr} {u : HO} (hz : Z D0) : Move K Z e H Z e (upd H D0 u) ∧ HRel K Z e (upd H D0 u) := by
  have m : Move K Z e H Z e (upd H D0 u) := ⟨fun a o z n q => by
    have na : a ≠ D0 := fun w => z (w ▸ hz)
    exact ⟨by rw [upd_ne na]; exact q, n, z⟩⟩
  refine ⟨m, fun q o hq => ?_, fun q z => ?_⟩
  · have nq : q ≠ D0 := fun w => by rw [w, (h.hid D0 hz).1] at hq; cases hq
    exact (h.cell q o hq).move m (upd_ne nq)
  · obtain ⟨n, o, ho⟩ := h.hid q z
    by_cases w : q = D0
    · subst w; exact ⟨n, u, upd_same⟩
    · exact ⟨n, o, by rw [upd_ne w]; exact ho⟩
def gtIn (g : GT) (vs : List Nat) : Bool := match g with
  | .one i => vs.contains i
  | .many is => is.all fun i => vs.contains i
theorem gtIn_ok {g : GT} {vs : List Nat} (h : gtIn g vs = true) : ∀ i, (match g with | .one j => i = j | .many js => i ∈ js) → i ∈ vs := by
  cases g with
  | one j => intro i e; have e : i = j := e; subst e; exact List.contains_iff_mem.mp h
  | many js => intro i e; exact List.contains_iff_mem.mp (List.all_eq_true.mp h i e)
/-- a context that lets no exception out -/
abbrev Yn (K : PySem.W.Frag) : Yx := ⟨K, fun _ _ _ _ => False, noX⟩
theorem SRel.noX {K : PySem.W.Frag} {w w' : WX} {Z : Addr → Prop} {e : Eta} {H : Hp} {dl : Sd} {sg : L2.St} (s : SRel ⟨K, w, FL.noX⟩ Z e H dl sg) : SRel ⟨K, w', FL.noX⟩ Z e H dl sg := ⟨s.toSR0, .no⟩
theorem low.noX {K : PySem.W.Frag} {w w' : WX} {T : TD} : ∀ sg H Q, low ⟨K, w, FL.noX⟩ T sg H Q → low ⟨K, w', FL.noX⟩ T sg H Q := fun sg H Q ⟨Z, dl, e, Qd, s, t, k⟩ => ⟨Z, dl, e, Qd, s.noX, t, k⟩
theorem lowb.noX {K : PySem.W.Frag} {w w' : WX} {T : TDb} : ∀ sg H Q, lowb ⟨K, w, FL.noX⟩ T sg H Q → lowb ⟨K, w', FL.noX⟩ T sg H Q := fun sg H Q ⟨Z, dl, e, Qd, s, t, k⟩ => ⟨Z, dl, e, Qd, s.noX, t, k⟩
theorem low_lc {Y : Yx} {cl : Bool} {I : TID} {g : GT} {tt : TDb} {te : TD} {vs : List Nat} (hg : gtIn g vs = true) : ∀ sg H Q, low Y (dComp cl I g tt te vs) sg H Q → tLc (lowI Y I) (gtV Y.K g) (lowb (Yn Y.K) tt) (low (Yn Y.K) te) vs sg H Q := by
  rintro sg H Q ⟨Z, dl, e, Qd, s, t, k⟩
  refine ⟨Z, dl, e, _, s, t, fun J H1 ds C e1 x1 h1 j ⟨hz, q⟩ D0 hD => ?_⟩
  have f0 := h1.free hD
  -- the hidden set
  let Z' : Addr → Prop := fun a => Z a ∨ a = D0
  have nD : ∀ {a : Addr} {o : HO}, H1 a = some o → a ≠ D0 := fun h w => by subst w; rw [hD] at h; cases h
  obtain ⟨xj, hj⟩ := h1.junk (u := .lst []) hD
  have mv : Move Y.K Z e1 H1 Z' e1 (upd H1 D0 (.lst [])) := ⟨fun a o z n q => ⟨by rw [upd_ne (nD q)]; exact q, n, fun w => w.elim z (nD q)⟩⟩
  have hr : HRel Y.K Z' e1 (upd H1 D0 (.lst [])) := by
    refine ⟨fun p o hp => (h1.cell p o hp).move mv (upd_ne (fun w => by
      rw [w, f0.1] at hp; cases hp)), fun p z => ?_⟩
    rcases z with z | z
    · exact hj.hid p z
    · subst z; exact ⟨f0.1, _, upd_same⟩
  refine ⟨fun i m H' => m = ds.length - i ∧ i ≤ ds.length ∧ ∃ acc va e', H' D0 = some (.lst va) ∧ Ext e1 H1 e' H' ∧ RepL Y.K Z' e' H' va acc ∧ HRel Y.K Z' e' H' ∧ acc.length ≤ i ∧ compD C g tt te vs (ds.drop i) acc dl e' fun acc e2 => if cl = true then ∀ p, e2 p = none → Qd (.ref p) (e2.put p (.lst acc)) else Qd (.lst acc) e2,
    ⟨ds.length, by simp, Nat.zero_le _, [], [], e1, upd_same, xj, .nil, hr, Nat.le_refl _, q⟩, ?_⟩
  rintro i m H' ⟨rfl, hi, acc, va, e', hv, x2, rl, hr2, hl, q2⟩
  have cc := compD_C q2
  have mv2 : Move Y.K Z e1 H1 Z' e' H' := ⟨fun a o z n q => by
    obtain ⟨q1, q2⟩ := x2 a o q n
    exact ⟨q1, q2, fun w => w.elim z (nD q)⟩⟩
  by_cases hlt : i < ds.length
  · refine .inr ⟨j.go i Z' e' H' hlt mv2 hr2 cc, fun H3 => ∃ acc va e', H3 D0 = some (.lst va) ∧ Ext e1 H1 e' H3 ∧ RepL Y.K Z' e' H3 va acc ∧ HRel Y.K Z' e' H3 ∧ acc.length ≤ i + 1 ∧ compD C g tt te vs (ds.drop (i + 1)) acc dl e' fun acc e2 => if cl = true then ∀ p, e2 p = none → Qd (.ref p) (e2.put p (.lst acc)) else Qd (.lst acc) e2,
      fun H3 h => ⟨ds.length - (i + 1), by omega, rfl, hlt, h⟩, fun x H3 y => ?_⟩
    obtain ⟨d, hd, x3, rd, h3⟩ := j.yld i Z' e' H' x H3 hlt mv2 hr2 cc y
    rw [List.drop_eq_getElem_cons hlt] at q2
    have hd' : ds[i] = d := by rw [List.getElem?_eq_getElem hlt] at hd; exact Option.some.inj hd
    rw [hd'] at q2
    have q3 := q2.2
    have s2 : SRel (Yn Y.K) Z' e' H3 (wipeD dl vs) (L2.wipe sg vs) := by
      refine SRel.wipe (Y := Yn Y.K) ⟨⟨s.len, fun a b c => ?_, h3⟩, .no⟩ vs
      obtain ⟨v, g1, g2⟩ := s.get a b c
      exact ⟨v, g1, ((g2.ext x1).move mv2).ext x3⟩
    · obtain ⟨dl2, z, q3⟩ := onSome_ex q3
      obtain ⟨sg2, s4, wp, go⟩ := gt_go s2 rd z
      refine go _ ⟨by rw [wp vs (gtIn_ok hg), wipe_wipe], lowb.use s4 q3 fun b H4 e4 x4 h4 q4 => ?_⟩
      cases b with
      | false =>
        rw [if_neg Bool.false_ne_true] at q4 ⊢
        have xx := x3.trans x4
        exact ⟨acc, va, e4, (xx D0 _ hv (hr2.hid D0 (.inr rfl)).1).1, x2.trans xx, rl.ext xx, h4, by omega, q4⟩
      | true =>
        rw [if_pos rfl] at q4 ⊢
        refine low.use (s4.ext x4 h4) q4 fun yv H5 y5 e5 x5 r5 h5 q5 => ?_
        have xx := x3.trans (x4.trans x5)
        have hv5 := (xx D0 _ hv (hr2.hid D0 (.inr rfl)).1).1
        refine ⟨va, hv5, by rw [rl.length]; omega, acc ++ [y5], va ++ [yv], e5, upd_same, ?_, ?_, ?_, by rw [List.length_append, List.length_singleton]; omega, q5⟩
        · intro a o q n
          obtain ⟨g1, g2⟩ := (x2.trans xx) a o q n
          exact ⟨by rw [upd_ne (nD q)]; exact g1, g2⟩
        · exact ((rl.ext xx).append (.cons r5 .nil)).move (h5.hidw (.inr rfl)).1
        · exact (h5.hidw (.inr rfl)).2
  · have ei : i = ds.length := by omega
    subst ei
    rw [List.drop_length] at q2
    refine .inl ⟨j.stop _ Z' e' H' (Nat.le_refl _) mv2 hr2 cc, ?_⟩
    have q3 := q2.2
    have nz : ¬ Z D0 := f0.2
    have en : e' D0 = none := (hr2.hid D0 (.inr rfl)).1
    have back : Move Y.K Z' e' H' Z e' H' := ⟨fun a o z n q => ⟨q, n, fun w => z (.inl w)⟩⟩
    have hrb : HRel Y.K Z e' H' := ⟨fun p o hp => (hr2.cell p o hp).move back rfl, fun p z => hr2.hid p (.inl z)⟩
    cases cl with
    | false =>
      rw [if_neg Bool.false_ne_true] at q3
      exact k _ H' _ e' (x1.trans x2) (.lst ⟨nz, en, hv⟩ (rl.move back)) hrb q3
    | true =>
      rw [if_pos rfl] at q3
      have mv3 : Move Y.K Z' e' H' Z (e'.put D0 (.lst acc)) H' := ⟨fun a o z n q => by
        have na : a ≠ D0 := fun w => z (.inr w)
        exact ⟨q, by rw [put_ne na]; exact n, fun w => z (.inl w)⟩⟩
      refine k _ H' _ (e'.put D0 (.lst acc)) (x1.trans fun a o q n => ?_) (.ref D0) ⟨fun p o hp => ?_, fun p z => ?_⟩ (q3 D0 en)
      · obtain ⟨g1, g2⟩ := x2 a o q n
        exact ⟨g1, by rw [put_ne (nD q)]; exact g2⟩
      · by_cases w : p = D0
        · subst w
          rw [put_same] at hp; cases hp
          exact ⟨va, hv, rl.move mv3⟩
        · rw [put_ne w] at hp
          exact (hr2.cell p o hp).move mv3 rfl
      · obtain ⟨n, o, ho⟩ := hr2.hid p (.inl z)
        have na : p ≠ D0 := fun w => by subst w; exact nz z
        exact ⟨by rw [put_ne na]; exact n, o, ho⟩
abbrev Blk (X : Cy) (scope : Scope) (P : Cy → Prop) : Prop := ∀ (s : Shared) (H : Hp) (C : Addr) (cl : List (Str × Addr)) (fp : List Addr), P ⟨X.toCx.blk s H scope (compEnvC scope cl C X.env) fp, noX⟩
structure DTs (X : Cy) (ifs : List Expr) (tt : TDb) : Prop where
  pt : PTs X ifs (lowb X.Y tt)
theorem pts_imp {X : Cx} {ifs : List Expr} {t t' : TT} (p : PTs X ifs t) (h : ∀ sg H Q, t' sg H Q → t sg H Q) : PTs X ifs t' := ⟨fun pins s sg H Q I q => p.run pins s sg H Q I (h _ _ _ q)⟩
theorem dts_nil : DTs X [] dYes := ⟨⟨fun pins s sg H Q I ⟨Z, dl, e, Qd, sr, t, k⟩ => pts_nil.run pins s sg H Q I (k true H e .refl sr.rel t)⟩⟩
theorem dts_one {tt : TDb} (h : DT X c tt) : DTs X [c] tt := ⟨pts_one h⟩
/-- as a value -/
theorem d_comp (cl : Bool) {elt : Expr} {ifs : List Expr} {scope : Scope} {own : List (Str × Nat)} {I : TID} {g : GT} {tt : TDb} {te : TD} (hc : X.calm = true) (hN : X.N.Nodup) (hi : DI X tg iter I) (ok : BlkOk X.N X.env.scope scope own) (hin : gtIn g (own.map (·.2)) = true)
    (hg : Blk X scope fun Y => GTok Y tg g) (ht : Blk X scope fun Y => DTs Y ifs tt) (he : Blk X scope fun Y => DE Y elt te) (hs : ∀ x, foldedSetIterable iter X.env x = pure x := by intro _; rfl) :
    DE X (.ListComp elt [⟨tg, iter, ifs, 0⟩] scope pos) (dComp cl I g tt te (own.map (·.2))) :=
  pe_imp (pe_lc hc hN hi ok (fun s H C c f => (hg s H C c f).pg) (fun s H C c f => pts_imp (ht s H C c f).pt lowb.noX) (fun s H C c f => pe_imp (he s H C c f) low.noX) hs) (low_lc hin)
theorem low_asgT {Y : Yx} {t : TE} {g : GT} (h : ∀ sg H Q, low Y A sg H Q → t sg H Q) : ∀ F sg H, lowS Y (dAsg A g) F sg H → tAsg t (gtV Y.K g) F sg H := by
  rintro F sg H ⟨Z, dl, e, E, s, t, k⟩
  refine h _ _ _ (low.use s t fun v H1 d e1 x1 r1 h1 q => ?_)
  obtain ⟨dl', z, q⟩ := onSome_ex q
  obtain ⟨sg', s', _, go⟩ := gt_go (s.ext x1 h1) r1 z
  exact go _ (k.nx dl' e1 sg' H1 x1 s' q)
/-- name = [..] on one line, the name a local -/
theorem ds_setLc (cl : Bool) {i : Nat} {y : Str} {py : Pos} {elt : Expr} {ifs : List Expr} {scope : Scope} {own : List (Str × Nat)} {I : TID} {g : GT} {tt : TDb} {te : TD} {spos : Pos} (hc : X.calm = true) (hN : X.N.Nodup) (hy : X.N[i]? = some y) (hyl : X.env.scope.names.lookup y = some .local)
    (hsw : swapsWith (.ListComp elt [⟨tg, iter, ifs, 0⟩] scope pos) (some (.Name y py)) spos.line X.env = pure true) (hi : DI X tg iter I) (ok : BlkOk X.N X.env.scope scope own) (hin : gtIn g (own.map (·.2)) = true)
    (hg : Blk X scope fun Y => GTok Y tg g) (ht : Blk X scope fun Y => DTs Y ifs tt) (he : Blk X scope fun Y => DE Y elt te) (hs : ∀ x, foldedSetIterable iter X.env x = pure x := by intro _; rfl) :
    DS X (.Assign [.Name y py] (.ListComp elt [⟨tg, iter, ifs, 0⟩] scope pos) spos) (dAsg (dComp cl I g tt te (own.map (·.2))) (.one i)) :=
  ps_imp (ps_setLc hc hN hy hyl hsw hi ok (fun s H C c f => (hg s H C c f).pg) (fun s H C c f => pts_imp (ht s H C c f).pt lowb.noX) (fun s H C c f => pe_imp (he s H C c f) low.noX) hs) (low_asgT (low_lc hin))

/-! ### methods of lists -/
abbrev RM := D → List D → Eta → (D → Eta → Prop) → Prop
def AdM (K : PySem.W.Frag) (r : V → List V → Hp → VK → Prop) (R : RM) : Prop := ∀ (Z : Addr → Prop) (e : Eta) (H : Hp) (x : V) (d : D) (xs : List V) (ds : List D) (Qd : D → Eta → Prop) (Q : VK), HRel K Z e H → Rep K Z e H x d → RepL K Z e H xs ds → R d ds e Qd →
  (∀ v H' d e', Ext e H e' H' → Rep K Z e' H' v d → HRel K Z e' H' → Qd d e' → Q v H') → r x xs H Q
@[simp] def isL (e : Eta) (d : D) : Prop := (lstD e d).isSome = true
@[simp] def dMth (R : RM) (A : TD) (T : TDs) (dl : Sd) (e : Eta) (Q : D → Eta → Prop) : Prop := A dl e fun x e1 => isL e1 x ∧ T dl e1 fun ys e2 => R x ys e2 Q
theorem isL_at {K : PySem.W.Frag} {Z : Addr → Prop} {e : Eta} {H : Hp} (h : HRel K Z e H) {x : V} {d : D} (r : Rep K Z e H x d) (q : isL e d) : tyV K "list" x H := by
  unfold isL at q
  cases z : lstD e d with
  | none => rw [z] at q; cases q
  | some ds =>
    obtain ⟨a, vs, rfl, g, _⟩ := lst_at h r z
    exact .inl ⟨rfl, vs, SqL.of g⟩
variable {name : Str} {apos cpos : Pos} {mid : String} {r : V → List V → Hp → VK → Prop} {R : RM} {o : Expr}
theorem d_mth (slot : Slot "list" name mid) (hty : typeOf (.builtin mid) = pure (.type "method_descriptor")) (hm : MtR X mid r) (ad : AdM X.K r R) (ho : DE X o A) (ha : DA X (a :: es) T)
    (hbase : attributeBase o name X.env (eval o X.env) = eval o X.env := by rfl)
    (hfew : ((backTo cpos (starEach (a :: es) X.env)).all (fun x => !x.1) && (backToKw cpos (keywordEach [] X.env)).all (fun x => x.1.isSome)
      && decide ((a :: es).length + ([] : List Keyword).length + (if ([] : List Keyword).isEmpty then 0 else 1) < 30)) = true := by rfl)
    (hline : (apos.endLine == cpos.line) = true := by rfl) (hs : starEach (a :: es) X.env = (false, eval a X.env) :: starEach es X.env := by rfl) (hplain : (backTo cpos (starEach es X.env)).any (·.1) = false := by rfl) :
    DE X (.Call (.Attribute o name apos) (a :: es) [] cpos) (dMth R A T) := pe_imp (pe_bm PySem.F.plainAttrs_list slot hty hm ho ha hbase hfew hline hs hplain) (by
  rintro sg H Q ⟨Z, dl, e, Qd, s, t, k⟩
  refine low.use s t fun v H1 d e1 x1 r1 h1 ⟨l1, q⟩ => ⟨isL_at h1 r1 l1, lows.use (s.ext x1 h1) q fun us H2 ds e2 x2 r2 h2 q2 => ?_⟩
  exact ad Z e2 H2 v d us ds Qd Q h2 (r1.ext x2) r2 q2 fun v H' d e' x3 r3 h3 q => k v H' d e' (x1.trans (x2.trans x3)) r3 h3 q)
theorem d_mth0 (slot : Slot "list" name mid) (hty : typeOf (.builtin mid) = pure (.type "method_descriptor")) (hm : MtR X mid r) (ad : AdM X.K r R) (ho : DE X o A)
    (hbase : attributeBase o name X.env (eval o X.env) = eval o X.env := by rfl) (hline : (apos.endLine == cpos.line) = true := by rfl) : DE X (.Call (.Attribute o name apos) [] [] cpos) (dMth R A dNil) := pe_imp (pe_bm0 PySem.F.plainAttrs_list slot hty hm ho hbase hline) (by
  rintro sg H Q ⟨Z, dl, e, Qd, s, t, k⟩
  refine low.use s t fun v H1 d e1 x1 r1 h1 ⟨l1, q⟩ => ⟨isL_at h1 r1 l1, ?_⟩
  exact ad Z e1 H1 v d [] [] Qd Q h1 r1 .nil q fun v H' d e' x3 r3 h3 q => k v H' d e' (x1.trans x3) r3 h3 q)
@[simp] def rAppD : RM := fun x ys e Q => onR x fun p => one ys fun y => onSome (lstO (e p)) fun ds => ds.length < sizeLine ∧ Q .non (e.put p (.lst (ds ++ [y])))
theorem onR_ex {d : D} {Q : Addr → Prop} (h : onR d Q) : ∃ i, d = .ref i ∧ Q i := by
  cases d <;> first | exact ⟨_, rfl, h⟩ | exact h.elim
theorem ad_app {K : PySem.W.Frag} : AdM K rAppend rAppD := by
  intro Z e H x d xs ds Qd Q h r rl q k
  obtain ⟨p, rfl, q⟩ := onR_ex q
  obtain ⟨y, rfl, q⟩ := one_ex q
  obtain ⟨ls, hp, q⟩ := onSome_ex q
  cases r
  obtain ⟨z, rfl, rz⟩ := rl.one
  obtain ⟨vs, g1, g2⟩ := h.cell _ _ (lstO_ex hp)
  obtain ⟨x1, x2⟩ := Rep.set_cell h (lstO_ex hp) (g2.append (.cons rz .nil))
  exact ⟨p, vs, z, rfl, rfl, g1, by rw [g2.length]; exact q.1, k _ _ _ _ x1 .non x2 q.2⟩
@[simp] def rExtD : RM := fun x ys e Q => onR x fun p => one ys fun y => onSome (lstO (e p)) fun ds => onSome (lstD e y) fun es => ds.length + es.length ≤ sizeLine ∧ Q .non (e.put p (.lst (ds ++ es)))
theorem ad_ext {K : PySem.W.Frag} : AdM K rExtend rExtD := by
  intro Z e H x d xs ds Qd Q h r rl q k
  obtain ⟨p, rfl, q⟩ := onR_ex q
  obtain ⟨y, rfl, q⟩ := one_ex q
  obtain ⟨ls, hp, q⟩ := onSome_ex q
  obtain ⟨es', hl, q⟩ := onSome_ex q
  cases r
  obtain ⟨z, rfl, rz⟩ := rl.one
  obtain ⟨vs, g1, g2⟩ := h.cell _ _ (lstO_ex hp)
  obtain ⟨b, us, rfl, g3, g4⟩ := lst_at h rz hl
  obtain ⟨x1, x2⟩ := Rep.set_cell h (lstO_ex hp) (g2.append g4)
  exact ⟨p, b, vs, us, rfl, rfl, g1, g3, by rw [g2.length, g4.length]; exact q.1, k _ _ _ _ x1 .non x2 q.2⟩
@[simp] def rClrD : RM := fun x ys e Q => onR x fun p => ys = [] ∧ onSome (lstO (e p)) fun _ => Q .non (e.put p (.lst []))
theorem ad_clr {K : PySem.W.Frag} : AdM K rClear rClrD := by
  intro Z e H x d xs ds Qd Q h r rl q k
  obtain ⟨p, rfl, e0, q1⟩ := onR_ex q
  clear q
  subst e0
  have q := q1
  obtain ⟨ls, hp, q⟩ := onSome_ex q
  cases r
  cases rl
  obtain ⟨vs, g1, g2⟩ := h.cell _ _ (lstO_ex hp)
  obtain ⟨x1, x2⟩ := Rep.set_cell h (lstO_ex hp) (.nil (K := K))
  exact ⟨p, vs, rfl, rfl, g1, k _ _ _ _ x1 .non x2 q⟩
theorem d_append (ho : DE X o A) (ha : DE X a B) (he : starEach [a] X.env = (false, eval a X.env) :: starEach [] X.env := by rfl) (hbase : attributeBase o "append" X.env (eval o X.env) = eval o X.env := by rfl) (hline : (apos.endLine == cpos.line) = true := by rfl)
    (hfew : ((backTo cpos (starEach [a] X.env)).all (fun x => !x.1) && (backToKw cpos (keywordEach [] X.env)).all (fun x => x.1.isSome) && decide ([a].length + ([] : List Keyword).length + (if ([] : List Keyword).isEmpty then 0 else 1) < 30)) = true := by rfl) (hplain : (backTo cpos (starEach [] X.env)).any (·.1) = false := by rfl) :
    DE X (.Call (.Attribute o "append" apos) [a] [] cpos) (dMth rAppD A (dCons B dNil)) := d_mth PySem.F.slot_list_append PySem.F.type_list_append mt_append ad_app ho (da_cons ha da_nil he) hbase hfew hline he hplain
theorem d_extend (ho : DE X o A) (ha : DE X a B) (he : starEach [a] X.env = (false, eval a X.env) :: starEach [] X.env := by rfl) (hbase : attributeBase o "extend" X.env (eval o X.env) = eval o X.env := by rfl) (hline : (apos.endLine == cpos.line) = true := by rfl)
    (hfew : ((backTo cpos (starEach [a] X.env)).all (fun x => !x.1) && (backToKw cpos (keywordEach [] X.env)).all (fun x => x.1.isSome) && decide ([a].length + ([] : List Keyword).length + (if ([] : List Keyword).isEmpty then 0 else 1) < 30)) = true := by rfl) (hplain : (backTo cpos (starEach [] X.env)).any (·.1) = false := by rfl) :
    DE X (.Call (.Attribute o "extend" apos) [a] [] cpos) (dMth rExtD A (dCons B dNil)) := d_mth PySem.F.slot_list_extend PySem.F.type_list_extend mt_extend ad_ext ho (da_cons ha da_nil he) hbase hfew hline he hplain
theorem d_clear (ho : DE X o A) (hbase : attributeBase o "clear" X.env (eval o X.env) = eval o X.env := by rfl) (hline : (apos.endLine == cpos.line) = true := by rfl) :
    DE X (.Call (.Attribute o "clear" apos) [] [] cpos) (dMth rClrD A dNil) := d_mth0 PySem.F.slot_list_clear PySem.F.type_list_clear mt_clear ad_clr ho hbase hline
end

/-! ### a def keeps its promise -/
@[simp] def startD (N : List Str) (ds : List D) : Sd := ds.map some ++ List.replicate (N.length - ds.length) none
/-- handed out, with all cells that one no longer minds forgotten -/
def outD (Q : D → Eta → Prop) (d : D) (e : Eta) : Prop := ∃ d' e', Sub e' e ∧ Vw e e' d d' ∧ Q d' e'
theorem outD.self {Q : D → Eta → Prop} {d : D} {e : Eta} (h : Q d e) : outD Q d e := ⟨d, e, .refl e, .refl d, h⟩
@[simp] def endsD (Q : D → Eta → Prop) : EndsD := { nx := fun _ e => outD Q .non e, rt := outD Q }
theorem start_rel {K : PySem.W.Frag} {Z : Addr → Prop} {e : Eta} {H : Hp} {N : List Str} {vs : List V} {ds : List D} (r : RepL K Z e H vs ds) (h : HRel K Z e H) : SR0 K Z e H (startD N ds) (L2.start N vs) := by
  refine ⟨by unfold startD L2.start; simp only [List.length_append, List.length_map, List.length_replicate, r.length], fun i d q => ?_, h⟩
  unfold startD at q
  unfold L2.start
  by_cases hi : i < ds.length
  · rw [List.getElem?_append_left (by simpa using hi), List.getElem?_map] at q
    cases z : ds[i]? with
    | none => rw [z] at q; cases q
    | some d' =>
      rw [z] at q; cases q
      obtain ⟨v, h1, h2⟩ := r.get z
      exact ⟨v, by rw [List.getElem?_append_left (by simpa [r.length] using hi), List.getElem?_map, h1]; rfl, h2⟩
  · rw [List.getElem?_append_right (by simpa using hi), List.getElem?_replicate] at q
    split at q <;> cases q
section
variable {P : Program} {w : World} {K : PySem.W.Frag} {mg : Str → Option Value} {base : Heap}
theorem fnD_ok {x qual : Str} {params : Arguments} {body : List Stmt} {scope : Scope} {f : Addr} {fd : FuncData} {N ps : List Str} {k : Nat} {sp : SpD} {dvs : List V} {kws : List (Str × V)} (F : FunD K x qual params body scope dvs kws f fd) (S : FnScope N ps scope) (len : ∀ ds e Q, sp ds e Q → ds.length = ps.length)
    {T : TSD} (hbody : ∀ (cdv : Value) (A : Around) (outer : List Env) (s : Shared) (H : Hp) (E : XK), Room k (A.deeper (envOfC qual scope s.heap.objs.size f cdv)) → DSs ⟨(cxOf CX0 P w K mg base N qual scope f cdv A outer s H E).nox, noX⟩ body T)
    (hT : ∀ ds e Q, sp ds e Q → T (endsD Q) (startD N ds) e) : FnD P w K mg base (k + 1) f fd ps sp := by
  refine F.ok S (fun vs H Q E h => ?_) (fun cdv A outer s H vs Q E hr h => ⟨_, PSs.nox (hbody cdv A outer s H E hr), ?_⟩)
  · obtain ⟨Z, ds, e, Qd, r, _, sp, _⟩ := h
    rw [r.length]; exact len _ _ _ sp
  · obtain ⟨Z, ds, e, Qd, r, h, sp, q⟩ := h
    refine ⟨Z, _, e, _, ⟨start_rel r h, .no⟩, hT ds e Qd sp, ⟨fun dl e1 sg H1 x s1 ⟨d', e', b, v, qq⟩ => ?_, fun d e1 v H1 x r1 h1 ⟨d', e', b, vw, qq⟩ => ?_, fun _ _ _ _ _ _ z => z.elim, fun _ _ _ _ _ _ z => z.elim⟩⟩
    · exact q .non H1 d' e' (x.trans b.ext) (v.rep s1.rel b .non) (s1.rel.sub b) qq
    · exact q v H1 d' e' (x.trans b.ext) (vw.rep h1 b r1) (h1.sub b) qq
end
/-- the law, asked with the script -/
def spLaw : SpD := fun ds e Q => ∃ ns : List Int, ds = [.scr ns] ∧ ns.length ≤ 63 ∧ ∀ e', Q (.bl true) e'
theorem law_sp {K : PySem.W.Frag} {H : Hp} {a : Addr} {ns : List Int} (hl : ns.length ≤ 63) (hS : SqL K H a (ns.map V.int)) : spOf K spLaw [.ref a] H (fun v _ => v = .bl true) fun _ _ _ => False := by
  refine ⟨fun _ => False, [.scr ns], fun _ => none, fun d _ => d = .bl true, .cons (.scr ?_) .nil, ⟨fun p o h => (by have h : (none : Option O) = some o := h; cases h), fun p z => False.elim z⟩, ⟨ns, rfl, hl, fun _ => rfl⟩, fun v H' d e' _ r _ q => ?_⟩
  · rcases hS with h | h
    · exact .inl ⟨fun z => z, rfl, h⟩
    · exact .inr fun H' => .inr h
  · subst q; cases r; rfl
end FL

set_option Elab.async false
set_option linter.all false
set_option maxRecDepth 100000
set_option maxHeartbeats 4000000
/-! What the layer's terms come to. -/
namespace FL
open PySem PySem.Spec PyProof.Rows L2
section
variable {α : Type}
@[simp] theorem atI_0 (a : α) (l : List α) : atI (a :: l) 0 = some a := atI_nat (xs := a :: l) (j := 0) rfl
@[simp] theorem atI_1 (a b : α) (l : List α) : atI (a :: b :: l) 1 = some b := atI_nat (xs := a :: b :: l) (j := 1) rfl
@[simp] theorem atI_2 (a b c : α) (l : List α) : atI (a :: b :: c :: l) 2 = some c := atI_nat (xs := a :: b :: c :: l) (j := 2) rfl
@[simp] theorem atI_3 (a b c d : α) (l : List α) : atI (a :: b :: c :: d :: l) 3 = some d := atI_nat (xs := a :: b :: c :: d :: l) (j := 3) rfl
@[simp] theorem atI_4 (a b c d f : α) (l : List α) : atI (a :: b :: c :: d :: f :: l) 4 = some f := atI_nat (xs := a :: b :: c :: d :: f :: l) (j := 4) rfl
theorem atI_of {xs : List α} {i : Int} (h0 : 0 ≤ i) (h1 : i < xs.length) : ∃ x, atI xs i = some x ∧ xs[i.toNat]? = some x := by
  have hl : i.toNat < xs.length := by omega
  refine ⟨xs[i.toNat], ?_, List.getElem?_eq_getElem hl⟩
  have := atI_nat (xs := xs) (j := i.toNat) (List.getElem?_eq_getElem hl)
  rwa [show ((i.toNat : Nat) : Int) = i by omega] at this
theorem atI_map {β : Type} (f : α → β) (xs : List α) (i : Int) : atI (xs.map f) i = (atI xs i).map f := by
  unfold atI
  rw [List.length_map]
  cases ixN xs.length i with
  | none => rfl
  | some j => simp
theorem atI_eq {xs : List α} {i : Int} (h0 : 0 ≤ i) : atI xs i = xs[i.toNat]? := by
  by_cases h : i < xs.length
  · obtain ⟨x, h1, h2⟩ := atI_of h0 h
    rw [h1, h2]
  · unfold atI ixN
    rw [if_pos h0, if_neg h]
    exact (List.getElem?_eq_none (by omega)).symm
end
@[simp] theorem ixN_40 : ixN 4 0 = some 0 := by decide
@[simp] theorem ixN_41 : ixN 4 1 = some 1 := by decide
@[simp] theorem ixN_42 : ixN 4 2 = some 2 := by decide
@[simp] theorem ixN_43 : ixN 4 3 = some 3 := by decide
theorem ixN_of {n : Nat} {i : Int} (h0 : 0 ≤ i) (h1 : i < n) : ixN n i = some i.toNat := by
  unfold ixN; rw [if_pos h0, if_pos h1]
/-! equality of plain things -/
theorem beqd {β : Type} [BEq β] [LawfulBEq β] [DecidableEq β] (a b : β) : (a == b) = decide (a = b) := by rw [Bool.eq_iff_iff]; simp
@[simp] theorem okD_int (i : Int) : okD (.int i) = true := by unfold okD; simp [nrD, pyD, SeqAt.shaped, PyData.canLay0, PyData.depth]
@[simp] theorem okD_bl (i : Bool) : okD (.bl i) = true := by unfold okD; simp [nrD, pyD, SeqAt.shaped, PyData.canLay0, PyData.depth]
@[simp] theorem okD_non : okD .non = true := by unfold okD; simp [nrD, pyD, SeqAt.shaped, PyData.canLay0, PyData.depth]
@[simp] theorem eqD_int (i j : Int) : eqD (.int i) (.int j) = decide (i = j) := by unfold eqD; simp only [pyD, PyData.eqv]; exact beqd _ _
@[simp] theorem eqD_bl (i j : Bool) : eqD (.bl i) (.bl j) = decide (i = j) := by unfold eqD; simp only [pyD, PyData.eqv]; exact beqd _ _
@[simp] theorem eqD_str (i j : Str) : eqD (.str i) (.str j) = decide (i = j) := by unfold eqD; simp only [pyD, PyData.eqv]; exact beqd _ _

/-! what they say of what is there -/
section
variable {α : Type} {e : Eta} {Q : D → Eta → Prop} {p : Addr} {ds es : List D} {kvs : List (Key × D)} {i j : Int} {x y z d : D} {s t : Str} {b c n : Bool} {g : Int → Int → D} {C : Int → Int → Prop}
@[simp] theorem lstO_l : lstO (some (.lst ds)) = some ds := rfl
@[simp] theorem onSome_s {a : α} {R : α → Prop} : onSome (some a) R = R a := rfl
@[simp] theorem onSome_n {R : α → Prop} : onSome none R = False := rfl
@[simp] theorem onI_i {R : Int → Prop} : onI (.int i) R = R i := rfl
@[simp] theorem onB_b {R : Bool → Prop} : onB (.bl b) R = R b := rfl
@[simp] theorem onR_r {R : Addr → Prop} : onR (.ref p) R = R p := rfl
@[simp] theorem one_o {R : D → Prop} : one [x] R = R x := rfl
@[simp] theorem seqD_l : seqD e (.lst ds) = some ds := rfl
@[simp] theorem seqD_t : seqD e (.tup ds) = some ds := rfl
@[simp] theorem seqD_r : seqD e (.ref p) = lstO (e p) := rfl
@[simp] theorem lstD_l : lstD e (.lst ds) = some ds := rfl
@[simp] theorem lstD_r : lstD e (.ref p) = lstO (e p) := rfl
@[simp] theorem keyD_i : keyD (.int i) = some (.inl i) := rfl
@[simp] theorem keyD_s : keyD (.str s) = some (.inr s) := rfl
@[simp] theorem rInt_ii : rInt C g (.int i) (.int j) e Q = (C i j ∧ Q (g i j) e) := rfl
@[simp] theorem rInt0_ii : rInt0 g (.int i) (.int j) e Q = Q (g i j) e := rfl
@[simp] theorem rPlus_ii : rPlus (.int i) (.int j) e Q = Q (.int (i + j)) e := rfl
@[simp] theorem rPlus_ss : rPlus (.str s) (.str t) e Q = (s.length + t.length ≤ sizeLine ∧ Q (.str (s ++ t)) e) := rfl
@[simp] theorem rPlus_tt : rPlus (.tup ds) (.tup es) e Q = (ds.length + es.length ≤ sizeLine ∧ Q (.tup (ds ++ es)) e) := rfl
@[simp] theorem rPlus_l : rPlus (.lst ds) y e Q = catQ (.lst ds) y e Q := by cases y <;> rfl
@[simp] theorem rPlus_r : rPlus (.ref p) y e Q = catQ (.ref p) y e Q := by cases y <;> rfl
@[simp] theorem rMul_ii : rMul c (.int i) (.int j) e Q = (CMulW i j ∧ Q (.int (i * j)) e) := rfl
@[simp] theorem rMul_li : rMul c (.lst ds) (.int j) e Q = repQ c (.lst ds) j e Q := rfl
@[simp] theorem noneD_n : noneD .non = true := rfl
@[simp] theorem noneD_b : noneD (.bl b) = false := rfl
@[simp] theorem noneD_i : noneD (.int i) = false := rfl
@[simp] theorem noneD_s : noneD (.str s) = false := rfl
@[simp] theorem noneD_t : noneD (.tup ds) = false := rfl
@[simp] theorem noneD_l : noneD (.lst ds) = false := rfl
@[simp] theorem noneD_d : noneD (.dic kvs) = false := rfl
@[simp] theorem noneD_o {C : Str} {fs : List (Str × D)} : noneD (.obj C fs) = false := rfl
@[simp] theorem noneD_r : noneD (.ref p) = false := rfl
@[simp] theorem rIsN_n : rIsN n x .non e Q = Q (.bl (if n = true then !noneD x else noneD x)) e := by cases x <;> rfl
@[simp] theorem inC_l : inC n x e Q (some (.lst ds)) = ((flatD x = true ∧ ds.all flatD = true) ∧ Q (.bl (if n = true then !inD x ds else inD x ds)) e) := rfl
@[simp] theorem inC_d : inC n x e Q (some (.dic kvs)) = onSome (keyD x) fun k => Q (.bl (if n = true then !(vD kvs k).isSome else (vD kvs k).isSome)) e := rfl
@[simp] theorem strIn_s : strIn n t e Q (.str s) = Q (.bl (if n = true then !(!(Builtin.Str.occurrences t s 0 t.length 1).isEmpty) else !(Builtin.Str.occurrences t s 0 t.length 1).isEmpty)) e := rfl
@[simp] theorem inY_s : inY n x e Q (.str t) = strIn n t e Q x := rfl
@[simp] theorem inY_r : inY n x e Q (.ref p) = inC n x e Q (e p) := rfl
@[simp] theorem inY_l : inY n x e Q (.lst ds) = ((flatD x = true ∧ ds.all flatD = true) ∧ Q (.bl (if n = true then !inD x ds else inD x ds)) e) := rfl
@[simp] theorem inY_t : inY n x e Q (.tup ds) = ((flatD x = true ∧ ds.all flatD = true) ∧ Q (.bl (if n = true then !inD x ds else inD x ds)) e) := rfl
@[simp] theorem flatD_n : flatD .non = true := rfl
@[simp] theorem flatD_b : flatD (.bl b) = true := rfl
@[simp] theorem flatD_i : flatD (.int i) = true := rfl
@[simp] theorem flatD_s : flatD (.str s) = true := rfl
@[simp] theorem flat_ints (l : List Int) : ((l.map D.int).all flatD) = true := by rw [List.all_map]; simp [Function.comp_def]
@[simp] theorem inD_ints (i : Int) (l : List Int) : inD (.int i) (l.map D.int) = decide (i ∈ l) := by
  unfold inD
  rw [List.any_map, Bool.eq_iff_iff]
  simp [toV, eqV]
@[simp] theorem atD_i : atD ds (.int i) = atI ds i := rfl
@[simp] theorem idxC_l : idxC (some (.lst ds)) y = atD ds y := rfl
@[simp] theorem idxC_k {od : Obj} {vs : List (Key × V)} : idxC (some (.lck od vs kvs)) y = (keyD y).bind fun k => vD kvs k := rfl
@[simp] theorem inC_k {od : Obj} {vs : List (Key × V)} : inC n x e Q (some (.lck od vs kvs)) = onSome (keyD x) fun k => Q (.bl (if n = true then !(vD kvs k).isSome else (vD kvs k).isSome)) e := rfl
@[simp] theorem idxC_d : idxC (some (.dic kvs)) y = (keyD y).bind fun k => vD kvs k := rfl
@[simp] theorem idxD_s : idxD e (.str s) (.int i) = if s.length ≤ sizeLine then (atI s.cps.toList i).map fun c => .str ⟨#[c]⟩ else none := rfl
@[simp] theorem idxD_l : idxD e (.lst ds) y = atD ds y := by cases y <;> rfl
@[simp] theorem idxD_t : idxD e (.tup ds) y = atD ds y := by cases y <;> rfl
@[simp] theorem idxD_d : idxD e (.dic kvs) y = (keyD y).bind fun k => vD kvs k := by cases y <;> rfl
@[simp] theorem inY_d : inY n x e Q (.dic kvs) = onSome (keyD x) fun k => Q (.bl (if n = true then !(vD kvs k).isSome else (vD kvs k).isSome)) e := rfl
@[simp] theorem idxD_r : idxD e (.ref p) y = idxC (e p) y := by cases y <;> rfl
section
variable {lo hi : Option Int} {ns : List Int}
@[simp] theorem rCut_s : rCut c lo hi e Q (.str s) = (s.length ≤ sizeLine ∧ Q (.str (cutS s lo hi)) e) := rfl
@[simp] theorem rCut_t : rCut c lo hi e Q (.tup ds) = Q (.tup (cutD ds lo hi)) e := rfl
@[simp] theorem rCut_c : rCut c lo hi e Q (.scr ns) = newQ c ((cutD ns lo hi).map D.int) e Q := rfl
@[simp] theorem rCut_l : rCut c lo hi e Q (.lst ds) = newQ c (cutD ds lo hi) e Q := rfl
@[simp] theorem rCut_r : rCut c lo hi e Q (.ref p) = onSome (lstO (e p)) fun ds => newQ c (cutD ds lo hi) e Q := rfl
end
@[simp] theorem truO_l : truO (some (.lst ds)) = some (!ds.isEmpty) := rfl
@[simp] theorem truO_d : truO (some (.dic kvs)) = some (!kvs.isEmpty) := rfl
@[simp] theorem truD_n : truD e .non = some false := rfl
@[simp] theorem truD_b : truD e (.bl b) = some b := rfl
@[simp] theorem truD_i : truD e (.int i) = some (i != 0) := rfl
@[simp] theorem truD_s : truD e (.str s) = if s.length ≤ sizeLine then some ((s.length : Int) != 0) else none := rfl
@[simp] theorem truD_t : truD e (.tup ds) = some (!ds.isEmpty) := rfl
@[simp] theorem truD_l : truD e (.lst ds) = some (!ds.isEmpty) := rfl
@[simp] theorem truD_d : truD e (.dic kvs) = some (!kvs.isEmpty) := rfl
@[simp] theorem truD_r : truD e (.ref p) = truO (e p) := rfl
@[simp] theorem lenO_l : lenO (some (.lst ds)) = some ds.length := rfl
@[simp] theorem lenO_d : lenO (some (.dic kvs)) = some kvs.length := rfl
@[simp] theorem lenD_s : lenD e (.str s) = if s.length ≤ sizeLine then some s.length else none := rfl
@[simp] theorem lenD_t : lenD e (.tup ds) = some ds.length := rfl
@[simp] theorem lenD_l : lenD e (.lst ds) = some ds.length := rfl
@[simp] theorem lenD_d : lenD e (.dic kvs) = some kvs.length := rfl
@[simp] theorem lenD_r : lenD e (.ref p) = lenO (e p) := rfl
@[simp] theorem keyT_i : keyT (.inl i) = .int i := rfl
@[simp] theorem keyT_s : keyT (.inr s) = .str s := rfl
@[simp] theorem itmO_l : itmO (some (.lst ds)) = some ds := rfl
@[simp] theorem itmO_d : itmO (some (.dic kvs)) = some (kvs.map fun kv => keyT kv.1) := rfl
@[simp] theorem itmD_l : itmD e (.lst ds) = some ds := rfl
@[simp] theorem itmD_t : itmD e (.tup ds) = some ds := rfl
@[simp] theorem itmD_d : itmD e (.dic kvs) = some (kvs.map fun kv => keyT kv.1) := rfl
@[simp] theorem itmD_r : itmD e (.ref p) = itmO (e p) := rfl
@[simp] theorem rMin2_ii : rMin2 [.int i, .int j] e Q = Q (.int (if j < i then j else i)) e := rfl
@[simp] theorem rMax2_ii : rMax2 [.int i, .int j] e Q = Q (.int (if j > i then j else i)) e := rfl
@[simp] theorem rIntC_i : rIntC [.int i] e Q = Q (.int i) e := rfl
@[simp] theorem rIntC_b : rIntC [.bl b] e Q = Q (.int (if b then 1 else 0)) e := rfl
@[simp] theorem srtO_l : srtO (some (.lst ds)) = intsD ds := rfl
@[simp] theorem srtO_d : srtO (some (.dic kvs)) = (keysI kvs).bind fun ns => if ns.length < 64 then some ns else none := rfl
@[simp] theorem srtD_l : srtD e (.lst ds) = intsD ds := rfl
@[simp] theorem srtD_r : srtD e (.ref p) = srtO (e p) := rfl
@[simp] theorem tyO_l : tyO (some (.lst ds)) = some "list" := rfl
@[simp] theorem tyO_d : tyO (some (.dic kvs)) = some "dict" := rfl
@[simp] theorem tyD_n : tyD e .non = some "NoneType" := rfl
@[simp] theorem tyD_b : tyD e (.bl b) = some "bool" := rfl
@[simp] theorem tyD_i : tyD e (.int i) = some "int" := rfl
@[simp] theorem tyD_s : tyD e (.str s) = some "str" := rfl
@[simp] theorem tyD_t : tyD e (.tup ds) = some "tuple" := rfl
@[simp] theorem tyD_l : tyD e (.lst ds) = some "list" := rfl
@[simp] theorem tyD_d : tyD e (.dic kvs) = some "dict" := rfl
@[simp] theorem tyD_r : tyD e (.ref p) = tyO (e p) := rfl
@[simp] theorem gtD_1 {k : Nat} {dl : Sd} : gtD (.one k) d dl = some (dl.set k (some d)) := rfl
@[simp] theorem gtD_m {k : List Nat} {dl : Sd} : gtD (.many k) (.tup ds) dl = setAll k ds dl := rfl
@[simp] theorem gtD_ml {k : List Nat} {dl : Sd} : gtD (.many k) (.lst ds) dl = setAll k ds dl := rfl
@[simp] theorem stoL_i : stoL e p ds d (.int i) = (ixN ds.length i).map fun j => e.put p (.lst (ds.set j d)) := rfl
@[simp] theorem stoC_l : stoC e p y d (some (.lst ds)) = stoL e p ds d y := rfl
@[simp] theorem stoC_d : stoC e p y d (some (.dic kvs)) = (keyD y).bind fun k => if kvs.length < sizeLine then some (e.put p (.dic (putD kvs k d))) else none := rfl
@[simp] theorem stoD_r : stoD e y d (.ref p) = stoC e p y d (e p) := rfl
@[simp] theorem stayD_r : stayD (.ref p) ds e = (e p = some (.lst ds)) := rfl
@[simp] theorem stayD_l : stayD (.lst es) ds e = True := rfl
@[simp] theorem stayD_t : stayD (.tup es) ds e = True := rfl
section
variable {R : List D → (Eta → Prop) → Eta → Prop}
@[simp] theorem zipX_tt : zipX e R (.tup ds) (.tup es) = R (zipD ds es) (fun _ => True) e := rfl
@[simp] theorem zipX_l : zipX e R (.lst ds) y = zipL e R (.lst ds) y := by cases y <;> rfl
@[simp] theorem zipX_r : zipX e R (.ref p) y = zipL e R (.ref p) y := by cases y <;> rfl
end
@[simp] theorem resO_l : resO p (some (.lst ds)) = .lst ds := rfl
@[simp] theorem resD_n : resD e .non = .non := rfl
@[simp] theorem resD_b : resD e (.bl b) = .bl b := rfl
@[simp] theorem resD_i : resD e (.int i) = .int i := rfl
@[simp] theorem resD_s : resD e (.str s) = .str s := rfl
@[simp] theorem resD_t : resD e (.tup ds) = .tup ds := rfl
@[simp] theorem resD_l : resD e (.lst ds) = .lst ds := rfl
@[simp] theorem resD_d : resD e (.dic kvs) = .dic kvs := rfl
@[simp] theorem resD_r : resD e (.ref p) = resO p (e p) := rfl
end
/-! small factors -/
theorem mulW_left {i j : Int} {a b : Nat} (ha : i.natAbs < 2 ^ a) (hb : j.natAbs < 2 ^ b) (h0 : 0 < a) (h1 : 0 < b) (h : a + b ≤ 1000000) : CMulW i j := wide_mul ha hb h0 h1 h
theorem mul64 {i j : Int} (ha : -(2 ^ 64) < i) (ha' : i < 2 ^ 64) (hb : -(2 ^ 64) < j) (hb' : j < 2 ^ 64) : CMulW i j := wide_mul (a := 64) (b := 64) (by omega) (by omega) (by decide) (by decide) (by decide)
theorem div64 {i j : Int} (h : 0 < j) (hb : j < 2 ^ 64) : CDivW i j := wide_div (b := 64) h (by omega) (by decide) (by decide)
end FL

set_option Elab.async false
set_option linter.all false
set_option maxRecDepth 100000
set_option maxHeartbeats 4000000
/-! The layer's rules that came later: sorted(set(ints)), dict of pairs, list(range), module constants. -/
namespace FL
open PySem PySem.Spec PyProof.Rows L2
/-! ### set(xs), xs a list of ints: its order is kept -/
abbrev newSet (w : World) : Obj := { cls := .type "set", dict := none, data := .set #[] 0 (.fresh 0 0 (!w.params.followText "set-order")) }
section
variable {P : Program} {w : World} {A : Around} {E : Value → Shared → Prop} {s : Shared}
set_option maxRecDepth 100000 in
theorem set_of_list {l : Addr} {xs : Array Value} (ns : List Int) {Q : Value → Shared → Prop} (quiet : A.handled = none) (ll : s.heap.IsList l xs) (iz : IntsAre xs.toList ns) (few : ns.length + 1 < scanBound)
    (k : ∀ (g : Heap) (tk c : Nat), SetR w g s.heap.objs.size (fun j => decide (j ∈ ns)) c → c ≤ ns.length → (∀ b o, s.heap.get? b = some o → g.get? b = some o) → Q (.ref s.heap.objs.size) { s with heap := g, toks := tk }) :
    wpAny (model P w) A (call (.type "set") [.ref l]) Q E s := by
  have size : xs.size = ns.length := by rw [← Array.length_toList]; exact IntsAre.length iz
  have ⟨c0, tl, mro⟩ := F.called_set.mro
  have f1 := F.called_set.made
  have f2 := F.called_set.sub
  refine wpAny_call (codeAny_of_tree (show wpAny _ _ (callAny (.type "set") _) _ _ _ from ?_))
  refine wpAny_pure ⟨Code.quiet_builtin _ (by decide +kernel), codeAny_builtin F.entry_type_call ?_⟩
  rw [Around.under_plain (weight_type_call_type "set" [.ref l] []) rfl]
  have f3 := F.called_set.notType
  have f4 := F.called_set.canCreate
  have f5 := F.typeCall_set_1 (.ref l)
  repeat (any_goals (first | assumption | wp_step))
  refine codeAny_mono (code_set_led1 (.ref l) (E := E) (Q₁ := fun v t => v = .ref s.heap.objs.size ∧ t = { s with heap := s.heap.push (newSet w) }) ⟨rfl, rfl⟩) fun r t hr => ?_
  rcases r with e | fl
  · exact hr
  cases fl with
  | ret v =>
    obtain ⟨rfl, rfl⟩ := hr
    have g0 : (s.heap.push (newSet w)).get? s.heap.objs.size = some (newSet w) := Heap.get?_push_size _ rfl
    have ty : Shared.TypeIs { s with heap := s.heap.push (newSet w) } (.ref s.heap.objs.size) "set" := ⟨_, g0, rfl⟩
    have f6 := F.called_set.init.lookup
    have f7 := F.called_set.init.bind (.ref s.heap.objs.size)
    repeat (any_goals (first | assumption | wp_step))
    refine codeAny_mono (codeAny_call_builtin (R := wants (fun r t => r = .none ∧ ∃ g tk c, t = { s with heap := g, toks := tk } ∧ SetR w g s.heap.objs.size (fun j => decide (j ∈ ns)) c ∧ c ≤ ns.length ∧ ∀ b o, s.heap.get? b = some o → g.get? b = some o) E)
      F.called_set.init.plain F.entry_set_init (check_set_init_1 ty ?_)) fun r t ht => ?_
    · obtain ⟨ol, hol, hcl, nl, hdl⟩ := ll
      obtain ⟨ocls, odict, odata, oslots⟩ := ol
      simp only at hcl hdl
      subst hcl; subst hdl
      have gl : (s.heap.push (newSet w)).get? l = some { cls := .type "list", dict := odict, data := .seq xs nl, slots := oslots } := Heap.get?_push_of_some _ hol
      have f8 := F.sub_list_set
      have f9 := F.sub_list_frozenset
      have f10 : (Value.type "list" == Value.type "dict") = false := by decide
      have ll1 : (s.heap.push (newSet w)).IsList l xs := ⟨_, gl, rfl, nl, rfl⟩
      unfold Builtin.«set.__init__» noKeywords Builtin.Frozenset.updateFrom
      generalize hPI : pyIter = PI
      wp_walk
      subst hPI
      refine wpAny_pyIter_list ll1 (wpAny_bind (wpAny_runValue ?_))
      have lt : l < s.heap.objs.size := Heap.lt_size hol
      have q3 : A.in1.in1.in1.handled = none := by simp [quiet]
      have nI : l ≠ (s.heap.push (newSet w)).objs.size := by rw [Heap.size_push]; exact Nat.ne_of_lt (Nat.lt_succ_of_lt lt)
      have nS : s.heap.objs.size ∉ [(s.heap.push (newSet w)).objs.size, l] := by
        rw [Heap.size_push]
        simp only [List.mem_cons, List.not_mem_nil, or_false, not_or]
        exact ⟨Nat.ne_of_lt (Nat.lt_succ_self _), Nat.ne_of_gt lt⟩
      have vals : ∀ (i : Nat) (v : Value), xs[i]? = some v → ∃ k t, ns[i]? = some k ∧ v = .int k t := fun i v hv => by
        obtain ⟨hlt, _⟩ := Array.getElem?_eq_some_iff.mp hv
        obtain ⟨t, e⟩ := PyProof.Rows.IntsAre.int_at iz i v (by rw [Array.getElem?_toList]; exact hv)
        have z : i < ns.length := by omega
        refine ⟨ns[i], t, List.getElem?_eq_getElem z, ?_⟩
        rw [e, List.getD_eq_getElem?_getD, List.getElem?_eq_getElem z] <;> rfl
      refine set_update_ints ((Walks.list q3 _ l nI xs).toS) s.heap.objs.size nS ns size few vals (xs.size - 0) 0 _ (by omega) (Nat.zero_le _) ⟨⟨_, Heap.get?_push_size _ rfl, rfl, rfl⟩, ll1.push _⟩ ?_ ?_
      · exact ⟨0, Nat.le_refl 0, setR_new_at (Heap.get?_push_of_some _ g0)⟩
      · intro t c mv hc hS
        obtain ⟨g, g2, d2, tk, os2⟩ := t
        have z1 : g2 = s.gens := mv.gens
        have z2 : d2 = s.drawn := mv.drawn
        have z3 : os2 = s.os := mv.os
        subst z1 z2 z3
        show wpAny _ _ _ _ _ _
        refine wpAny_pure (show wpAny _ _ (ret Value.none) _ _ _ from wpAny_pure ⟨rfl, g, tk, c, rfl, hS, by omega, fun b o e => ?_⟩)
        have b0 : b < s.heap.objs.size := Heap.lt_size e
        refine mv.heap b o ?_ (Heap.get?_push_of_some _ (Heap.get?_push_of_some _ e))
        rw [Heap.size_push]
        simp only [List.mem_cons, List.not_mem_nil, or_false, not_or]
        exact ⟨Nat.ne_of_lt b0, Nat.ne_of_lt (Nat.lt_succ_of_lt b0)⟩
    · rcases r with e | fl2
      · exact ht
      cases fl2 with
      | ret r =>
        obtain ⟨rfl, g, tk, c, rfl, hS, hc, hk⟩ := ht
        repeat (any_goals (first | assumption | wp_step))
        exact k _ _ _ hS hc hk
      | _ => exact ht.elim
  | _ => exact hr.elim
end
section
variable {X : Cy} {a b : Expr} {es : List Expr} {A B : TD} {T : TDs} {pos : Pos} {x : Str} {p p2 q : Pos}
theorem cr_setL (hc : X.calm = true) : CallR X (.type "set") (fun xs H Q => ∃ (l : Addr) (ns : List Int), xs = [.ref l] ∧ SqL X.K H l (ns.map V.int) ∧ ns.length < 64 ∧ ∀ p c, H p = none → c ≤ ns.length → Q (.ref p) (upd H p (SetO X.w p (fun j => decide (j ∈ ns)) c))) := by
  intro pins s σ H vs us Q I r h
  obtain ⟨l, ns, rfl, hq, h64, q⟩ := h
  rw [Vals.ref1 r]
  obtain ⟨its, rv, pl, hz⟩ := I.list hq
  refine set_of_list ns (I.ok.hd hc) pl.isList (ints_of_vals rv) (by unfold scanBound; omega) fun g tk c R hcn k => ?_
  exact ⟨.ref _, upd H s.heap.objs.size (SetO X.w s.heap.objs.size (fun j => decide (j ∈ ns)) c), I.laid (t' := tk) k (Nat.le_refl _) (setO_new R), rfl, q _ _ (I.hok.fresh (Nat.le_refl _)) hcn⟩
/-! growing, each once -/
def insI (x : Int) : List Int → List Int
  | [] => [x]
  | y :: r => if x < y then x :: y :: r else if x = y then y :: r else y :: insI x r
def usort : List Int → List Int
  | [] => []
  | x :: r => insI x (usort r)
theorem mem_insI (x k : Int) : ∀ l : List Int, k ∈ insI x l ↔ k = x ∨ k ∈ l
  | [] => by simp [insI]
  | y :: r => by
    unfold insI
    have ih := mem_insI x k r
    split
    · simp
    · split
      · subst x; simp
      · simp [ih]; constructor <;> (rintro (h | h | h) <;> simp [h])
theorem insI_sorted (x : Int) : ∀ l : List Int, l.Pairwise (· < ·) → (insI x l).Pairwise (· < ·)
  | [], _ => by simp [insI]
  | y :: r, h => by
    obtain ⟨h1, h2⟩ := List.pairwise_cons.mp h
    unfold insI
    split
    · rename_i hx
      exact List.pairwise_cons.mpr ⟨fun z hz => by
        rcases List.mem_cons.mp hz with e | e
        · omega
        · have := h1 z e; omega, h⟩
    · split
      · exact h
      · refine List.pairwise_cons.mpr ⟨fun z hz => ?_, insI_sorted x r h2⟩
        rcases (mem_insI x z r).mp hz with e | e
        · omega
        · exact h1 z e
theorem usort_sorted : ∀ l : List Int, (usort l).Pairwise (· < ·)
  | [] => .nil
  | x :: r => insI_sorted x _ (usort_sorted r)
@[simp] theorem mem_usort (k : Int) : ∀ l : List Int, k ∈ usort l ↔ k ∈ l
  | [] => by simp [usort]
  | x :: r => by rw [usort, mem_insI, mem_usort k r, List.mem_cons]
theorem sorted_unique : ∀ {l l' : List Int}, l.Pairwise (· < ·) → l'.Pairwise (· < ·) → (∀ k, k ∈ l ↔ k ∈ l') → l = l'
  | [], [], _, _, _ => rfl
  | [], y :: r, _, _, h => by have := (h y).mpr (by simp); simp at this
  | x :: r, [], _, _, h => by have := (h x).mp (by simp); simp at this
  | x :: r, y :: r', h1, h2, h => by
    obtain ⟨a1, a2⟩ := List.pairwise_cons.mp h1
    obtain ⟨b1, b2⟩ := List.pairwise_cons.mp h2
    have e : x = y := by
      rcases List.mem_cons.mp ((h x).mp (by simp)) with e | e
      · exact e
      · rcases List.mem_cons.mp ((h y).mpr (by simp)) with e2 | e2
        · exact e2.symm
        · have := a1 y e2; have := b1 x e; omega
    subst e
    rw [sorted_unique a2 b2 fun k => ?_]
    constructor
    · intro hk
      rcases List.mem_cons.mp ((h k).mp (by simp [hk])) with e | e
      · have := a1 k hk; omega
      · exact e
    · intro hk
      rcases List.mem_cons.mp ((h k).mpr (by simp [hk])) with e | e
      · have := b1 k hk; omega
      · exact e
theorem usort_eq {l l' : List Int} (s : l'.Pairwise (· < ·)) (h : ∀ k, k ∈ l' ↔ k ∈ l) : l' = usort l :=
  sorted_unique s (usort_sorted l) fun k => by rw [h k, mem_usort]
theorem usort_length : ∀ l : List Int, (usort l).length ≤ l.length
  | [] => Nat.le_refl _
  | x :: r => by
    have h : ∀ l : List Int, (insI x l).length ≤ l.length + 1 := by
      intro l
      induction l with
      | nil => simp [insI]
      | cons y l ih => unfold insI; split <;> (try split) <;> simp <;> omega
    have := h (usort r)
    have := usort_length r
    simp [usort]; omega
theorem sortI_usort {l : List Int} (n : l.Nodup) : sortI l = usort l := by
  refine usort_eq (lt_of_le_nodup _ (sortI_sorted l) ((sortI_perm l).nodup_iff.mpr n)) fun k => (sortI_perm l).mem_iff
/-- sorted(set(xs)) -/
@[simp] def dSortSet (c : Bool) (A : TD) (dl : Sd) (e : Eta) (Q : D → Eta → Prop) : Prop := A dl e fun x e1 => onSome ((lstD e1 x).bind intsD) fun ns => ns.length < 64 ∧ newQ c ((usort ns).map D.int) e1 Q
theorem d_sortset (c : Bool) (hc : X.calm = true) (hg : Gl X "sorted") (hm : X.mg "sorted" = none) (hg2 : Gl X "set") (hm2 : X.mg "set" = none) (ha : DE X a A) (he : starEach [a] X.env = (false, eval a X.env) :: starEach [] X.env := by rfl)
    (he2 : starEach [.Call (.Name "set" p2) [a] [] q] X.env = (false, eval (.Call (.Name "set" p2) [a] [] q) X.env) :: starEach [] X.env := by rfl) : DE X (.Call (.Name "sorted" p) [.Call (.Name "set" p2) [a] [] q] [] pos) (dSortSet c A) :=
  pe_imp (pe_callB (cr_sortedSet hc) hg hm PyProof.Rows.boot_sorted (pa_cons (pe_callTy (cr_setL hc) hg2 hm2 PyProof.Rows.boot_set (pa_cons ha pa_nil he) (he := he)) pa_nil he2) (he := he2)) (by
    rintro sg H Q ⟨Z, dl, e, Qd, s, t, k⟩
    refine low.use s t fun v H1 d e1 x1 r1 h1 q1 => ?_
    obtain ⟨ns, z, h64, q1⟩ := onSome_ex q1
    obtain ⟨ds, g1, g2⟩ := Option.bind_eq_some_iff.mp z
    obtain ⟨l, vs, rfl, g, rl⟩ := lst_at h1 r1 g1
    refine ⟨l, ns, rfl, by rw [← ints_at rl g2]; exact SqL.of g, h64, fun p n hp hn => ?_⟩
    obtain ⟨x2, h2⟩ := h1.junk (u := SetO X.w p (fun j => decide (j ∈ ns)) n) hp
    refine ⟨p, _, n, rfl, upd_same, by omega, fun ys p' hs hm hl hp' => ?_⟩
    rw [usort_eq (l := ns) hs fun k => by rw [hm k, decide_eq_true_eq]]
    exact new_or h2 hp' (RepL.ints _) q1 fun v H' d e' x r h q => k v H' d e' (x1.trans (x2.trans x)) r h q)
/-! ### dict(pairs) -/
def pairK : D → Option (Key × D)
  | .tup [k, v] => (keyD k).map fun k => (k, v)
  | _ => none
def pairsK : List D → Option (List (Key × D))
  | [] => some []
  | d :: r => (pairK d).bind fun kv => (pairsK r).map (kv :: ·)
def mergeD {α : Type} (kvs more : List (Key × α)) : List (Key × α) := more.foldl (fun acc kv => putD acc kv.1 kv.2) kvs
theorem mergeK_eq : ∀ (more kvs : List (Key × V)), mergeK kvs more = mergeD kvs more
  | [], _ => rfl
  | kv :: r, kvs => by
    show mergeK (putK kvs kv.1 kv.2) r = mergeD (putD kvs kv.1 kv.2) r
    rw [putD_eq, mergeK_eq r]
theorem RepK.merge {K : PySem.W.Frag} {Z : Addr → Prop} {e : Eta} {H : Hp} : ∀ {ms : List (Key × V)} {md : List (Key × D)}, RepK K Z e H ms md → ∀ {vs : List (Key × V)} {ds : List (Key × D)}, RepK K Z e H vs ds → RepK K Z e H (mergeD vs ms) (mergeD ds md)
  | _, _, .nil, _, _, r => r
  | _, _, .cons (k := k) a m, _, _, r => RepK.merge m (RepK.put a k r)
theorem pairs_at {K : PySem.W.Frag} {Z : Addr → Prop} {e : Eta} {H : Hp} : ∀ {vs : List V} {ds : List D} {kvs : List (Key × D)}, RepL K Z e H vs ds → pairsK ds = some kvs → ∃ (ps : List Addr) (ms : List (Key × V)), vs = ps.map V.ref ∧ Paired (fun p kv => SqT K H p [kV kv.1, kv.2]) ps ms ∧ RepK K Z e H ms kvs
  | _, _, _, .nil, h => by cases h; exact ⟨[], [], rfl, .nil, .nil⟩
  | _, _, _, .cons (d := d) a r, h => by
    obtain ⟨kv, h1, h2⟩ := Option.bind_eq_some_iff.mp (show (pairK d).bind _ = some _ from h)
    obtain ⟨kvs, h3, rfl⟩ := Option.map_eq_some_iff.mp h2
    obtain ⟨ps, ms, rfl, g1, g2⟩ := pairs_at r h3
    unfold pairK at h1
    split at h1
    · obtain ⟨k, hk, rfl⟩ := Option.map_eq_some_iff.mp h1
      cases a with
      | tup f rr =>
        obtain ⟨x, y, rfl, ra, rb⟩ := rr.two
        refine ⟨_ :: ps, (k, y) :: ms, rfl, .cons ?_ g1, .cons rb g2⟩
        rw [show kV k = x from (keyD_at ra hk).symm]
        exact SqT.of f.2.2
    · cases h1
@[simp] def rDictP : RC := fun xs e Q => one xs fun x => onSome ((lstD e x).bind pairsK) fun kvs => ∀ p, e p = none → Q (.ref p) (e.put p (.dic (mergeD [] kvs)))
abbrev vDictP (K : PySem.W.Frag) : List V → Hp → VK → Prop := fun xs H Q => ∃ (a : Addr) (ps : List Addr) (kvs : List (Key × V)), xs = [.ref a] ∧ SqL K H a (ps.map V.ref) ∧ Paired (fun p kv => SqT K H p [kV kv.1, kv.2]) ps kvs ∧ ∀ p, H p = none → Q (.ref p) (upd H p (.dK (mergeK [] kvs)))
theorem ad_dictP {K : PySem.W.Frag} : AdC K (vDictP K) rDictP := ad_one (R := fun x e Q => onSome ((lstD e x).bind pairsK) fun kvs => ∀ p, e p = none → Q (.ref p) (e.put p (.dic (mergeD [] kvs)))) fun Z e H x d Qd Q h r q k => by
  obtain ⟨kvs, z, q⟩ := onSome_ex q
  obtain ⟨ds, h1, h2⟩ := Option.bind_eq_some_iff.mp z
  obtain ⟨a, vs, rfl, g, rl⟩ := lst_at h r h1
  obtain ⟨ps, ms, rfl, g1, g2⟩ := pairs_at rl h2
  refine ⟨a, ps, ms, rfl, SqL.of g, g1, fun p hp => ?_⟩
  rw [mergeK_eq]
  obtain ⟨x2, h2⟩ := h.newc (o := .dic (mergeD [] kvs)) (u := .dK (mergeD [] ms)) hp fun x2 _ => ⟨_, upd_same, (RepK.merge g2 .nil).ext x2⟩
  exact k _ _ _ _ x2 (.ref p) h2 (q p (h.free hp).1)
theorem d_dictP (hc : X.calm = true) (hg : Gl X "dict") (hm : X.mg "dict" = none) (ha : DA X [a] T) (he : starEach [a] X.env = (false, eval a X.env) :: starEach [] X.env := by rfl) : DE X (.Call (.Name "dict" p) [a] [] pos) (dCall rDictP T) :=
  d_callT (call_dictP hc) ad_dictP hg hm PyProof.Rows.boot_dict ha (he := he)
/-! ### list(range(n)) -/
@[simp] def dListRg (c : Bool) (A : TD) (dl : Sd) (e : Eta) (Q : D → Eta → Prop) : Prop := A dl e fun x e1 => onI x fun j => (-(2 ^ 62) ≤ j ∧ j < 2 ^ 62 ∧ j.toNat ≤ 2 ^ 24) ∧ newQ c (rngD 0 j.toNat) e1 Q
theorem d_listRg (c : Bool) (hc : X.calm = true) (hg : Gl X "list") (hm : X.mg "list" = none) (hg2 : Gl X "range") (hm2 : X.mg "range" = none) (ha : DE X a A) (he : starEach [a] X.env = (false, eval a X.env) :: starEach [] X.env := by rfl)
    (he2 : starEach [.Call (.Name "range" p2) [a] [] q] X.env = (false, eval (.Call (.Name "range" p2) [a] [] q) X.env) :: starEach [] X.env := by rfl) : DE X (.Call (.Name "list" p) [.Call (.Name "range" p2) [a] [] q] [] pos) (dListRg c A) :=
  pe_imp (pe_listRg hc hg hm (prg_1 hg2 hm2 ha he) he2) (by
    rintro sg H Q ⟨Z, dl, e, Qd, s, t, k⟩
    refine low.use s t fun v H1 d e1 x1 r1 h1 q1 => ?_
    cases r1 with
    | int j =>
      refine ⟨j, rfl, ⟨by decide, by decide, q1.1.1, q1.1.2.1, by simpa using q1.1.2.2⟩, fun p hp => ?_⟩
      have er : rgV 0 j = (List.range j.toNat).map fun (i : Nat) => V.int (0 + (i : Int)) := by unfold rgV; rw [Int.sub_zero]
      rw [er]
      exact new_or h1 hp (RepL.map (fun i => .int _) _) q1.2 fun v H' d e' x r h q => k v H' d e' (x1.trans x) r h q
    | _ => exact q1.elim)
end
/-! equality -/
@[simp] theorem rEq2_v {n : Bool} {x y : D} {e : Eta} {Q : D → Eta → Prop} : rEq2 n x y e Q = ((okD (resD e x) = true ∧ okD (resD e y) = true) ∧ Q (.bl (if n = true then !eqD (resD e x) (resD e y) else eqD (resD e x) (resD e y))) e) := rfl
end FL

set_option Elab.async false
set_option linter.all false
set_option maxRecDepth 100000
set_option maxHeartbeats 4000000
/-! Loops, comprehensions and lists as one uses them. -/
namespace FL
open PySem PySem.Spec PyProof.Rows L2
/-! ### trees of a shape -/
def shD : Nat → D → Bool
  | _, .non => true
  | _, .bl _ => true
  | _, .int _ => true
  | _, .str x => PyData.strOk x
  | n + 1, .tup ds => decide (ds.length ≤ 4096) && ds.all (shD n)
  | n + 1, .lst ds => decide (ds.length ≤ 4096) && ds.all (shD n)
  | _, _ => false
theorem shD_all {n : Nat} (f : ∀ d, shD n d = true → nrD d = true ∧ (pyD d).canLay0 = true ∧ (pyD d).depth ≤ n) : ∀ ds : List D, ds.all (shD n) = true → nrDs ds = true ∧ PyData.canLayAll0 (pyDs ds) = true ∧ PyData.depthAll (pyDs ds) ≤ n
  | [], _ => by simp [nrDs, pyDs, PyData.canLayAll0, PyData.depthAll]
  | d :: ds, h => by
    rw [List.all_cons] at h
    obtain ⟨h1, h2⟩ := Bool.and_eq_true_iff.mp h
    obtain ⟨a1, a2, a3⟩ := f d h1
    obtain ⟨b1, b2, b3⟩ := shD_all f ds h2
    refine ⟨by rw [nrDs, a1, b1]; rfl, by rw [pyDs, PyData.canLayAll0, a2, b2]; rfl, by rw [pyDs, PyData.depthAll]; omega⟩
theorem shD_ok : ∀ (n : Nat) (d : D), shD n d = true → nrD d = true ∧ (pyD d).canLay0 = true ∧ (pyD d).depth ≤ n
  | n, .non, _ => by simp [nrD, pyD, PyData.canLay0, PyData.depth]
  | n, .bl _, _ => by simp [nrD, pyD, PyData.canLay0, PyData.depth]
  | n, .int _, _ => by simp [nrD, pyD, PyData.canLay0, PyData.depth]
  | n, .str x, h => by cases n <;> exact ⟨rfl, by rw [pyD, PyData.canLay0]; exact h, by simp [pyD, PyData.depth]⟩
  | 0, .tup _, h => by cases h
  | 0, .lst _, h => by cases h
  | n + 1, .tup ds, h => by
    obtain ⟨a1, a2, a3⟩ := shD_all (shD_ok n) ds (Bool.and_eq_true_iff.mp h).2
    exact ⟨a1, by rw [pyD, PyData.canLay0]; exact a2, by rw [pyD, PyData.depth]; omega⟩
  | n + 1, .lst ds, h => by
    obtain ⟨a1, a2, a3⟩ := shD_all (shD_ok n) ds (Bool.and_eq_true_iff.mp h).2
    exact ⟨a1, by rw [pyD, PyData.canLay0]; exact a2, by rw [pyD, PyData.depth]; omega⟩
  | n, .ref _, h => by cases n <;> cases h
  | n, .scr _, h => by cases n <;> cases h
  | n, .dic _, h => by cases n <;> cases h
  | n, .obj _ _, h => by cases n <;> cases h
  | n, .exc _ _, h => by cases n <;> cases h
theorem okD_sh {n : Nat} {d : D} (h : shD n d = true) (hn : n ≤ 64 := by decide) : okD d = true := by
  obtain ⟨h1, h2, h3⟩ := shD_ok n d h
  unfold okD SeqAt.shaped
  rw [h1, h2, decide_eq_true (by omega : (pyD d).depth ≤ 64)]; rfl
theorem eqD_sh {n : Nat} {d : D} (h : shD n d = true) : eqD d d = true   := SeqAt.eqv_refl _ (shD_ok n d h).2.1
@[simp] theorem shD_int {n : Nat} {i : Int} : shD n (.int i) = true := by cases n <;> rfl
@[simp] theorem shD_bl {n : Nat} {i : Bool} : shD n (.bl i) = true := by cases n <;> rfl
@[simp] theorem shD_non {n : Nat} : shD n .non = true := by cases n <;> rfl
@[simp] theorem shD_str {n : Nat} {x : Str} : shD n (.str x) = PyData.strOk x := by cases n <;> rfl
@[simp] theorem shD_lst {n : Nat} {ds : List D} : shD (n + 1) (.lst ds) = (decide (ds.length ≤ 4096) && ds.all (shD n)) := rfl
@[simp] theorem shD_tup {n : Nat} {ds : List D} : shD (n + 1) (.tup ds) = (decide (ds.length ≤ 4096) && ds.all (shD n)) := rfl
theorem all_sh {α : Type} {n : Nat} {f : α → D} (h : ∀ a, shD n (f a) = true) (l : List α) : ((l.map f).all (shD n)) = true := by
  rw [List.all_map]; exact List.all_eq_true.mpr fun a _ => h a

/-! ### a list, a cell or a tree -/
section
variable {e : Eta} {a b x : D} {ds es : List D} {Q : D → Eta → Prop}
theorem lstD_cases (h : lstD e a = some ds) : a = .lst ds ∨ ∃ p, a = .ref p ∧ e p = some (.lst ds) := by
  cases a with
  | lst d => cases h; exact .inl rfl
  | ref p => exact .inr ⟨p, rfl, lstO_ex h⟩
  | _ => cases h
theorem stay_lst (h : lstD e a = some ds) : stayD a ds e := by
  rcases lstD_cases h with rfl | ⟨p, rfl, h'⟩
  · trivial
  · exact h'
theorem seqD_lst (h : lstD e a = some ds) : seqD e a = some ds := by
  rcases lstD_cases h with rfl | ⟨p, rfl, h'⟩ <;> simp [*]
theorem itmD_lst (h : lstD e a = some ds) : itmD e a = some ds := by
  rcases lstD_cases h with rfl | ⟨p, rfl, h'⟩ <;> simp [*]
theorem lenD_lst (h : lstD e a = some ds) : lenD e a = some ds.length := by
  rcases lstD_cases h with rfl | ⟨p, rfl, h'⟩ <;> simp [*]
theorem tyD_lst (h : lstD e a = some ds) : tyD e a = some "list" := by
  rcases lstD_cases h with rfl | ⟨p, rfl, h'⟩ <;> simp [*]
theorem resD_lst (h : lstD e a = some ds) : resD e a = .lst ds := by
  rcases lstD_cases h with rfl | ⟨p, rfl, h'⟩ <;> simp [*]
theorem idxD_lst (h : lstD e a = some ds) : idxD e a x = atD ds x := by
  rcases lstD_cases h with rfl | ⟨p, rfl, h'⟩ <;> simp [*]
theorem truD_lst (h : lstD e a = some ds) : truD e a = some (!ds.isEmpty) := by
  rcases lstD_cases h with rfl | ⟨p, rfl, h'⟩ <;> simp [*]
theorem noneD_lst (h : lstD e a = some ds) : noneD a = false := by
  rcases lstD_cases h with rfl | ⟨p, rfl, h'⟩ <;> simp [*]
theorem srtD_lst (h : lstD e a = some ds) : srtD e a = intsD ds := by
  rcases lstD_cases h with rfl | ⟨p, rfl, h'⟩ <;> simp [*]
theorem inY_lst {n : Bool} (h : lstD e a = some ds) : inY n x e Q a = ((flatD x = true ∧ ds.all flatD = true) ∧ Q (.bl (if n = true then !inD x ds else inD x ds)) e) := by
  rcases lstD_cases h with rfl | ⟨p, rfl, h'⟩ <;> simp [*]
theorem zipX_lst {R : List D → (Eta → Prop) → Eta → Prop} (h : lstD e a = some ds) (g : lstD e b = some es) : zipX e R a b = R (zipD ds es) (fun e => stayD a ds e ∧ stayD b es e) e := by
  rcases lstD_cases h with rfl | ⟨p, rfl, h'⟩ <;> simp [*]
theorem rPlus_lst (h : lstD e a = some ds) (g : lstD e b = some es) (hl : ds.length + es.length ≤ sizeLine) (q : Q (.lst (ds ++ es)) e) : rPlus a b e Q := by
  rcases lstD_cases h with rfl | ⟨p, rfl, h'⟩
  · simp [g]; exact ⟨hl, q⟩
  · simp [g, h']; exact ⟨hl, q⟩
theorem lstD_put {p : Addr} {o : O} (h : lstD e a = some ds) (n : e p = none) : lstD (e.put p o) a = some ds := by
  rcases lstD_cases h with rfl | ⟨q, rfl, h'⟩
  · rfl
  · show lstO ((e.put p o) q) = _
    rw [put_ne (ne_cell n h'), h']; rfl
end
/-! ### comprehensions -/
section
variable {C : Eta → Prop} {g : GT} {tt : TDb} {te : TD} {vs : List Nat} {dl : Sd} {e : Eta} {Q : List D → Eta → Prop} {α : Type}
/-- nothing changes: what is kept, what it becomes -/
theorem comp_pure {f h : α → D} {p : α → Bool} (hc : C e) : ∀ (xs : List α) (acc : List D), (∀ x ∈ xs, onSome (gtD g (f x) (wipeD dl vs)) fun dl' => (∀ K : Bool → Eta → Prop, K (p x) e → tt dl' e K) ∧ (p x = true → ∀ K : D → Eta → Prop, K (h x) e → te dl' e K)) →
    Q (acc ++ (xs.filter p).map h) e → compD C g tt te vs (xs.map f) acc dl e Q
  | [], acc, _, q => ⟨hc, by simpa using q⟩
  | x :: xs, acc, hx, q => by
    refine ⟨hc, ?_⟩
    have h1 := hx x (by simp)
    obtain ⟨dl', z, h1, h2⟩ := onSome_ex h1
    rw [z]
    refine h1 _ ?_
    cases hp : p x with
    | true =>
      rw [if_pos rfl]
      refine h2 hp _ (comp_pure hc xs _ (fun y hy => hx y (by simp [hy])) ?_)
      simpa [List.filter_cons, hp] using q
    | false =>
      rw [if_neg Bool.false_ne_true]
      refine comp_pure hc xs _ (fun y hy => hx y (by simp [hy])) ?_
      simpa [List.filter_cons, hp] using q
/-- by what holds at each turn -/
theorem comp_inv (I : Nat → List D → Eta → Prop) {xs : List D} (hC : ∀ i acc e, I i acc e → C e) (h0 : I 0 [] e)
    (step : ∀ i x acc e (N : List D → Eta → Prop), xs[i]? = some x → I i acc e → (∀ y e', I (i + 1) (acc ++ [y]) e' → N (acc ++ [y]) e') → (∀ e', I (i + 1) acc e' → N acc e') →
      onSome (gtD g x (wipeD dl vs)) fun dl' => tt dl' e fun b e1 => if b = true then te dl' e1 fun y e2 => N (acc ++ [y]) e2 else N acc e1)
    (fin : ∀ acc e, I xs.length acc e → Q acc e) : compD C g tt te vs xs [] dl e Q := by
  suffices H : ∀ (k i : Nat) (acc : List D) (e : Eta), i + k = xs.length → I i acc e → compD C g tt te vs (xs.drop i) acc dl e Q from H xs.length 0 [] e (by omega) h0
  intro k
  induction k with
  | zero =>
    intro i acc e hi h
    rw [List.drop_eq_nil_of_le (by omega)]
    have : i = xs.length := by omega
    subst this
    exact ⟨hC _ _ _ h, fin _ _ h⟩
  | succ k ih =>
    intro i acc e hi h
    have lt : i < xs.length := by omega
    rw [List.drop_eq_getElem_cons lt]
    exact ⟨hC _ _ _ h, step i _ acc e (fun acc e => compD C g tt te vs (xs.drop (i + 1)) acc dl e Q) (List.getElem?_eq_getElem lt) h (fun y e' h' => ih (i + 1) _ e' (by omega) h') fun e' h' => ih (i + 1) _ e' (by omega) h'⟩
end
/-! ### loops -/
theorem for_inv {C : Eta → Prop} {g : GT} {body : TSD} {xs : List D} {E : EndsD} {dl : Sd} {e : Eta} (I : Nat → Sd → Eta → Prop) (hC : ∀ i dl e, I i dl e → C e) (h0 : I 0 dl e)
    (step : ∀ i x dl e (N : Sd → Eta → Prop), xs[i]? = some x → I i dl e → (∀ dl' e', I (i + 1) dl' e' → N dl' e') → onSome (gtD g x dl) fun dl' => body { nx := N, rt := E.rt, bk := E.nx, ct := N } dl' e)
    (fin : ∀ dl e, I xs.length dl e → E.nx dl e) : forD C g body xs E dl e := by
  suffices H : ∀ (k i : Nat) (dl : Sd) (e : Eta), i + k = xs.length → I i dl e → forD C g body (xs.drop i) E dl e from H xs.length 0 dl e (by omega) h0
  intro k
  induction k with
  | zero =>
    intro i dl e hi h
    rw [List.drop_eq_nil_of_le (by omega)]
    have : i = xs.length := by omega
    subst this
    exact ⟨hC _ _ _ h, fin _ _ h⟩
  | succ k ih =>
    intro i dl e hi h
    have lt : i < xs.length := by omega
    rw [List.drop_eq_getElem_cons lt]
    exact ⟨hC _ _ _ h, step i _ dl e (fun dl e => forD C g body (xs.drop (i + 1)) E dl e) (List.getElem?_eq_getElem lt) h fun dl' e' h' => ih (i + 1) dl' e' (by omega) h'⟩
theorem rng_at {lo : Int} {n i : Nat} {x : D} (h : (rngD lo n)[i]? = some x) : x = .int (lo + i) ∧ i < n := by
  by_cases hi : i < n
  · rw [rngD_get hi] at h; cases h; exact ⟨rfl, hi⟩
  · rw [List.getElem?_eq_none (by rw [rngD_length]; omega)] at h; cases h
theorem map_at {α : Type} {f : α → D} {l : List α} {i : Nat} {x : D} (h : (l.map f)[i]? = some x) : ∃ a, l[i]? = some a ∧ x = f a := by
  rw [List.getElem?_map] at h
  obtain ⟨a, h1, h2⟩ := Option.map_eq_some_iff.mp h
  exact ⟨a, h1, h2.symm⟩
/-! ### a def's other promises -/
section
variable {P : Program} {w : World} {K : PySem.W.Frag} {mg : Str → Option Value} {base : Heap} {k : Nat} {f : Addr} {fd : FuncData} {ps : List Str} {sp sp' : SpD}
theorem FnD.view (F : FnD P w K mg base k f fd ps sp) (h : ∀ ds e Q, sp' ds e Q → sp ds e (outD Q)) : FnD P w K mg base k f fd ps sp' :=
  F.imp (by
    rintro vs H Q E ⟨Z, ds, e, Qd, r, hr, s, q⟩
    refine ⟨Z, ds, e, _, r, hr, h _ _ _ s, fun v H' d e' x rv h1 ⟨d', e2, b, vw, qq⟩ => ?_⟩
    exact q v H' d' e2 (x.trans b.ext) (vw.rep h1 b rv) (h1.sub b) qq)
theorem FnD.weak (F : FnD P w K mg base k f fd ps sp) (h : ∀ ds e Q, sp' ds e Q → sp ds e Q) : FnD P w K mg base k f fd ps sp' :=
  F.imp (by
    rintro vs H Q E ⟨Z, ds, e, Qd, r, hr, s, q⟩
    exact ⟨Z, ds, e, _, r, hr, h _ _ _ s, q⟩)
def spNo : SpD := fun _ _ _ => False
theorem FnD.no : FnD P w K mg base k f fd ps spNo := ⟨fun vs H Q E h => by
    obtain ⟨Z, ds, e, Qd, r, hr, s, q⟩ := h
    exact s.elim, fun A outer s H args us vs Q E _ _ _ _ h => by
    obtain ⟨Z, ds, e, Qd, r, hr, s, q⟩ := h
    exact s.elim⟩
end
/-- a cell that is told is read as a tree -/
theorem out_cell {Q : D → Eta → Prop} {e e1 : Eta} {p : Addr} {ds : List D} (h : e1 p = some (.lst ds)) (n : e p = none) (s : Sub e e1) (q : Q (.lst ds) e) : outD Q (.ref p) e1 :=
  ⟨.lst ds, e, s, .cell h n (VwL.refl ds), q⟩
end FL

set_option Elab.async false
set_option linter.all false
set_option maxRecDepth 100000
set_option maxHeartbeats 4000000
/-! The laws' own helpers: what they draw. -/
namespace FL
open PySem PySem.Spec PyProof.Rows L2
abbrev nm_law_box : List Str := ["_law_script"]

def t_law_box : TSD :=
 (dRet (dLstC (dCons (dCall (rList false) (dCons (dCut false (dVar 0) dNo (dSome (dC (.int 63)))) dNil)) (dCons (dC (.int 0)) (dCons (dC (.int 0)) (dCons (dC (.int 17)) dNil))))))

abbrev nm_law_take : List Str := ["_law_box_here", "_law_many", "_law_cell", "_law_seed", "_law_rest"]

def t_law_take : TSD :=
 (dSeq (dIfS (dTest (dOp rGtD (dOp rIdx (dVar 0) (dC (.int 2))) (dC (.int 0)))) (dSeq (dAsg (dOp rIdx (dVar 0) (dC (.int 2))) (.one 4))
 (dSeq (dSto (dVar 0) (dC (.int 2)) (dOp rDivD (dVar 4) (dVar 1)))
 (dRet (dOp rModD (dVar 4) (dVar 1)))))
 dNx)
 (dSeq (dAsg (dC (.int 0)) (.one 2))
 (dSeq (dIfS (dTest (dOp rLtD (dOp rIdx (dVar 0) (dC (.int 1))) (dCall rLen' (dCons (dOp rIdx (dVar 0) (dC (.int 0))) dNil)))) (dSeq (dAsg (dOp rIdx (dOp rIdx (dVar 0) (dC (.int 0))) (dOp rIdx (dVar 0) (dC (.int 1)))) (.one 2))
 (dAugS (dVar 0) (dC (.int 1)) (dC (.int 1)) rAddI))
 dNx)
 (dSeq (dIfS (dTest (dOp rGeD (dVar 2) (dOp rPowD (dC (.int 10)) (dC (.int 18))))) (dSeq (dSto (dVar 0) (dC (.int 2)) (dOp rDivD (dVar 2) (dVar 1)))
 (dRet (dOp rModD (dVar 2) (dVar 1))))
 dNx)
 (dSeq (dAsg (dOp rIdx (dVar 0) (dC (.int 3))) (.one 3))
 (dSeq (dAsg (dOp rPlus (dOp rPlus (dOp rPowD (dVar 3) (dC (.int 3))) (dOp (rMul false) (dC (.int 48271)) (dVar 3))) (dOp (rMul false) (dC (.int 69621)) (dOp rModD (dVar 2) (dC (.int 2147483629))))) (.one 3))
 (dSeq (dSto (dVar 0) (dC (.int 3)) (dOp rModD (dOp rPlus (dVar 3) (dC (.int 11))) (dC (.int 2147483629))))
 (dRet (dOp rModD (dOp rDivD (dOp rIdx (dVar 0) (dC (.int 3))) (dC (.int 64))) (dVar 1))))))))))

/-- the box that draws: the script's numbers, the place, what is left of a great one, the seed -/
def BoxO (o : O) : Prop := ∃ (ns : List Int) (i r s : Int), o = .lst [.lst (ns.map .int), .int i, .int r, .int s] ∧ 0 ≤ i ∧ 0 ≤ s ∧ s < 2147483629
def sp_law_box : SpD := fun ds e Q => ∃ ns, ds = [.scr ns] ∧ ∀ b o, e b = none → BoxO o → Q (.ref b) (e.put b o)
theorem rd_law_box (ds : List D) (e : Eta) (Q : D → Eta → Prop) (h : sp_law_box ds e Q) : t_law_box (endsD Q) (startD nm_law_box ds) e := by
  obtain ⟨ns, rfl, k⟩ := h
  simp [t_law_box]
  refine ⟨by decide, fun p hp => outD.self (k p _ hp ⟨cutD ns none (some 63), 0, 0, 17, rfl, by decide, by decide, by decide⟩)⟩
def sp_law_take : SpD := fun ds e Q => ∃ b many o, ds = [.ref b, .int many] ∧ e b = some o ∧ BoxO o ∧ 0 < many ∧ many < 2 ^ 64 ∧ ∀ i o', BoxO o' → 0 ≤ i → i < many → Q (.int i) (e.put b o')
theorem cpow3 {s : Int} (h0 : 0 ≤ s) (h1 : s < 2147483629) : CPow s 3 := ⟨by decide, by decide, by omega⟩
theorem emod_box {x : Int} : 0 ≤ x % 2147483629 ∧ x % 2147483629 < 2147483629 := ⟨Int.emod_nonneg _ (by decide), Int.emod_lt_of_pos _ (by decide)⟩
theorem rd_law_take (ds : List D) (e : Eta) (Q : D → Eta → Prop) (h : sp_law_take ds e Q) : t_law_take (endsD Q) (startD nm_law_take ds) e := by
  obtain ⟨b, many, o, rfl, hb, ⟨ns, i, r, s, rfl, hi, hs, hs2⟩, h0, h1, k⟩ := h
  have fin : ∀ (x i r s : Int), 0 ≤ i → 0 ≤ s → s < 2147483629 → outD Q (.int (x % many)) (e.put b (.lst [.lst (ns.map .int), .int i, .int r, .int s])) := fun x i r s a1 a2 a3 =>
    outD.self (k _ _ ⟨ns, i, r, s, rfl, a1, a2, a3⟩ (Int.emod_nonneg _ (by omega)) (Int.emod_lt_of_pos _ h0))
  have c18 : CPow 10 18 := ⟨by decide, by decide, by decide⟩
  by_cases hr : 0 < r
  · simp [t_law_take, hb, hr]
    exact ⟨div64 h0 h1, h0, fin _ _ _ _ hi hs hs2⟩
  · by_cases hl : i < ns.length
    · obtain ⟨c, hc, _⟩ := atI_of hi hl
      by_cases h18 : 1000000000000000000 ≤ c
      · simp [t_law_take, hb, hr, hl, atI_map, hc, h18]
        exact ⟨c18, div64 h0 h1, h0, fin _ _ _ _ (by omega) hs hs2⟩
      · simp [t_law_take, hb, hr, hl, atI_map, hc, h18]
        have m := @emod_box c
        refine ⟨c18, cpow3 hs hs2, mul64 (by decide) (by decide) (by omega) (by omega), mul64 (by decide) (by decide) (by omega) (by omega), div64 (by decide) (by decide), h0, fin _ _ _ _ (by omega) emod_box.1 emod_box.2⟩
    · simp [t_law_take, hb, hr, hl]
      exact ⟨c18, cpow3 hs hs2, mul64 (by decide) (by decide) (by omega) (by omega), mul64 (by decide) (by decide) (by decide) (by decide), div64 (by decide) (by decide), h0, fin _ _ _ _ hi emod_box.1 emod_box.2⟩
/-- a draw, as one uses it -/
theorem use_take {b : Addr} {many : Int} {o : O} {e : Eta} {Q : D → Eta → Prop} (hb : e b = some o) (ho : BoxO o) (h0 : 0 < many) (h1 : many < 2 ^ 64) (k : ∀ i o', BoxO o' → 0 ≤ i → i < many → Q (.int i) (e.put b o')) : sp_law_take [.ref b, .int many] e Q := ⟨b, many, o, rfl, hb, ho, h0, h1, k⟩
abbrev nm_law_great : List Str := ["_law_box_here", "_law_ways", "_law_found", "_law_k"]

def t_law_great : TSD :=
 (dSeq (dAsg (dCall sp_law_take (dCons (dVar 0) (dCons (dC (.int 4)) dNil))) (.one 1))
 (dSeq (dIfS (dTest (dOp (rEq2 false) (dVar 1) (dC (.int 0)))) (dRet (dCall sp_law_take (dCons (dVar 0) (dCons (dC (.int 10)) dNil))))
 dNx)
 (dSeq (dIfS (dTest (dOp (rEq2 false) (dVar 1) (dC (.int 1)))) (dRet (dCall sp_law_take (dCons (dVar 0) (dCons (dC (.int 1000000)) dNil))))
 dNx)
 (dSeq (dAsg (dC (.int 0)) (.one 2))
 (dSeq (dFor (iRng1 (dC (.int 3))) (.one 3)
 (dAsg (dOp rPlus (dOp (rMul false) (dVar 2) (dC (.int 1000000))) (dCall sp_law_take (dCons (dVar 0) (dCons (dC (.int 1000000)) dNil)))) (.one 2)))
 (dRet (dVar 2)))))))

def sp_law_great : SpD := fun ds e Q => ∃ b o, ds = [.ref b] ∧ e b = some o ∧ BoxO o ∧ ∀ i o', BoxO o' → 0 ≤ i → i < 10 ^ 18 → Q (.int i) (e.put b o')
theorem rd_law_great (ds : List D) (e : Eta) (Q : D → Eta → Prop) (h : sp_law_great ds e Q) : t_law_great (endsD Q) (startD nm_law_great ds) e := by
  obtain ⟨b, o, rfl, hb, ho, k⟩ := h
  simp [t_law_great]
  refine use_take hb ho (by decide) (by decide) fun w o1 h1 w0 w1 => ?_
  simp
  by_cases hw : w = 0
  · simp [hw]
    exact use_take put_same h1 (by decide) (by decide) fun i o2 h2 i0 i1 => outD.self (by rw [put_put]; exact k _ _ h2 i0 (by omega))
  · by_cases hw1 : w = 1
    · simp [hw1]
      exact use_take put_same h1 (by decide) (by decide) fun i o2 h2 i0 i1 => outD.self (by rw [put_put]; exact k _ _ h2 i0 (by omega))
    · simp [hw, hw1, rngD, List.range_succ, forD]
      refine ⟨mul64 (by decide) (by decide) (by decide) (by decide), use_take put_same h1 (by decide) (by decide) fun i o2 h2 i0 i1 => ?_⟩
      simp
      refine ⟨mul64 (by omega) (by omega) (by decide) (by decide), use_take put_same h2 (by decide) (by decide) fun j o3 h3 j0 j1 => ?_⟩
      simp
      refine ⟨mul64 (by omega) (by omega) (by decide) (by decide), use_take put_same h3 (by decide) (by decide) fun l o4 h4 l0 l1 => ?_⟩
      simp
      exact outD.self (k _ _ h4 (by omega) (by omega))
theorem use_great {b : Addr} {o : O} {e : Eta} {Q : D → Eta → Prop} (hb : e b = some o) (ho : BoxO o) (k : ∀ i o', BoxO o' → 0 ≤ i → i < 10 ^ 18 → Q (.int i) (e.put b o')) : sp_law_great [.ref b] e Q := ⟨b, o, rfl, hb, ho, k⟩
abbrev nm_law_other_rise : List Str := ["_law_box_here", "_law_rise"]

def t_law_other_rise : TSD :=
 (dRet (dOp rPlus (dVar 1) (dOp rIdx (dLst (dCons (dC (.int 1)) (dCons (dNeg (dC (.int 1))) (dCons (dOp rPlus (dC (.int 1)) (dCall sp_law_take (dCons (dVar 0) (dCons (dC (.int 5)) dNil)))) (dCons (dCall sp_law_great (dCons (dVar 0) dNil)) (dCons (dNeg (dCall sp_law_great (dCons (dVar 0) dNil))) dNil)))))) (dCall sp_law_take (dCons (dVar 0) (dCons (dC (.int 5)) dNil))))))

def sp_law_other_rise : SpD := fun ds e Q => ∃ b r o, ds = [.ref b, .int r] ∧ e b = some o ∧ BoxO o ∧ ∀ i o', BoxO o' → r - 10 ^ 18 ≤ i → i ≤ r + 10 ^ 18 → Q (.int i) (e.put b o')
theorem rd_law_other_rise (ds : List D) (e : Eta) (Q : D → Eta → Prop) (h : sp_law_other_rise ds e Q) : t_law_other_rise (endsD Q) (startD nm_law_other_rise ds) e := by
  obtain ⟨b, r, o, rfl, hb, ho, k⟩ := h
  simp [t_law_other_rise]
  refine use_take hb ho (by decide) (by decide) fun w o1 h1 w0 w1 => ?_
  simp
  refine use_great put_same h1 fun x o2 h2 x0 x1 => ?_
  simp
  refine use_great put_same h2 fun y o3 h3 y0 y1 => ?_
  simp
  refine ⟨by decide, use_take put_same h3 (by decide) (by decide) fun j o4 h4 j0 j1 => ?_⟩
  simp
  have hj : j = 0 ∨ j = 1 ∨ j = 2 ∨ j = 3 ∨ j = 4 := by omega
  rcases hj with rfl | rfl | rfl | rfl | rfl <;> simp <;> exact outD.self (k _ _ h4 (by omega) (by omega))
theorem use_other_rise {b : Addr} {r : Int} {o : O} {e : Eta} {Q : D → Eta → Prop} (hb : e b = some o) (ho : BoxO o) (k : ∀ i o', BoxO o' → r - 10 ^ 18 ≤ i → i ≤ r + 10 ^ 18 → Q (.int i) (e.put b o')) : sp_law_other_rise [.ref b, .int r] e Q := ⟨b, r, o, rfl, hb, ho, k⟩
end FL

set_option Elab.async false
set_option linter.all false
set_option maxRecDepth 100000
set_option maxHeartbeats 4000000
/-! The laws' own helpers: what is told is due. -/
namespace FL
open PySem PySem.Spec PyProof.Rows L2
abbrev nm_law_same : List Str := ["_law_found", "_law_due", "_law_one", "_law_other"]

def t_law_same (sp_law_same : SpD) : TSD :=
 (dSeq (dIfS (dOr (dTru (dIsi "list" (dVar 1))) (dTru (dIsi "tuple" (dVar 1)))) (dSeq (dIfS (dOr (dTest (dOp (rEq2 true) (dIsi "list" (dVar 0)) (dIsi "list" (dVar 1)))) (dTest (dOp (rEq2 true) (dIsi "tuple" (dVar 0)) (dIsi "tuple" (dVar 1))))) (dRet (dC (.bl false)))
 dNx)
 (dRet (dAndV (dOp (rEq2 false) (dCall rLen' (dCons (dVar 0) dNil)) (dCall rLen' (dCons (dVar 1) dNil))) (dCall (rAllD false) (dCons (dComp false (iZipD (dVar 0) (dVar 1)) (.many [2, 3]) dYes (dCall sp_law_same (dCons (dVar 2) (dCons (dVar 3) dNil))) [2, 3]) dNil)))))
 dNx)
 (dSeq (dIfS (dOr (dTest (dOp (rIsN false) (dVar 0) (dC .non))) (dTest (dOp (rIsN false) (dVar 1) (dC .non)))) (dRet (dAndV (dOp (rIsN false) (dVar 0) (dC .non)) (dOp (rIsN false) (dVar 1) (dC .non))))
 dNx)
 (dSeq (dIfS (dOr (dTest (dOp (rEq2 true) (dIsi "bool" (dVar 0)) (dIsi "bool" (dVar 1)))) (dTest (dOp (rEq2 true) (dIsi "int" (dVar 0)) (dIsi "int" (dVar 1))))) (dRet (dC (.bl false)))
 dNx)
 (dRet (dAndV (dOp (rEq2 false) (dIsi "str" (dVar 0)) (dIsi "str" (dVar 1))) (dOp (rEq2 false) (dVar 0) (dVar 1)))))))

/-- the same thing twice, of a shape -/
def sp_law_same (n : Nat) : SpD := fun ds e Q => ∃ a b d, ds = [a, b] ∧ resD e a = d ∧ resD e b = d ∧ shD n d = true ∧ Q (.bl true) e
theorem res_at {e : Eta} {a d : D} {n : Nat} (h : resD e a = d) (s : shD n d = true) : a = d ∨ ∃ ds, d = .lst ds ∧ lstD e a = some ds := by
  cases a with
  | ref p =>
    rcases resD_ref (e := e) (p := p) with ⟨ds, h1, h2⟩ | h2
    · rw [h2] at h; exact .inr ⟨ds, h.symm, by show lstO (e p) = _; rw [h1]; rfl⟩
    · rw [h2] at h; exact .inl h
  | _ => exact .inl h
theorem zip_self (f : D → D) : ∀ ds : List D, zipD ds ds = ds.map fun d => .tup [d, d]
  | [] => rfl
  | d :: ds => by
    show _ :: zipD ds ds = _
    rw [zip_self f ds]; rfl
theorem zip_len (ds : List D) : (zipD ds ds).length = ds.length := by rw [zip_self id, List.length_map]
theorem rd_law_same (n : Nat) (hn : n ≤ 64) (spI : SpD) (hI : ∀ m, n = m + 1 → spI = sp_law_same m) (ds : List D) (e : Eta) (Q : D → Eta → Prop) (h : sp_law_same n ds e Q) : t_law_same spI (endsD Q) (startD nm_law_same ds) e := by
  obtain ⟨a, b, d, rfl, ha, hb, hs, k⟩ := h
  have k := outD.self k
  have go : ∀ (m : Nat) (ds : List D), n = m + 1 → ds.all (shD m) = true → ∀ (C : Eta → Prop) (Q' : List D → Eta → Prop) (dl : Sd), dl = [some a, some b, none, none] → C e → Q' (List.replicate ds.length (.bl true)) e →
      compD C (.many [2, 3]) dYes (dCall spI (dCons (dVar 2) (dCons (dVar 3) dNil))) [2, 3] (zipD ds ds) [] dl e Q' := by
    rintro m ds hm hd C Q' dl rfl hc q
    rw [zip_self id]
    refine comp_pure (p := fun _ => true) (h := fun _ => .bl true) hc ds [] (fun x hx => ?_) ?_
    · simp
      intro K kk
      rw [hI m hm]
      have hx := List.all_eq_true.mp hd x hx
      have hr : resD e x = x := by cases x <;> first | rfl | (cases m <;> cases hx)
      exact ⟨x, x, x, rfl, hr, hr, hx, kk⟩
    · rw [List.filter_eq_self.mpr (fun _ _ => rfl)]
      simpa [List.map_const'] using q
  have bls : ∀ n : Nat, blsD (List.replicate n (D.bl true)) = some (List.replicate n true) := by
    intro n
    have := blsD_map (fun _ : Unit => true) (List.replicate n ())
    simpa using this
  have lists : ∀ xs : List D, shD n (.lst xs) = true → lstD e a = some xs → lstD e b = some xs → t_law_same spI (endsD Q) (startD nm_law_same [a, b]) e := by
    intro xs hs h1 h2
    cases n with
    | zero => cases hs
    | succ m =>
      obtain ⟨hl, hd⟩ := Bool.and_eq_true_iff.mp hs
      have hl := of_decide_eq_true hl
      simp [t_law_same, kitB, tyD_lst h1, tyD_lst h2, lenD_lst h1, lenD_lst h2, zipX_lst h1 h2, zip_len]
      refine ⟨by rw [sizeLine_eq]; omega, go m xs rfl hd _ _ _ rfl ⟨stay_lst h1, stay_lst h2⟩ ?_⟩
      simp [bls]
      exact k
  rcases res_at ha hs with rfl | ⟨xs, rfl, hla⟩
  · cases a with
    | lst ds =>
      rcases res_at hb hs with rfl | ⟨xs, hx, hlb⟩
      · exact lists ds hs rfl rfl
      · cases hx; exact lists ds hs rfl hlb
    | ref _ => cases n <;> cases hs
    | scr _ => cases n <;> cases hs
    | dic _ => cases n <;> cases hs
    | obj _ _ => cases n <;> cases hs
    | exc _ _ => cases n <;> cases hs
    | tup ds =>
      rcases res_at hb hs with rfl | ⟨xs, hx, hlb⟩
      · cases n with
        | zero => cases hs
        | succ m =>
          obtain ⟨hl, hd⟩ := Bool.and_eq_true_iff.mp hs
          have hl := of_decide_eq_true hl
          simp [t_law_same, kitB, zip_len]
          refine ⟨by rw [sizeLine_eq]; omega, go m ds rfl hd _ _ _ rfl trivial ?_⟩
          simp [bls]
          exact k
      · cases hx
    | _ =>
      rcases res_at hb hs with rfl | ⟨xs, hx, hlb⟩
      · simp [t_law_same, kitB, okD_sh hs hn]; exact k
      · cases hx
  · rcases res_at hb hs with rfl | ⟨xs', hx, hlb⟩
    · exact lists xs hs hla rfl
    · cases hx; exact lists xs hs hla hlb
theorem use_same {n : Nat} {a b d : D} {e : Eta} {Q : D → Eta → Prop} (ha : resD e a = d) (hb : resD e b = d) (hs : shD n d = true) (k : Q (.bl true) e) : sp_law_same n [a, b] e Q := ⟨a, b, d, rfl, ha, hb, hs, k⟩
end FL

set_option Elab.async false
set_option linter.all false
set_option maxRecDepth 100000
set_option maxHeartbeats 4000000
/-! Runs, hands, worlds. -/
namespace FL
open PySem PySem.Spec PyProof.Rows L2
/-- a run: from a mark to another one, the rise, whose it is -/
structure Run where
  one : Int
  other : Int
  rise : Int
  hand : Int
deriving DecidableEq
abbrev Run.d (r : Run) : D := .tup [.int r.one, .int r.other, .int r.rise, .int r.hand]
/-- a run of so many marks -/
structure RunOk (size : Int) (r : Run) : Prop where
  o0 : 0 ≤ r.one
  o1 : r.one < size
  p0 : 0 ≤ r.other
  p1 : r.other < size
  ne : r.one ≠ r.other
  h0 : 0 ≤ r.hand
  h1 : r.hand < 10
  r0 : -(3 * 10 ^ 18) ≤ r.rise
  r1 : r.rise ≤ 3 * 10 ^ 18
theorem sh_run (r : Run) : shD 1 r.d = true := by simp
theorem sh_runs {l : List Run} (h : l.length ≤ 4096) : shD 2 (.lst (l.map Run.d)) = true := by
  rw [shD_lst, all_sh sh_run, List.length_map, decide_eq_true h]; rfl
theorem sh_ints {l : List Int} (h : l.length ≤ 4096) : shD 1 (.lst (l.map D.int)) = true := by
  rw [shD_lst, all_sh (fun a => shD_int), List.length_map, decide_eq_true h]; rfl
/-- what is laid out and told -/
structure WorldOk (size mh mr : Int) (runs : List Run) (heights false_ : List Int) : Prop where
  run : ∀ r ∈ runs, RunOk size r
  many : runs.length ≤ mr.toNat
  high : heights.length = size.toNat
  low : ∀ h ∈ heights, 0 ≤ h ∧ h < 10 ^ 12
  fs : false_.Pairwise (· < ·)
  few : false_.length ≤ 3
  fin : ∀ h ∈ false_, 0 ≤ h ∧ h < 10
  true_ : ∀ r ∈ runs, r.hand ∉ false_ → heights[r.other.toNat]? = some (heights.getD r.one.toNat 0 + r.rise)
abbrev worldD (size : Int) (runs : List Run) (heights false_ : List Int) : D := .tup [.int size, .lst (runs.map Run.d), .lst (heights.map .int), .lst (false_.map .int)]
theorem leL {n : Nat} (h : n ≤ 8192 := by decide) : n ≤ sizeLine := by rw [sizeLine_eq]; omega
theorem leI {n : Int} (h : n ≤ 8192 := by decide) : n ≤ (sizeLine : Int) := by rw [sizeLine_eq]; omega
theorem ltL {n : Nat} (h : n < 8192 := by decide) : n < sizeLine := by rw [sizeLine_eq]; omega
abbrev nm_law_world : List Str := ["_law_box_here", "_law_most_marks", "_law_most_hands", "_law_most_runs", "_law_size", "_law_hands_here", "_law_wide", "_law_heights", "_law_names", "_law_false", "_law_bad", "_law_runs", "_law_k", "_law_one", "_law_other", "_law_hand", "_law_rise"]

def t_law_world : TSD :=
 (dSeq (dAsg (dOp rPlus (dC (.int 1)) (dCall sp_law_take (dCons (dVar 0) (dCons (dVar 1) dNil)))) (.one 4))
 (dSeq (dAsg (dOp rPlus (dC (.int 1)) (dCall sp_law_take (dCons (dVar 0) (dCons (dVar 2) dNil)))) (.one 5))
 (dSeq (dAsg (dOp rIdx (dLst (dCons (dC (.int 4)) (dCons (dC (.int 1000)) (dCons (dOp rPowD (dC (.int 10)) (dC (.int 12))) dNil)))) (dCall sp_law_take (dCons (dVar 0) (dCons (dC (.int 3)) dNil)))) (.one 6))
 (dSeq (dAsg (dComp false (iRng1 (dVar 4)) (.one 12) dYes (dCall sp_law_take (dCons (dVar 0) (dCons (dVar 6) dNil))) [12]) (.one 7))
 (dSeq (dAsg (dComp false (iRng1 (dVar 5)) (.one 12) dYes (dIf (dTest (dOp (rEq2 false) (dCall sp_law_take (dCons (dVar 0) (dCons (dC (.int 9)) dNil))) (dC (.int 0)))) (dOp rModD (dOp (rMul false) (dC (.int 3)) (dVar 12)) (dC (.int 10))) (dVar 12)) [12]) (.one 8))
 (dSeq (dAsg (dSortSet false (dComp false (iRng1 (dCall sp_law_take (dCons (dVar 0) (dCons (dC (.int 4)) dNil)))) (.one 12) dYes (dOp rIdx (dVar 8) (dCall sp_law_take (dCons (dVar 0) (dCons (dVar 5) dNil)))) [12])) (.one 9))
 (dSeq (dAsg (dOp rPlus (dC (.int 1)) (dCall sp_law_take (dCons (dVar 0) (dCons (dC (.int 3)) dNil)))) (.one 10))
 (dSeq (dAsg (dLstC dNil) (.one 11))
 (dSeq (dFor (iRng1 (dOp (rMul false) (dCall sp_law_take (dCons (dVar 0) (dCons (dOp rPlus (dVar 3) (dC (.int 1))) dNil))) (dCall rIntC (dCons (dOp rGtD (dVar 4) (dC (.int 1))) dNil)))) (.one 12)
 (dSeq (dAsg (dCall sp_law_take (dCons (dVar 0) (dCons (dVar 4) dNil))) (.one 13))
 (dSeq (dAsg (dOp rModD (dOp rPlus (dOp rPlus (dVar 13) (dC (.int 1))) (dCall sp_law_take (dCons (dVar 0) (dCons (dOp rSubD (dVar 4) (dC (.int 1))) dNil)))) (dVar 4)) (.one 14))
 (dSeq (dAsg (dOp rIdx (dVar 8) (dCall sp_law_take (dCons (dVar 0) (dCons (dVar 5) dNil)))) (.one 15))
 (dSeq (dAsg (dOp rSubD (dOp rIdx (dVar 7) (dVar 14)) (dOp rIdx (dVar 7) (dVar 13))) (.one 16))
 (dSeq (dIfS (dAnd (dTest (dOp (rInA false) (dVar 15) (dVar 9))) (dTest (dOp rLtD (dCall sp_law_take (dCons (dVar 0) (dCons (dC (.int 3)) dNil))) (dVar 10)))) (dAsg (dCall sp_law_other_rise (dCons (dVar 0) (dCons (dVar 16) dNil))) (.one 16))
 dNx)
 (dExp (dMth rAppD (dVar 11) (dCons (dTup (dCons (dVar 13) (dCons (dVar 14) (dCons (dVar 16) (dCons (dVar 15) dNil))))) dNil)))))))))
 (dRet (dTup (dCons (dVar 4) (dCons (dVar 11) (dCons (dVar 7) (dCons (dVar 9) dNil)))))))))))))))

def sp_law_world : SpD := fun ds e Q => ∃ b o mm mh mr, ds = [.ref b, .int mm, .int mh, .int mr] ∧ e b = some o ∧ BoxO o ∧ 1 ≤ mm ∧ mm ≤ 12 ∧ 1 ≤ mh ∧ mh ≤ 10 ∧ 0 ≤ mr ∧ mr ≤ 40 ∧
  ∀ o' size runs heights false_, BoxO o' → 1 ≤ size → size ≤ mm → WorldOk size mh mr runs heights false_ → Q (worldD size runs heights false_) (e.put b o')
theorem rd_law_world (ds : List D) (e : Eta) (Q : D → Eta → Prop) (h : sp_law_world ds e Q) : t_law_world (endsD Q) (startD nm_law_world ds) e := by
  obtain ⟨b, o, mm, mh, mr, rfl, hb, ho, m1, m2, g1, g2, r1, r2, k⟩ := h
  simp [t_law_world]
  refine use_take hb ho (by omega) (by omega) fun z o1 h1 z0 z1 => ?_
  simp
  refine use_take put_same h1 (by omega) (by omega) fun y o2 h2 y0 y1 => ?_
  simp
  refine ⟨⟨by decide, by decide, by decide⟩, leL, use_take put_same h2 (by decide) (by decide) fun v o3 h3 v0 v1 => ?_⟩
  have wide : ∃ wd : Int, 0 < wd ∧ wd ≤ 10 ^ 12 ∧ atI [D.int 4, .int 1000, .int (10 ^ 12)] v = some (.int wd) := by
    have : v = 0 ∨ v = 1 ∨ v = 2 := by omega
    rcases this with rfl | rfl | rfl
    · exact ⟨4, by decide, by decide, by simp⟩
    · exact ⟨1000, by decide, by decide, by simp⟩
    · exact ⟨10 ^ 12, by decide, by decide, by simp⟩
  obtain ⟨wd, wd0, wd1, hwd⟩ := wide
  simp at hwd
  simp [hwd, rngD_length]
  generalize hS : 1 + z = S
  generalize hN : 1 + y = N
  refine ⟨⟨by omega, by omega⟩, leI (by omega), ?_⟩
  refine comp_inv (fun i acc e' => ∃ o hs, BoxO o ∧ e' = e.put b o ∧ acc = hs.map D.int ∧ hs.length = i ∧ ∀ h ∈ hs, 0 ≤ h ∧ h < wd) (fun _ _ _ _ => trivial) ⟨o3, [], h3, rfl, rfl, rfl, by simp⟩ ?_ ?_
  · rintro i x acc e' M hx ⟨o, hs, ho, rfl, rfl, hl, hh⟩ hM -
    simp
    refine use_take put_same ho (by omega) (by omega) fun u o' hu u0 u1 => ?_
    simp
    refine hM _ _ ⟨o', hs ++ [u], hu, rfl, by simp, by simp [hl], ?_⟩
    intro h hm
    rcases List.mem_append.mp hm with q | q
    · exact hh h q
    · simp at q; omega
  rintro acc e' ⟨o4, hs, h4, rfl, rfl, hl, hh⟩
  rw [rngD_length] at hl
  refine ⟨⟨by omega, by omega⟩, leI (by omega), ?_⟩
  refine comp_inv (fun i acc e' => ∃ o ns, BoxO o ∧ e' = e.put b o ∧ acc = ns.map D.int ∧ ns.length = i ∧ ∀ h ∈ ns, 0 ≤ h ∧ h < 10) (fun _ _ _ _ => trivial) ⟨o4, [], h4, rfl, rfl, rfl, by simp⟩ ?_ ?_
  · rintro i x acc e' M hx ⟨o, ns, ho, rfl, rfl, hl, hh⟩ hM -
    obtain ⟨rfl, hi⟩ := rng_at hx
    have add : ∀ (u : Int) (o' : O), BoxO o' → 0 ≤ u → u < 10 → M (ns.map D.int ++ [.int u]) (e.put b o') := fun u o' hu u0 u1 => by
      refine hM _ _ ⟨o', ns ++ [u], hu, rfl, by simp, by simp [hl], ?_⟩
      intro h hm
      rcases List.mem_append.mp hm with q | q
      · exact hh h q
      · simp at q; omega
    simp
    refine use_take put_same ho (by decide) (by decide) fun u o' hu u0 u1 => ?_
    simp
    by_cases hz : u = 0
    · simp [hz]
      exact ⟨mul64 (by decide) (by decide) (by omega) (by omega), add _ _ hu (Int.emod_nonneg _ (by decide)) (Int.emod_lt_of_pos _ (by decide))⟩
    · simp [hz]
      exact add _ _ hu (by omega) (by omega)
  rintro acc e' ⟨o5, ns, h5, rfl, rfl, hl5, hn⟩
  rw [rngD_length] at hl5
  have name : ∀ u : Int, 0 ≤ u → u < N → ∃ x, atI (ns.map D.int) u = some (.int x) ∧ 0 ≤ x ∧ x < 10 := fun u u0 u1 => by
    obtain ⟨x, hx, hx2⟩ := atI_of (xs := ns) u0 (by omega)
    exact ⟨x, by rw [atI_map, hx]; rfl, hn x (List.mem_of_getElem? hx2)⟩
  refine use_take put_same h5 (by decide) (by decide) fun u o6 h6 u0 u1 => ?_
  simp [rngD_length]
  refine ⟨⟨by omega, by omega⟩, leI (by omega), ?_⟩
  refine comp_inv (fun i acc e' => ∃ o fs, BoxO o ∧ e' = e.put b o ∧ acc = fs.map D.int ∧ fs.length = i ∧ ∀ h ∈ fs, 0 ≤ h ∧ h < 10) (fun _ _ _ _ => trivial) ⟨o6, [], h6, rfl, rfl, rfl, by simp⟩ ?_ ?_
  · rintro i x acc e' M hx ⟨o, fs, ho, rfl, rfl, hl, hh⟩ hM -
    simp
    refine use_take put_same ho (by omega) (by omega) fun u o' hu u0 u1 => ?_
    obtain ⟨x, hx, x0, x1⟩ := name u u0 u1
    simp [hx]
    refine hM _ _ ⟨o', fs ++ [x], hu, rfl, by simp, by simp [hl], ?_⟩
    intro h hm
    rcases List.mem_append.mp hm with q | q
    · exact hh h q
    · simp at q; omega
  rintro acc e' ⟨o7, fs, h7, rfl, rfl, hl7, hf⟩
  rw [rngD_length] at hl7
  simp
  refine ⟨by omega, use_take put_same h7 (by decide) (by decide) fun bad o8 h8 bad0 bad1 => ?_⟩
  simp
  intro p hp
  have pb : p ≠ b := fun z => by subst z; rw [put_same] at hp; cases hp
  have pe : e p = none := by rw [put_ne pb] at hp; exact hp
  refine use_take (by rw [put_ne (Ne.symm pb), put_same]) h8 (by omega) (by omega) fun tm o9 h9 tm0 tm1 => ?_
  simp
  have sw : ∀ (x y l : O), ((e.put b x).put p l).put b y = (e.put b y).put p l := fun x y l => by rw [put_comm pb, put_put]
  have high : ∀ u : Int, 0 ≤ u → u < S → ∃ x, atI (hs.map D.int) u = some (.int x) ∧ hs[u.toNat]? = some x ∧ 0 ≤ x ∧ x < 10 ^ 12 := fun u u0 u1 => by
    obtain ⟨x, hx, hx2⟩ := atI_of (xs := hs) u0 (by omega)
    have := hh x (List.mem_of_getElem? hx2)
    exact ⟨x, by rw [atI_map, hx]; rfl, hx2, this.1, by omega⟩
  refine ⟨by split <;> exact mul64 (by omega) (by omega) (by decide) (by decide), by split <;> omega, ?_⟩
  refine for_inv (fun i dl e' => ∃ o rs s1 s2 s3 s4 s5, BoxO o ∧ e' = (e.put b o).put p (.lst (rs.map Run.d)) ∧ dl = [some (D.ref b), some (D.int mm), some (D.int mh), some (D.int mr), some (D.int S), some (D.int N),
          some (D.int wd), some (D.lst (List.map D.int hs)), some (D.lst (List.map D.int ns)),
          some (D.lst (List.map D.int (usort fs))), some (D.int (1 + bad)), some (D.ref p), s1, s2, s3, s4, s5] ∧ rs.length = i ∧ ∀ r ∈ rs, RunOk S r ∧ (r.hand ∉ usort fs → hs[r.other.toNat]? = some (hs.getD r.one.toNat 0 + r.rise)))
    (fun _ _ _ _ => trivial) ⟨o9, [], none, none, none, none, none, h9, sw _ _ _, rfl, rfl, by simp⟩ ?_ ?_
  · rintro i x dl e' M hx ⟨o, rs, s1, s2, s3, s4, s5, ho, rfl, rfl, hl, hr⟩ hM
    obtain ⟨rfl, hi⟩ := rng_at hx
    have S1 : 1 < S := by
      by_cases q : 1 < S
      · exact q
      · rw [if_neg q] at hi; omega
    simp
    refine use_take (by rw [put_ne (Ne.symm pb), put_same]) ho (by omega) (by omega) fun one oa ha one0 one1 => ?_
    simp [sw]
    refine use_take (by rw [put_ne (Ne.symm pb), put_same]) ha (by omega) (by omega) fun df ob hb2 df0 df1 => ?_
    simp [sw]
    have ot0 := Int.emod_nonneg (one + 1 + df) (show S ≠ 0 by omega)
    have ot1 := Int.emod_lt_of_pos (one + 1 + df) (show 0 < S by omega)
    have otn : one ≠ (one + 1 + df) % S := by
      by_cases q : one + 1 + df < S
      · rw [Int.emod_eq_of_lt (by omega) q]; omega
      · have : (one + 1 + df) % S = one + 1 + df - S := by
          rw [show one + 1 + df = (one + 1 + df - S) + S by omega, Int.add_emod_right, Int.emod_eq_of_lt (by omega) (by omega)]
          omega
        omega
    generalize (one + 1 + df) % S = ot at ot0 ot1 otn
    refine ⟨by omega, use_take (by rw [put_ne (Ne.symm pb), put_same]) hb2 (by omega) (by omega) fun hd oc hc hd0 hd1 => ?_⟩
    obtain ⟨hn, hnm, hn0, hn1⟩ := name hd hd0 hd1
    obtain ⟨x1, hx1, hg1, a0, a1⟩ := high ot ot0 ot1
    obtain ⟨x2, hx2, hg2, b0, b1⟩ := high one one0 one1
    have done : ∀ (ri : Int) (o' : O) (t1 t2 t3 t4 t5 : Option D), BoxO o' → -(3 * 10 ^ 18) ≤ ri → ri ≤ 3 * 10 ^ 18 → (hn ∉ usort fs → ri = x1 - x2) → M [some (D.ref b), some (D.int mm), some (D.int mh), some (D.int mr), some (D.int S), some (D.int N),
          some (D.int wd), some (D.lst (List.map D.int hs)), some (D.lst (List.map D.int ns)),
          some (D.lst (List.map D.int (usort fs))), some (D.int (1 + bad)), some (D.ref p), t1, t2, t3, t4, t5] ((e.put b o').put p (.lst (rs.map Run.d ++ [.tup [.int one, .int ot, .int ri, .int hn]]))) := fun ri o' t1 t2 t3 t4 t5 ho' q0 q1 qt => by
      refine hM _ _ ⟨o', rs ++ [⟨one, ot, ri, hn⟩], t1, t2, t3, t4, t5, ho', by simp, rfl, by simp [hl], fun r hr' => ?_⟩
      rcases List.mem_append.mp hr' with q | q
      · exact hr r q
      · rw [List.mem_singleton.mp q]
        refine ⟨⟨one0, one1, ot0, ot1, otn, hn0, hn1, q0, q1⟩, fun hq => ?_⟩
        show hs[ot.toNat]? = some (hs.getD one.toNat 0 + ri)
        rw [hg1, List.getD_eq_getElem?_getD, hg2, qt hq]
        exact congrArg some (show x1 = x2 + (x1 - x2) by omega)
    have len : rs.length ≤ 40 := by
      rw [if_pos S1] at hi; omega
    simp [sw, hnm, hx1, hx2]
    by_cases hf : hn ∈ fs
    · simp [hf]
      refine use_take (by rw [put_ne (Ne.symm pb), put_same]) hc (by decide) (by decide) fun th od hd' th0 th1 => ?_
      simp [sw]
      by_cases hb' : th < 1 + bad
      · simp [hb']
        refine use_other_rise (by rw [put_ne (Ne.symm pb), put_same]) hd' fun ri oe he ri0 ri1 => ?_
        simp [sw]
        refine ⟨leL, ltL (by omega), done _ _ _ _ _ _ _ he (by omega) (by omega) fun q => absurd ((mem_usort _ _).mpr hf) q⟩
      · simp [hb']
        exact ⟨leL, ltL (by omega), done _ _ _ _ _ _ _ hd' (by omega) (by omega) fun q => absurd ((mem_usort _ _).mpr hf) q⟩
    · simp [hf]
      exact ⟨leL, ltL (by omega), done _ _ _ _ _ _ _ hc (by omega) (by omega) fun q => rfl⟩
  · rintro dl e' ⟨o, rs, s1, s2, s3, s4, s5, ho, rfl, rfl, hlr, hr⟩
    rw [rngD_length] at hlr
    simp
    refine ⟨leL, worldD S rs hs (usort fs), e.put b o, Sub.put (by rw [put_ne pb]; exact pe), .tup (.cons (.refl _) (.cons (.cell put_same (by rw [put_ne pb]; exact pe) (.refl _)) (.cons (.refl _) (.cons (.refl _) .nil)))), k _ _ _ _ _ ho (by omega) (by omega) ⟨fun r q => (hr r q).1, ?_, hl, fun h q => ?_, usort_sorted _, ?_, fun h q => hf h ((mem_usort _ _).mp q), fun r q => (hr r q).2⟩⟩
    · rw [hlr]; split <;> omega
    · have := hh h q; omega
    · have := usort_length fs; omega
theorem use_world {b : Addr} {o : O} {mm mh mr : Int} {e : Eta} {Q : D → Eta → Prop} (hb : e b = some o) (ho : BoxO o) (m : 1 ≤ mm ∧ mm ≤ 12 ∧ 1 ≤ mh ∧ mh ≤ 10 ∧ 0 ≤ mr ∧ mr ≤ 40)
    (k : ∀ o' size runs heights false_, BoxO o' → 1 ≤ size → size ≤ mm → WorldOk size mh mr runs heights false_ → Q (worldD size runs heights false_) (e.put b o')) : sp_law_world [.ref b, .int mm, .int mh, .int mr] e Q :=
  ⟨b, o, mm, mh, mr, rfl, hb, ho, m.1, m.2.1, m.2.2.1, m.2.2.2.1, m.2.2.2.2.1, m.2.2.2.2.2, k⟩
end FL

set_option Elab.async false
set_option linter.all false
set_option maxRecDepth 100000
set_option maxHeartbeats 4000000
/-! Hands, the runs of some hands. -/
namespace FL
open PySem PySem.Spec PyProof.Rows L2
abbrev runsD (l : List Run) : List D := l.map Run.d
def leftR (runs : List Run) (struck : List Int) : List Run := runs.filter fun r => !decide (r.hand ∈ struck)
def handsR (runs : List Run) : List Int := usort (runs.map Run.hand)
abbrev nm_law_left : List Str := ["_law_runs", "_law_struck", "_law_run"]

def t_law_left : TSD :=
 (dRet (dComp false (iSeq (dVar 0)) (.one 2) (dTest (dOp (rInA true) (dOp rIdx (dVar 2) (dC (.int 3))) (dVar 1))) (dVar 2) [2]))

abbrev nm_law_hands : List Str := ["_law_runs", "_law_run"]

def t_law_hands : TSD :=
 (dRet (dSortSet false (dComp false (iSeq (dVar 0)) (.one 1) dYes (dOp rIdx (dVar 1) (dC (.int 3))) [1])))

abbrev nm_hands_of : List Str := ["runs", "run"]

def t_hands_of : TSD :=
 (dRet (dCall (rSortD true) (dCons (dCall rDictP (dCons (dComp false (iSeq (dVar 0)) (.one 1) dYes (dTup (dCons (dOp rIdx (dVar 1) (dC (.int 3))) (dCons (dC (.bl true)) dNil))) [1]) dNil)) dNil)))

abbrev nm_left : List Str := ["runs", "struck", "run"]

def t_left : TSD :=
 (dRet (dComp true (iSeq (dVar 0)) (.one 2) (dTest (dOp (rInA true) (dOp rIdx (dVar 2) (dC (.int 3))) (dVar 1))) (dVar 2) [2]))

/-- of a list of runs and one of hands -/
def sp_law_left : SpD := fun ds e Q => ∃ a b runs struck, ds = [a, b] ∧ lstD e a = some (runsD runs) ∧ lstD e b = some (struck.map D.int) ∧ runs.length ≤ 4096 ∧ Q (.lst (runsD (leftR runs struck))) e
theorem comp_left {a b : D} {e : Eta} {runs : List Run} {struck : List Int} {Q : List D → Eta → Prop} {C : Eta → Prop} (hc : C e) (hb : lstD e b = some (struck.map D.int)) (q : Q (runsD (leftR runs struck)) e) :
    compD C (.one 2) (dTest (dOp (rInA true) (dOp rIdx (dVar 2) (dC (.int 3))) (dVar 1))) (dVar 2) [2] (runsD runs) [] [some a, some b, none] e Q := by
  refine comp_pure (p := fun r : Run => !decide (r.hand ∈ struck)) (h := Run.d) hc runs [] (fun r hr => ?_) q
  simp [inY_lst hb]
theorem rd_law_left (ds : List D) (e : Eta) (Q : D → Eta → Prop) (h : sp_law_left ds e Q) : t_law_left (endsD Q) (startD nm_law_left ds) e := by
  obtain ⟨a, b, runs, struck, rfl, ha, hb, hl, k⟩ := h
  simp [t_law_left, seqD_lst ha]
  exact ⟨leL (by omega), comp_left (stay_lst ha) hb (outD.self k)⟩
def spc_left : SpD := fun ds e Q => ∃ a b runs struck, ds = [a, b] ∧ lstD e a = some (runsD runs) ∧ lstD e b = some (struck.map D.int) ∧ runs.length ≤ 4096 ∧ ∀ p, e p = none → Q (.ref p) (e.put p (.lst (runsD (leftR runs struck))))
theorem rd_left (ds : List D) (e : Eta) (Q : D → Eta → Prop) (h : spc_left ds e Q) : t_left (endsD Q) (startD nm_left ds) e := by
  obtain ⟨a, b, runs, struck, rfl, ha, hb, hl, k⟩ := h
  simp [t_left, seqD_lst ha]
  exact ⟨leL (by omega), comp_left (stay_lst ha) hb fun p hp => outD.self (k p hp)⟩
abbrev sp_left : SpD := sp_law_left
theorem tree_left : ∀ ds e Q, sp_left ds e Q → spc_left ds e (outD Q) := by
  rintro ds e Q ⟨a, b, runs, struck, rfl, ha, hb, hl, k⟩
  exact ⟨a, b, runs, struck, rfl, ha, hb, hl, fun p hp => out_cell put_same hp (Sub.put hp) k⟩
def sp_law_hands : SpD := fun ds e Q => ∃ a runs, ds = [a] ∧ lstD e a = some (runsD runs) ∧ runs.length < 64 ∧ Q (.lst ((handsR runs).map D.int)) e
theorem map_hand (runs : List Run) : runs.map (fun r => D.int r.hand) = (runs.map Run.hand).map D.int := by rw [List.map_map]; rfl
theorem rd_law_hands (ds : List D) (e : Eta) (Q : D → Eta → Prop) (h : sp_law_hands ds e Q) : t_law_hands (endsD Q) (startD nm_law_hands ds) e := by
  obtain ⟨a, runs, rfl, ha, hl, k⟩ := h
  simp [t_law_hands, seqD_lst ha]
  refine ⟨leL (by omega), comp_pure (p := fun _ => true) (h := fun r : Run => .int r.hand) (stay_lst ha) runs [] (fun r hr => ?_) ?_⟩
  · simp
  · rw [List.filter_eq_self.mpr (fun _ _ => rfl), List.nil_append]
    simp
    exact ⟨hl, outD.self k⟩
/-! the keys of a dict of pairs -/
theorem keys_put {α : Type} (x : Int) (v : α) : ∀ (kvs : List (Key × α)) (ks : List Int), keysI kvs = some ks → keysI (putD kvs (.inl x) v) = some (if x ∈ ks then ks else ks ++ [x]) := by
  intro kvs ks h
  have at_ : ∀ (kvs : List (Key × α)) (ks : List Int), keysI kvs = some ks → (kvs.any fun kv => decide (kv.1 = .inl x)) = decide (x ∈ ks) ∧ keysI (kvs.map fun kv => if kv.1 = .inl x then (kv.1, v) else kv) = some ks ∧ keysI (kvs ++ [(.inl x, v)]) = some (ks ++ [x]) := by
    intro kvs
    induction kvs with
    | nil => intro ks h; cases h; simp [keysI]
    | cons kv kvs ih =>
      intro ks h
      obtain ⟨k, w⟩ := kv
      cases k with
      | inr s => cases h
      | inl y =>
        obtain ⟨ks', h1, rfl⟩ := Option.map_eq_some_iff.mp (show (keysI kvs).map (y :: ·) = some ks from h)
        obtain ⟨a1, a2, a3⟩ := ih ks' h1
        refine ⟨?_, ?_, ?_⟩
        · rw [List.any_cons, a1, Bool.eq_iff_iff]; simp [show ((Sum.inl y : Key) = .inl x) ↔ x = y from ⟨fun h => (Sum.inl.inj h).symm, fun h => by rw [h]⟩]
        · rw [List.map_cons]
          split <;> simp [keysI, a2]
        · rw [List.cons_append, keysI, a3]; rfl
  obtain ⟨a1, a2, a3⟩ := at_ kvs ks h
  unfold putD
  rw [a1]
  by_cases q : x ∈ ks
  · rw [if_pos (by simp [q]), if_pos q]; exact a2
  · rw [if_neg (by simp [q]), if_neg q]; exact a3
theorem keys_merge {α : Type} (f : Int → α) : ∀ (more : List Int) (kvs : List (Key × α)) (ks : List Int), keysI kvs = some ks → ks.Nodup → ∃ ks', keysI (mergeD kvs (more.map fun x => (.inl x, f x))) = some ks' ∧ ks'.Nodup ∧ (∀ k, k ∈ ks' ↔ k ∈ ks ∨ k ∈ more) ∧ ks'.length ≤ ks.length + more.length
  | [], kvs, ks, h, n => ⟨ks, h, n, by simp, by simp⟩
  | x :: more, kvs, ks, h, n => by
    have h1 := keys_put x (f x) kvs ks h
    by_cases q : x ∈ ks
    · rw [if_pos q] at h1
      obtain ⟨ks', a1, a2, a3, a4⟩ := keys_merge f more _ ks h1 n
      refine ⟨ks', a1, a2, fun k => ?_, by simp; omega⟩
      rw [a3 k, List.mem_cons]
      constructor
      · rintro (z | z) <;> simp [z]
      · rintro (z | z | z)
        · exact .inl z
        · subst z; exact .inl q
        · exact .inr z
    · rw [if_neg q] at h1
      obtain ⟨ks', a1, a2, a3, a4⟩ := keys_merge f more _ _ h1 (List.nodup_append.mpr ⟨n, by simp, by rintro a ha b hb rfl; simp at hb; subst hb; exact q ha⟩)
      refine ⟨ks', a1, a2, fun k => ?_, by simp at a4 ⊢; omega⟩
      rw [a3 k, List.mem_append, List.mem_singleton, List.mem_cons]
      constructor
      · rintro ((z | z) | z) <;> simp [z]
      · rintro (z | z | z) <;> simp [z]
def spc_hands_of : SpD := fun ds e Q => ∃ a runs, ds = [a] ∧ lstD e a = some (runsD runs) ∧ runs.length < 64 ∧ ∀ p, e p = none → Q (.ref p) (e.put p (.lst ((handsR runs).map D.int)))
theorem pairs_runs (runs : List Run) : pairsK (runs.map fun r => .tup [.int r.hand, .bl true]) = some ((runs.map Run.hand).map fun x => (.inl x, .bl true)) := by
  induction runs with
  | nil => rfl
  | cons r runs ih =>
    rw [List.map_cons, pairsK, ih]; rfl
theorem rd_hands_of (ds : List D) (e : Eta) (Q : D → Eta → Prop) (h : spc_hands_of ds e Q) : t_hands_of (endsD Q) (startD nm_hands_of ds) e := by
  obtain ⟨a, runs, rfl, ha, hl, k⟩ := h
  simp [t_hands_of, seqD_lst ha]
  refine ⟨leL (by omega), comp_pure (p := fun _ => true) (h := fun r : Run => .tup [.int r.hand, .bl true]) (stay_lst ha) runs [] (fun r hr => ?_) ?_⟩
  · simp; exact fun K k => ⟨leL, k⟩
  · rw [List.filter_eq_self.mpr (fun _ _ => rfl), List.nil_append, pairs_runs]
    simp
    intro p hp
    obtain ⟨ks, a1, a2, a3, a4⟩ := keys_merge (fun _ => D.bl true) (runs.map Run.hand) [] [] rfl .nil
    have a1 : keysI (mergeD [] (runs.map ((fun x => ((Sum.inl x : Key), D.bl true)) ∘ Run.hand))) = some ks := by rw [← List.map_map]; exact a1
    simp at a4
    simp [a1, show ks.length < 64 by omega]
    intro q hq
    have qe : e q = none := by
      rw [← hq]
      by_cases z : q = p
      · subst z; rw [put_same] at hq; cases hq
      · rw [put_ne z]
    have es : sortI ks = handsR runs := by
      rw [sortI_usort a2]
      exact usort_eq (usort_sorted _) fun k => by rw [mem_usort, a3 k]; simp
    rw [es]
    refine ⟨.ref q, e.put q (.lst ((handsR runs).map D.int)), (Sub.put hp).put2 _ _, .refl _, k q qe⟩
abbrev sp_hands_of : SpD := sp_law_hands
theorem tree_hands_of : ∀ ds e Q, sp_hands_of ds e Q → spc_hands_of ds e (outD Q) := by
  rintro ds e Q ⟨a, runs, rfl, ha, hl, k⟩
  exact ⟨a, runs, rfl, ha, hl, fun p hp => out_cell put_same hp (Sub.put hp) k⟩
end FL

set_option Elab.async false
set_option linter.all false
/-! How many things each asks for. -/
namespace FL
open PySem PySem.Spec PyProof.Rows L2
theorem len_law (ds : List D) (e : Eta) (Q : D → Eta → Prop) (h : spLaw ds e Q) : ds.length = 1 := by obtain ⟨ns, rfl, -, k⟩ := h; rfl
theorem len_law_box (ds : List D) (e : Eta) (Q : D → Eta → Prop) (h : sp_law_box ds e Q) : ds.length = 1 := by obtain ⟨ns, rfl, k⟩ := h; rfl
theorem len_law_take (ds : List D) (e : Eta) (Q : D → Eta → Prop) (h : sp_law_take ds e Q) : ds.length = 2 := by obtain ⟨_, _, _, rfl, _⟩ := h; rfl
theorem len_law_great (ds : List D) (e : Eta) (Q : D → Eta → Prop) (h : sp_law_great ds e Q) : ds.length = 1 := by obtain ⟨_, _, rfl, _⟩ := h; rfl
theorem len_law_other_rise (ds : List D) (e : Eta) (Q : D → Eta → Prop) (h : sp_law_other_rise ds e Q) : ds.length = 2 := by obtain ⟨_, _, _, rfl, _⟩ := h; rfl
theorem len_law_same (n : Nat) (ds : List D) (e : Eta) (Q : D → Eta → Prop) (h : sp_law_same n ds e Q) : ds.length = 2 := by obtain ⟨_, _, _, rfl, _⟩ := h; rfl
theorem len_law_world (ds : List D) (e : Eta) (Q : D → Eta → Prop) (h : sp_law_world ds e Q) : ds.length = 4 := by obtain ⟨_, _, _, _, _, rfl, _⟩ := h; rfl
theorem len_law_left (ds : List D) (e : Eta) (Q : D → Eta → Prop) (h : sp_law_left ds e Q) : ds.length = 2 := by obtain ⟨_, _, _, _, rfl, _⟩ := h; rfl
theorem len_left (ds : List D) (e : Eta) (Q : D → Eta → Prop) (h : spc_left ds e Q) : ds.length = 2 := by obtain ⟨_, _, _, _, rfl, _⟩ := h; rfl
theorem len_law_hands (ds : List D) (e : Eta) (Q : D → Eta → Prop) (h : sp_law_hands ds e Q) : ds.length = 1 := by obtain ⟨_, _, rfl, _⟩ := h; rfl
theorem len_hands_of (ds : List D) (e : Eta) (Q : D → Eta → Prop) (h : spc_hands_of ds e Q) : ds.length = 1 := by obtain ⟨_, _, rfl, _⟩ := h; rfl
end FL

set_option Elab.async false
set_option linter.all false
set_option maxRecDepth 100000
set_option maxHeartbeats 4000000
/-! Runs that hold by heights. -/
namespace FL
open PySem PySem.Spec PyProof.Rows L2
theorem use_hands {a : D} {runs : List Run} {e : Eta} {Q : D → Eta → Prop} (ha : lstD e a = some (runsD runs)) (hl : runs.length < 64) (k : Q (.lst ((handsR runs).map D.int)) e) : sp_law_hands [a] e Q := ⟨a, runs, rfl, ha, hl, k⟩
theorem usec_hands {a : D} {runs : List Run} {e : Eta} {Q : D → Eta → Prop} (ha : lstD e a = some (runsD runs)) (hl : runs.length < 64) (k : ∀ p, e p = none → Q (.ref p) (e.put p (.lst ((handsR runs).map D.int)))) : spc_hands_of [a] e Q := ⟨a, runs, rfl, ha, hl, k⟩
theorem use_left {a b : D} {runs : List Run} {struck : List Int} {e : Eta} {Q : D → Eta → Prop} (ha : lstD e a = some (runsD runs)) (hb : lstD e b = some (struck.map D.int)) (hl : runs.length ≤ 4096) (k : Q (.lst (runsD (leftR runs struck))) e) : sp_law_left [a, b] e Q := ⟨a, b, runs, struck, rfl, ha, hb, hl, k⟩
theorem usec_left {a b : D} {runs : List Run} {struck : List Int} {e : Eta} {Q : D → Eta → Prop} (ha : lstD e a = some (runsD runs)) (hb : lstD e b = some (struck.map D.int)) (hl : runs.length ≤ 4096) (k : ∀ p, e p = none → Q (.ref p) (e.put p (.lst (runsD (leftR runs struck))))) : spc_left [a, b] e Q := ⟨a, b, runs, struck, rfl, ha, hb, hl, k⟩
theorem left_len (runs : List Run) (struck : List Int) : (leftR runs struck).length ≤ runs.length := List.length_filter_le _ _
theorem left_sub {runs : List Run} {struck : List Int} {r : Run} (h : r ∈ leftR runs struck) : r ∈ runs ∧ r.hand ∉ struck := by
  obtain ⟨h1, h2⟩ := List.mem_filter.mp h
  exact ⟨h1, by simpa using h2⟩
theorem use_box {ns : List Int} {e : Eta} {Q : D → Eta → Prop} (k : ∀ b o, e b = none → BoxO o → Q (.ref b) (e.put b o)) : sp_law_box [.scr ns] e Q := ⟨ns, rfl, k⟩
theorem put_at {e : Eta} {b p : Addr} {o l : O} (hb : e b = some o) (hp : e p = none) : (e.put p l) b = some o := by rw [put_ne (ne_cell hp hb)]; exact hb
theorem cut_map {α : Type} (f : α → D) (l : List α) (lo hi : Option Int) : ∃ r : List α, cutD (l.map f) lo hi = r.map f ∧ r.length ≤ l.length ∧ ∀ x ∈ r, x ∈ l := by
  refine ⟨cutD l lo hi, by unfold cutD; simp [List.map_drop, List.map_take], ?_, fun x h => List.mem_of_mem_drop (List.mem_of_mem_take h)⟩
  unfold cutD
  simp
  omega
theorem nm_world (nm : List Str) (h : nm.length = nm_law_world.length) (ds : List D) (e : Eta) (Q : D → Eta → Prop) (q : sp_law_world ds e Q) : t_law_world (endsD Q) (startD nm ds) e := by
  have := rd_law_world ds e Q q
  unfold startD at this ⊢
  rwa [h]
/-- a number of a list -/
def gI (hs : List Int) (i : Int) : Int := hs.getD i.toNat 0
theorem at_ints {hs : List Int} {i : Int} (h0 : 0 ≤ i) (h1 : i < hs.length) : atI (hs.map D.int) i = some (.int (gI hs i)) := by
  obtain ⟨x, hx, hx2⟩ := atI_of (xs := hs) h0 h1
  unfold gI
  rw [atI_map, hx, List.getD_eq_getElem?_getD, hx2]; rfl
def holdsR (runs : List Run) (hs : List Int) : Bool := runs.all fun r => decide (gI hs r.other - gI hs r.one = r.rise)
def InR (size : Int) (runs : List Run) : Prop := ∀ r ∈ runs, 0 ≤ r.one ∧ r.one < size ∧ 0 ≤ r.other ∧ r.other < size
def sp_holds : SpD := fun ds e Q => ∃ a b runs hs, ds = [a, b] ∧ lstD e a = some (runsD runs) ∧ lstD e b = some (hs.map D.int) ∧ InR hs.length runs ∧ Q (.bl (holdsR runs hs)) e
abbrev nm_holds : List Str := ["runs", "heights", "one", "other", "rise", "hand"]

def t_holds : TSD :=
 (dSeq (dFor (iSeq (dVar 0)) (.many [2, 3, 4, 5])
 (dIfS (dTest (dOp (rEq2 true) (dOp rSubD (dOp rIdx (dVar 1) (dVar 3)) (dOp rIdx (dVar 1) (dVar 2))) (dVar 4))) (dRet (dC (.bl false)))
 dNx))
 (dRet (dC (.bl true))))

theorem rd_holds (ds : List D) (e : Eta) (Q : D → Eta → Prop) (h : sp_holds ds e Q) : t_holds (endsD Q) (startD nm_holds ds) e := by
  obtain ⟨a, b, runs, hs, rfl, ha, hb, hi, k⟩ := h
  have k := outD.self k
  simp [t_holds, seqD_lst ha]
  refine for_inv (fun i dl e' => e' = e ∧ (∀ r ∈ runs.take i, gI hs r.other - gI hs r.one = r.rise) ∧ ∃ s1 s2 s3 s4, dl = [some a, some b, s1, s2, s3, s4]) (fun _ _ _ h => by rw [h.1]; exact stay_lst ha) ⟨rfl, by simp, _, _, _, _, rfl⟩ ?_ ?_
  · rintro i x dl e' N hx ⟨rfl, hr, s1, s2, s3, s4, rfl⟩ hN
    obtain ⟨r, hr2, rfl⟩ := map_at hx
    obtain ⟨q0, q1, q2, q3⟩ := hi r (List.mem_of_getElem? hr2)
    simp [idxD_lst hb, at_ints q0 q1, at_ints q2 q3]
    by_cases hq : gI hs r.other - gI hs r.one = r.rise
    · simp [hq]
      refine hN _ _ ⟨rfl, fun r' h' => ?_, _, _, _, _, rfl⟩
      rw [List.take_add_one, hr2] at h'
      rcases List.mem_append.mp h' with z | z
      · exact hr r' z
      · simp at z; rw [z]; exact hq
    · simp [hq]
      have : holdsR runs hs = false := by
        unfold holdsR
        rw [List.all_eq_false]
        exact ⟨r, List.mem_of_getElem? hr2, by simp [hq]⟩
      rw [this] at k; exact k
  · rintro dl e' ⟨rfl, hr, s1, s2, s3, s4, rfl⟩
    simp
    have : holdsR runs hs = true := by
      unfold holdsR
      rw [List.all_eq_true]
      intro r h
      rw [List.length_map, List.take_length] at hr
      simp [hr r h]
    rw [this] at k; exact k
theorem len_holds (ds : List D) (e : Eta) (Q : D → Eta → Prop) (h : sp_holds ds e Q) : ds.length = 2 := by obtain ⟨_, _, _, _, rfl, _⟩ := h; rfl
end FL

set_option Elab.async false
set_option linter.all false
set_option maxRecDepth 100000
set_option maxHeartbeats 4000000
/-! More of the layer: [::-1]; lists that are compared. -/
namespace FL
open PySem PySem.Spec PyProof.Rows L2
section
variable {X : Cy} {a b : Expr} {A B : TD} {pos p1 p2 p3 : Pos} {k : Nat}
/-- x[::-1] of a list -/
@[simp] def dRev (A : TD) (dl : Sd) (e : Eta) (Q : D → Eta → Prop) : Prop := A dl e fun x e1 => onSome (lstD e1 x) fun ds => Q (.lst ds.reverse) e1
theorem d_rev (ha : DE X a A) : DE X (.Subscript a (.Slice none none (some (.UnaryOp .USub (.Constant (.int 1) k p1) p2)) p3) pos) (dRev A) := pe_imp (pe_revL ha) (by
  rintro sg H Q ⟨Z, dl, e, Qd, s, t, k⟩
  refine low.use s t fun v H1 d e1 x1 r1 h1 q1 => ?_
  obtain ⟨ds, z, q1⟩ := onSome_ex q1
  obtain ⟨l, vs, rfl, g, rl⟩ := lst_at h1 r1 z
  refine ⟨l, vs, rfl, SqL.of g, fun p hp => ?_⟩
  obtain ⟨y1, y2, y3⟩ := Rep.new_lst h1 hp rl.reverse
  exact k _ _ _ e1 (x1.trans y1) y2 y3 q1)
end
/-! equality of lists of ints -/
theorem eqv_ints : ∀ a b : List Int, PyData.eqvAll (pyDs (a.map D.int)) (pyDs (b.map D.int)) = decide (a = b)
  | [], [] => rfl
  | [], _ :: _ => rfl
  | _ :: _, [] => rfl
  | x :: a, y :: b => by
    rw [List.map_cons, List.map_cons, pyDs, pyDs, PyData.eqvAll, eqv_ints a b]
    show ((x == y) && decide (a = b)) = _
    rw [Bool.eq_iff_iff]; simp
@[simp] theorem eqD_ints (a b : List Int) : eqD (.lst (a.map D.int)) (.lst (b.map D.int)) = decide (a = b) := by
  show PyData.eqv (pyD _) (pyD _) = _
  rw [pyD, pyD, PyData.eqv, eqv_ints]
@[simp] theorem cutD_map {α β : Type} (f : α → β) (l : List α) (lo hi : Option Int) : cutD (l.map f) lo hi = (cutD l lo hi).map f := by
  unfold cutD; simp [List.map_drop, List.map_take]
theorem cutD_len {α : Type} (l : List α) (lo hi : Option Int) : (cutD l lo hi).length ≤ l.length := by
  unfold cutD; simp; omega
end FL

/-! holds, as one uses it -/
namespace FL
open PySem PySem.Spec PyProof.Rows L2
theorem use_holds {a b : D} {runs : List Run} {hs : List Int} {e : Eta} {Q : D → Eta → Prop} (ha : lstD e a = some (runsD runs)) (hb : lstD e b = some (hs.map D.int)) (hi : InR hs.length runs) (k : Q (.bl (holdsR runs hs)) e) : sp_holds [a, b] e Q := ⟨a, b, runs, hs, rfl, ha, hb, hi, k⟩
end FL

set_option Elab.async false
set_option linter.all false
set_option maxRecDepth 100000
set_option maxHeartbeats 4000000
/-! What hangs together by runs, in plain Lean. -/
namespace FL
open PySem PySem.Spec PyProof.Rows L2
/-- a way along runs from a mark to one, and how high it leads -/
inductive Lead (runs : List Run) : Int → Int → Int → Prop
  | refl (a : Int) : Lead runs a a 0
  | fwd {a h : Int} {r : Run} : Lead runs a r.one h → r ∈ runs → Lead runs a r.other (h + r.rise)
  | bwd {a h : Int} {r : Run} : Lead runs a r.other h → r ∈ runs → Lead runs a r.one (h - r.rise)
theorem Lead.trans {runs : List Run} {a b c h g : Int} (x : Lead runs a b h) (y : Lead runs b c g) : Lead runs a c (h + g) := by
  induction y with
  | refl => rw [Int.add_zero]; exact x
  | fwd l hr ih => rw [← Int.add_assoc]; exact .fwd ih hr
  | bwd l hr ih => rw [← Int.add_sub_assoc]; exact .bwd ih hr
theorem Lead.symm {runs : List Run} {a b h : Int} (x : Lead runs a b h) : Lead runs b a (-h) := by
  induction x with
  | refl => exact .refl _
  | @fwd h r l hr ih =>
    have := (Lead.bwd (.refl r.other) hr).trans ih
    rwa [show (0 : Int) - r.rise + -h = -(h + r.rise) by omega] at this
  | @bwd h r l hr ih =>
    have := (Lead.fwd (.refl r.one) hr).trans ih
    rwa [show (0 : Int) + r.rise + -h = -(h - r.rise) by omega] at this
theorem Lead.mono {runs runs' : List Run} (s : ∀ r ∈ runs, r ∈ runs') {a b h : Int} (x : Lead runs a b h) : Lead runs' a b h := by
  induction x with
  | refl => exact .refl _
  | fwd l hr ih => exact .fwd ih (s _ hr)
  | bwd l hr ih => exact .bwd ih (s _ hr)
/-- they hang together -/
def Conn (runs : List Run) (a b : Int) : Prop := ∃ h, Lead runs a b h
theorem Conn.refl {runs : List Run} (a : Int) : Conn runs a a := ⟨0, .refl a⟩
theorem Conn.symm {runs : List Run} {a b : Int} (x : Conn runs a b) : Conn runs b a := let ⟨_, l⟩ := x; ⟨_, l.symm⟩
theorem Conn.trans {runs : List Run} {a b c : Int} (x : Conn runs a b) (y : Conn runs b c) : Conn runs a c := let ⟨_, l⟩ := x; let ⟨_, m⟩ := y; ⟨_, l.trans m⟩
theorem Conn.run {runs : List Run} {r : Run} (h : r ∈ runs) : Conn runs r.one r.other := ⟨_, .fwd (.refl _) h⟩
theorem Conn.mono {runs runs' : List Run} (s : ∀ r ∈ runs, r ∈ runs') {a b : Int} (x : Conn runs a b) : Conn runs' a b := let ⟨_, l⟩ := x; ⟨_, l.mono s⟩
/-- any relation that runs keep goes along -/
theorem Conn.ind {runs : List Run} {P : Int → Prop} (f : ∀ r ∈ runs, P r.one ↔ P r.other) {a b : Int} (x : Conn runs a b) : P a ↔ P b := by
  obtain ⟨h, l⟩ := x
  induction l with
  | refl => exact Iff.rfl
  | fwd l hr ih => exact ih.trans (f _ hr)
  | bwd l hr ih => exact ih.trans (f _ hr).symm
theorem Conn.nil {a b : Int} (x : Conn [] a b) : a = b := ((x.symm.ind (P := fun z => z = b) (by simp)).mp rfl)
theorem Conn.congr {runs runs' : List Run} (f : ∀ r ∈ runs, ∃ r' ∈ runs', r'.one = r.one ∧ r'.other = r.other) {a b : Int} (x : Conn runs a b) : Conn runs' a b := by
  obtain ⟨h, l⟩ := x
  induction l with
  | refl => exact .refl _
  | fwd l hr ih =>
    obtain ⟨r', m, e1, e2⟩ := f _ hr
    exact ih.trans (e1 ▸ e2 ▸ Conn.run m)
  | bwd l hr ih =>
    obtain ⟨r', m, e1, e2⟩ := f _ hr
    exact ih.trans (e1 ▸ e2 ▸ (Conn.run m).symm)
/-- one run more -/
theorem Conn.snoc {runs : List Run} {r : Run} {a b : Int} : Conn (runs ++ [r]) a b ↔ Conn runs a b ∨ (Conn runs a r.one ∧ Conn runs r.other b) ∨ (Conn runs a r.other ∧ Conn runs r.one b) := by
  have up : ∀ x y, Conn runs x y → Conn (runs ++ [r]) x y := fun x y c => c.mono fun r h => List.mem_append_left _ h
  have new : Conn (runs ++ [r]) r.one r.other := Conn.run (List.mem_append_right _ (by simp))
  constructor
  · intro c
    refine (c.ind (P := fun z => Conn runs a z ∨ (Conn runs a r.one ∧ Conn runs r.other z) ∨ (Conn runs a r.other ∧ Conn runs r.one z)) (fun q hq => ?_)).mp (.inl (.refl a))
    rcases List.mem_append.mp hq with m | m
    · have e := Conn.run m
      constructor
      · rintro (z | ⟨y, z⟩ | ⟨y, z⟩)
        · exact .inl (z.trans e)
        · exact .inr (.inl ⟨y, z.trans e⟩)
        · exact .inr (.inr ⟨y, z.trans e⟩)
      · rintro (z | ⟨y, z⟩ | ⟨y, z⟩)
        · exact .inl (z.trans e.symm)
        · exact .inr (.inl ⟨y, z.trans e.symm⟩)
        · exact .inr (.inr ⟨y, z.trans e.symm⟩)
    · rw [List.mem_singleton.mp m]
      constructor
      · rintro (z | ⟨y, z⟩ | ⟨y, z⟩)
        · exact .inr (.inl ⟨z, .refl _⟩)
        · exact .inr (.inl ⟨y, .refl _⟩)
        · exact .inl y
      · rintro (z | ⟨y, z⟩ | ⟨y, z⟩)
        · exact .inr (.inr ⟨z, .refl _⟩)
        · exact .inl y
        · exact .inr (.inr ⟨y, .refl _⟩)
  · rintro (c | ⟨c, d⟩ | ⟨c, d⟩)
    · exact up _ _ c
    · exact ((up _ _ c).trans new).trans (up _ _ d)
    · exact ((up _ _ c).trans new.symm).trans (up _ _ d)
/-- labels: alike where they hang together -/
def Labels (size : Int) (runs : List Run) (L : List Int) : Prop := L.length = size.toNat ∧ ∀ a b, 0 ≤ a → a < size → 0 ≤ b → b < size → (gI L a = gI L b ↔ Conn runs a b)
theorem labels_same {size : Int} {runs : List Run} {L : List Int} {r : Run} (h : Labels size runs L) (h0 : 0 ≤ r.one ∧ r.one < size ∧ 0 ≤ r.other ∧ r.other < size) (e : gI L r.one = gI L r.other) : Labels size (runs ++ [r]) L := by
  refine ⟨h.1, fun a b a0 a1 b0 b1 => (h.2 a b a0 a1 b0 b1).trans ?_⟩
  rw [Conn.snoc]
  have c := (h.2 _ _ h0.1 h0.2.1 h0.2.2.1 h0.2.2.2).mp e
  constructor
  · exact .inl
  · rintro (z | ⟨y, z⟩ | ⟨y, z⟩)
    · exact z
    · exact (y.trans c).trans z
    · exact (y.trans c.symm).trans z
theorem labels_join {size : Int} {runs : List Run} {L L' : List Int} {r : Run} (h : Labels size runs L) (h0 : 0 ≤ r.one ∧ r.one < size ∧ 0 ≤ r.other ∧ r.other < size) (hl : L'.length = L.length)
    (e : ∀ x, 0 ≤ x → x < size → gI L' x = if gI L x = gI L r.other then gI L r.one else gI L x) : Labels size (runs ++ [r]) L' := by
  refine ⟨hl.trans h.1, fun a b a0 a1 b0 b1 => ?_⟩
  rw [Conn.snoc, e a a0 a1, e b b0 b1, ← h.2 a b a0 a1 b0 b1, ← h.2 a r.one a0 a1 h0.1 h0.2.1, ← h.2 r.other b h0.2.2.1 h0.2.2.2 b0 b1, ← h.2 a r.other a0 a1 h0.2.2.1 h0.2.2.2, ← h.2 r.one b h0.1 h0.2.1 b0 b1]
  generalize gI L a = x, gI L b = y, gI L r.one = u, gI L r.other = v
  by_cases qa : x = v
  · rw [if_pos qa]
    by_cases qb : y = v
    · rw [if_pos qb]; omega
    · rw [if_neg qb]; omega
  · rw [if_neg qa]
    by_cases qb : y = v
    · rw [if_pos qb]; omega
    · rw [if_neg qb]; omega
end FL

set_option Elab.async false
set_option linter.all false
set_option maxRecDepth 100000
set_option maxHeartbeats 4000000
/-! What hangs together: spread, fill, reached, parts; labels. -/
namespace FL
open PySem PySem.Spec PyProof.Rows L2
def encO : Option Int → D
  | none => .non
  | some i => .int i
@[simp] theorem encO_n : encO none = .non := rfl
@[simp] theorem encO_s (i : Int) : encO (some i) = .int i := rfl
/-- a height, if any -/
def gO (H : List (Option Int)) (x : Int) : Option Int := H.getD x.toNat none
theorem at_opts {H : List (Option Int)} {i : Int} (h0 : 0 ≤ i) (h1 : i < H.length) : atI (H.map encO) i = some (encO (gO H i)) := by
  obtain ⟨x, hx, hx2⟩ := atI_of (xs := H) h0 h1
  unfold gO
  rw [atI_map, hx, List.getD_eq_getElem?_getD, hx2]; rfl
def nones : List (Option Int) → Nat
  | [] => 0
  | none :: r => nones r + 1
  | some _ :: r => nones r
theorem nones_set {h : Int} : ∀ {H : List (Option Int)} {i : Nat}, H[i]? = some none → nones (H.set i (some h)) + 1 = nones H
  | [], i, q => by simp at q
  | o :: r, 0, q => by simp at q; subst q; rfl
  | none :: r, i + 1, q => by
    have := nones_set (h := h) (H := r) (i := i) (by simpa using q)
    show nones (r.set i (some h)) + 1 + 1 = nones r + 1
    omega
  | some a :: r, i + 1, q => by
    have := nones_set (h := h) (H := r) (i := i) (by simpa using q)
    exact this
theorem gO_set {H : List (Option Int)} {k x : Int} {v : Option Int} (k0 : 0 ≤ k) (k1 : k < H.length) (x0 : 0 ≤ x) : gO (H.set k.toNat v) x = if x = k then v else gO H x := by
  unfold gO
  rw [List.getD_eq_getElem?_getD, List.getD_eq_getElem?_getD]
  by_cases h : x = k
  · subst h
    rw [if_pos rfl, List.getElem?_set_self (by omega)]; rfl
  · rw [if_neg h, List.getElem?_set_ne (by omega)]
theorem gO_none {H : List (Option Int)} {k : Int} (k0 : 0 ≤ k) (k1 : k < H.length) (h : gO H k = none) : H[k.toNat]? = some none := by
  unfold gO at h
  rw [List.getD_eq_getElem?_getD] at h
  cases q : H[k.toNat]? with
  | none => rw [List.getElem?_eq_none_iff] at q; omega
  | some o => rw [q] at h; exact congrArg some h
/-- heights led on: what was stays, what is new is led to -/
structure LedR (runs : List Run) (H H' : List (Option Int)) : Prop where
  len : H'.length = H.length
  old : ∀ x h, 0 ≤ x → gO H x = some h → gO H' x = some h
  new : ∀ x h, 0 ≤ x → gO H' x = some h → ∃ (y g : Int), 0 ≤ y ∧ y < H.length ∧ gO H y = some g ∧ Lead runs y x (h - g)
theorem gO_lt {H : List (Option Int)} {x h : Int} (x0 : 0 ≤ x) (q : gO H x = some h) : x < H.length := by
  unfold gO at q
  rw [List.getD_eq_getElem?_getD] at q
  by_cases l : x.toNat < H.length
  · omega
  · rw [List.getElem?_eq_none (by omega)] at q; cases q
theorem LedR.refl (runs : List Run) (H : List (Option Int)) : LedR runs H H := ⟨rfl, fun _ _ _ h => h, fun x h x0 q => ⟨x, h, x0, gO_lt x0 q, q, by rw [Int.sub_self]; exact .refl x⟩⟩
theorem LedR.trans {runs : List Run} {H H1 H2 : List (Option Int)} (a : LedR runs H H1) (b : LedR runs H1 H2) : LedR runs H H2 :=
  ⟨b.len.trans a.len, fun x h x0 q => b.old x h x0 (a.old x h x0 q), fun x h x0 q => by
    obtain ⟨y, g, y0, y1, q1, l1⟩ := b.new x h x0 q
    obtain ⟨z, k, z0, z1, q2, l2⟩ := a.new y g y0 q1
    refine ⟨z, k, z0, z1, q2, ?_⟩
    have := l2.trans l1
    rwa [show g - k + (h - g) = h - k by omega] at this⟩
/-- one place more -/
theorem LedR.set {runs : List Run} {H : List (Option Int)} {k y h g : Int} (k0 : 0 ≤ k) (k1 : k < H.length) (n : gO H k = none) (y0 : 0 ≤ y) (q : gO H y = some g) (l : Lead runs y k (h - g)) : LedR runs H (H.set k.toNat (some h)) := by
  refine ⟨by simp, fun x v x0 hx => ?_, fun x v x0 hx => ?_⟩
  · rw [gO_set k0 k1 x0]
    by_cases e : x = k
    · subst e; rw [n] at hx; cases hx
    · rw [if_neg e]; exact hx
  · rw [gO_set k0 k1 x0] at hx
    by_cases e : x = k
    · subst e
      rw [if_pos rfl] at hx; cases hx
      exact ⟨y, g, y0, gO_lt y0 q, q, l⟩
    · rw [if_neg e] at hx
      exact ⟨x, v, x0, gO_lt x0 hx, hx, by rw [Int.sub_self]; exact .refl x⟩
def Closed (runs : List Run) (H : List (Option Int)) : Prop := ∀ r ∈ runs, (gO H r.one).isSome = (gO H r.other).isSome
structure SpreadR (runs : List Run) (all : List Run) (H H' : List (Option Int)) (more : Bool) : Prop where
  led : LedR all H H'
  no : more = false → H' = H ∧ Closed runs H
  less : more = true → nones H' < nones H
def sp_spread : SpD := fun ds e Q => ∃ p runs H, ds = [.lst (runsD runs), .ref p] ∧ e p = some (.lst (H.map encO)) ∧ InR H.length runs ∧ runs.length ≤ 4096 ∧ ∀ H' more, SpreadR runs runs H H' more → Q (.bl more) (e.put p (.lst (H'.map encO)))
def sp_fill : SpD := fun ds e Q => ∃ p runs H, ds = [.lst (runsD runs), .ref p] ∧ e p = some (.lst (H.map encO)) ∧ InR H.length runs ∧ runs.length ≤ 4096 ∧ ∀ H', LedR runs H H' → Closed runs H' → Q .non (e.put p (.lst (H'.map encO)))
theorem put_self {e : Eta} {p : Addr} {o : O} (h : e p = some o) : e = e.put p o := by
  funext q
  unfold Eta.put
  by_cases z : q = p
  · rw [if_pos z, z]; exact h
  · rw [if_neg z]
theorem SpreadR.start (runs : List Run) (H : List (Option Int)) : SpreadR (runs.take 0) runs H H false := ⟨.refl _ _, fun _ => ⟨rfl, fun r h => (by cases h)⟩, fun z => (by cases z)⟩
abbrev nm_spread : List Str := ["runs", "heights", "more", "one", "other", "rise", "hand"]

def t_spread : TSD :=
 (dSeq (dAsg (dC (.bl false)) (.one 2))
 (dSeq (dFor (iSeq (dVar 0)) (.many [3, 4, 5, 6])
 (dIfS (dAnd (dTest (dOp (rIsN true) (dOp rIdx (dVar 1) (dVar 3)) (dC .non))) (dTest (dOp (rIsN false) (dOp rIdx (dVar 1) (dVar 4)) (dC .non)))) (dSeq (dSto (dVar 1) (dVar 4) (dOp rPlus (dOp rIdx (dVar 1) (dVar 3)) (dVar 5)))
 (dAsg (dC (.bl true)) (.one 2)))
 (dIfS (dAnd (dTest (dOp (rIsN false) (dOp rIdx (dVar 1) (dVar 3)) (dC .non))) (dTest (dOp (rIsN true) (dOp rIdx (dVar 1) (dVar 4)) (dC .non)))) (dSeq (dSto (dVar 1) (dVar 3) (dOp rSubD (dOp rIdx (dVar 1) (dVar 4)) (dVar 5)))
 (dAsg (dC (.bl true)) (.one 2)))
 dNx)))
 (dRet (dVar 2))))

abbrev nm_fill : List Str := ["runs", "heights", "more"]

def t_fill : TSD :=
 (dSeq (dAsg (dC (.bl true)) (.one 2))
 (dWhile (dTru (dVar 2))
 (dAsg (dCall sp_spread (dCons (dVar 0) (dCons (dVar 1) dNil))) (.one 2))))

theorem rd_spread (ds : List D) (e : Eta) (Q : D → Eta → Prop) (h : sp_spread ds e Q) : t_spread (endsD Q) (startD nm_spread ds) e := by
  obtain ⟨p, runs, H, rfl, hp, hi, hl, k⟩ := h
  simp [t_spread]
  refine for_inv (fun i dl e' => ∃ H' more, e' = e.put p (.lst (H'.map encO)) ∧ SpreadR (runs.take i) runs H H' more ∧ nones H' ≤ nones H ∧ ∃ s3 s4 s5 s6, dl = [some (.lst (runsD runs)), some (.ref p), some (.bl more), s3, s4, s5, s6]) (fun _ _ _ _ => trivial)
    ⟨H, false, put_self hp, SpreadR.start _ _, Nat.le_refl _, _, _, _, _, rfl⟩ ?_ ?_
  · rintro i x dl e' N hx ⟨H', more, rfl, S, hn, s3, s4, s5, s6, rfl⟩ hN
    obtain ⟨r, hr, rfl⟩ := map_at hx
    have hm := List.mem_of_getElem? hr
    obtain ⟨q0, q1, q2, q3⟩ := hi r hm
    have hL := S.led.len
    have a1 := at_opts (H := H') q0 (by omega)
    have a2 := at_opts (H := H') q2 (by omega)
    have tk : runs.take (i + 1) = runs.take i ++ [r] := by rw [List.take_add_one, hr]; rfl
    have stay : (gO H' r.one).isSome = (gO H' r.other).isSome → ∀ s3 s4 s5 s6, N [some (.lst (runsD runs)), some (.ref p), some (.bl more), s3, s4, s5, s6] (e.put p (.lst (H'.map encO))) := fun q s3 s4 s5 s6 => by
      refine hN _ _ ⟨H', more, rfl, ⟨S.led, fun z => ?_, S.less⟩, hn, _, _, _, _, rfl⟩
      obtain ⟨e1, c⟩ := S.no z
      refine ⟨e1, fun r' h' => ?_⟩
      rw [tk] at h'
      rcases List.mem_append.mp h' with w | w
      · exact c r' w
      · rw [List.mem_singleton.mp w, ← e1]; exact q
    have move : ∀ (k v y g : Int), 0 ≤ k → k < H'.length → gO H' k = none → 0 ≤ y → gO H' y = some g → Lead runs y k (v - g) → ∀ s3 s4 s5 s6, N [some (.lst (runsD runs)), some (.ref p), some (.bl true), s3, s4, s5, s6] (e.put p (.lst ((H'.map encO).set k.toNat (.int v)))) := fun k v y g k0 k1 kn y0 yg l s3 s4 s5 s6 => by
      have ns := nones_set (h := v) (gO_none k0 k1 kn)
      refine hN _ _ ⟨H'.set k.toNat (some v), true, by rw [List.map_set]; rfl, ⟨S.led.trans (.set k0 k1 kn y0 yg l), fun z => (by cases z), fun _ => (by omega)⟩, by omega, _, _, _, _, rfl⟩
    cases g1 : gO H' r.one with
    | none =>
      cases g2 : gO H' r.other with
      | none =>
        simp [a1, a2, g1, g2]
        exact stay (by simp [g1, g2]) _ _ _ _
      | some h2 =>
        simp [a1, a2, g1, g2, ixN_of q0 (show r.one < ((H'.map encO).length : Int) by rw [List.length_map]; omega)]
        have w := ixN_of q0 (show r.one < (H'.length : Int) by omega)
        simp [w]
        exact move r.one (h2 - r.rise) r.other h2 q0 (by omega) g1 q2 g2 (by have := Lead.bwd (.refl r.other) hm; rwa [show (0 : Int) - r.rise = h2 - r.rise - h2 by omega] at this) _ _ _ _
    | some h1 =>
      cases g2 : gO H' r.other with
      | none =>
        have w := ixN_of q2 (show r.other < (H'.length : Int) by omega)
        simp [a1, a2, g1, g2, w]
        exact move r.other (h1 + r.rise) r.one h1 q2 (by omega) g2 q0 g1 (by have := Lead.fwd (.refl r.one) hm; rwa [show (0 : Int) + r.rise = h1 + r.rise - h1 by omega] at this) _ _ _ _
      | some h2 =>
        simp [a1, a2, g1, g2]
        exact stay (by simp [g1, g2]) _ _ _ _
  · rintro dl e' ⟨H', more, rfl, S, hn, s3, s4, s5, s6, rfl⟩
    simp
    rw [List.length_map, List.take_length] at S
    exact outD.self (k H' more S)
theorem use_spread {p : Addr} {runs : List Run} {H : List (Option Int)} {e : Eta} {Q : D → Eta → Prop} (hp : e p = some (.lst (H.map encO))) (hi : InR H.length runs) (hl : runs.length ≤ 4096) (k : ∀ H' more, SpreadR runs runs H H' more → Q (.bl more) (e.put p (.lst (H'.map encO)))) : sp_spread [.lst (runsD runs), .ref p] e Q := ⟨p, runs, H, rfl, hp, hi, hl, k⟩
theorem rd_fill (ds : List D) (e : Eta) (Q : D → Eta → Prop) (h : sp_fill ds e Q) : t_fill (endsD Q) (startD nm_fill ds) e := by
  obtain ⟨p, runs, H, rfl, hp, hi, hl, k⟩ := h
  simp [t_fill]
  refine ⟨fun m dl e' => ∃ H' more, e' = e.put p (.lst (H'.map encO)) ∧ LedR runs H H' ∧ dl = [some (.lst (runsD runs)), some (.ref p), some (.bl more)] ∧ (more = false → Closed runs H') ∧ m = if more = true then nones H' + 1 else 0,
    ⟨nones H + 1, H, true, put_self hp, .refl _ _, rfl, fun z => (by cases z), rfl⟩, ?_⟩
  rintro m dl e' ⟨H', more, rfl, L, rfl, c, rfl⟩
  have hL := L.len
  cases more with
  | false =>
    simp
    exact outD.self (k H' L (c rfl))
  | true =>
    simp
    refine use_spread put_same (by rw [hL]; exact hi) hl fun H2 more S => ?_
    rw [put_put]
    cases more with
    | false =>
      obtain ⟨e1, cc⟩ := S.no rfl
      exact ⟨0, by omega, H2, rfl, L.trans S.led, .inl ⟨rfl, by rw [e1]; exact cc, rfl⟩⟩
    | true =>
      have := S.less rfl
      exact ⟨nones H2 + 1, by omega, H2, rfl, L.trans S.led, .inr ⟨rfl, rfl⟩⟩
theorem use_fill {p : Addr} {runs : List Run} {H : List (Option Int)} {e : Eta} {Q : D → Eta → Prop} (hp : e p = some (.lst (H.map encO))) (hi : InR H.length runs) (hl : runs.length ≤ 4096) (k : ∀ H', LedR runs H H' → Closed runs H' → Q .non (e.put p (.lst (H'.map encO)))) : sp_fill [.lst (runsD runs), .ref p] e Q := ⟨p, runs, H, rfl, hp, hi, hl, k⟩
def sp_reached : SpD := fun ds e Q => ∃ (size : Int) (runs : List Run) (mark : Int), ds = [.int size, .lst (runsD runs), .int mark] ∧ 0 ≤ mark ∧ mark < size ∧ size ≤ 64 ∧ runs.length ≤ 4096 ∧ InR size runs ∧ ∀ l : List Int, l.Pairwise (· < ·) → l.length ≤ 64 → (∀ x, x ∈ l ↔ 0 ≤ x ∧ x < size ∧ Conn runs mark x) → Q (.lst (l.map .int)) e
theorem rep_non (n : Nat) : (List.replicate n [D.non]).flatten = (List.replicate n (none : Option Int)).map encO := by
  induction n with
  | zero => rfl
  | succ n ih => rw [List.replicate_succ, List.flatten_cons, ih]; rfl
theorem gO_rep {n : Nat} {x : Int} : gO (List.replicate n none) x = none := by
  unfold gO
  rw [List.getD_eq_getElem?_getD]
  by_cases h : x.toNat < n
  · rw [List.getElem?_replicate, if_pos h]; rfl
  · rw [List.getElem?_eq_none (by rw [List.length_replicate]; omega)]; rfl
/-- behind filling from one mark -/
theorem filled {runs : List Run} {n : Nat} {mark : Int} {H : List (Option Int)} (m0 : 0 ≤ mark) (m1 : mark < n) (hi : InR n runs) (L : LedR runs ((List.replicate n none).set mark.toNat (some 0)) H) (c : Closed runs H) : H.length = n ∧ ∀ x, 0 ≤ x → ((gO H x).isSome = true ↔ x < n ∧ Conn runs mark x) := by
  have hl : H.length = n := by rw [L.len]; simp
  have at0 : ∀ y, 0 ≤ y → gO ((List.replicate n none).set mark.toNat (some 0)) y = if y = mark then some 0 else none := fun y y0 => by
    rw [gO_set m0 (by rw [List.length_replicate]; omega) y0, gO_rep]
  refine ⟨hl, fun x x0 => ⟨fun h => ?_, fun ⟨x1, cn⟩ => ?_⟩⟩
  · obtain ⟨v, hv⟩ := Option.isSome_iff_exists.mp h
    obtain ⟨y, g, y0, y1, hy, l⟩ := L.new x v x0 hv
    have := gO_lt x0 hv
    rw [at0 y y0] at hy
    by_cases e : y = mark
    · subst e; exact ⟨by omega, _, l⟩
    · rw [if_neg e] at hy; cases hy
  · have b := cn.ind (P := fun z => (gO H z).isSome = true) fun r hr => by rw [c r hr]
    refine b.mp ?_
    rw [L.old mark 0 m0 (by rw [at0 mark m0, if_pos rfl])]; rfl
abbrev nm_reached : List Str := ["size", "runs", "mark", "heights", "at"]

def t_reached : TSD :=
 (dSeq (dAsg (dOp (rMul true) (dLst (dCons (dC .non) dNil)) (dVar 0)) (.one 3))
 (dSeq (dSto (dVar 3) (dVar 2) (dC (.int 0)))
 (dSeq (dExp (dCall sp_fill (dCons (dVar 1) (dCons (dVar 3) dNil))))
 (dRet (dComp false (iRng1 (dVar 0)) (.one 4) (dTest (dOp (rIsN true) (dOp rIdx (dVar 3) (dVar 4)) (dC .non))) (dVar 4) [4])))))

theorem rd_reached (ds : List D) (e : Eta) (Q : D → Eta → Prop) (h : sp_reached ds e Q) : t_reached (endsD Q) (startD nm_reached ds) e := by
  obtain ⟨size, runs, mark, rfl, m0, m1, s64, hl, hi, k⟩ := h
  simp [t_reached]
  refine ⟨leL, ⟨by omega, by omega, by first | exact leL (by omega) | exact leI (by omega)⟩, fun p hp => ?_⟩
  have ix := ixN_of m0 (show mark < (size.toNat : Int) by omega)
  simp [ix]
  have es : (List.replicate size.toNat D.non).set mark.toNat (.int 0) = ((List.replicate size.toNat (none : Option Int)).set mark.toNat (some 0)).map encO := by
    rw [List.map_set, List.map_replicate]; rfl
  rw [es]
  refine use_fill put_same (fun r hr => ?_) hl fun H L c => ?_
  · obtain ⟨a, b, c, d⟩ := hi r hr
    simp
    omega
  obtain ⟨hlen, hs⟩ := filled m0 (by omega) (fun r hr => (by obtain ⟨a, b, c, d⟩ := hi r hr; omega)) L c
  simp [rngD_length]
  refine ⟨⟨by omega, by omega⟩, by first | exact leL (by omega) | exact leI (by omega), ?_⟩
  refine comp_pure (f := fun i : Nat => D.int (0 + (i : Int))) (p := fun i : Nat => (gO H (i : Int)).isSome) (h := fun i : Nat => D.int (i : Int)) trivial (List.range size.toNat) [] (fun i hi => ?_) ?_
  · have i1 := List.mem_range.mp hi
    have a1 := at_opts (H := H) (i := (i : Int)) (by omega) (by omega)
    simp [a1]
    cases gO H (i : Int) <;> simp
  · rw [List.nil_append]
    have em : ((List.range size.toNat).filter fun i : Nat => (gO H (i : Int)).isSome).map (fun i : Nat => D.int (i : Int)) = (((List.range size.toNat).filter fun i : Nat => (gO H (i : Int)).isSome).map fun i : Nat => (i : Int)).map D.int := by rw [List.map_map]; rfl
    rw [em]
    refine ⟨_, e, Sub.put hp, .refl _, k _ ?_ ?_ ?_⟩
    · rw [List.pairwise_map]
      exact (List.pairwise_lt_range.filter _).imp fun h => by omega
    · rw [List.length_map]
      have := List.length_filter_le (fun i : Nat => (gO H (i : Int)).isSome) (List.range size.toNat)
      rw [List.length_range] at this
      omega
    · intro x
      rw [List.mem_map]
      constructor
      · rintro ⟨i, hi, rfl⟩
        obtain ⟨h1, h2⟩ := List.mem_filter.mp hi
        have := List.mem_range.mp h1
        exact ⟨by omega, by omega, ((hs _ (by omega)).mp h2).2⟩
      · rintro ⟨x0, x1, cn⟩
        refine ⟨x.toNat, List.mem_filter.mpr ⟨List.mem_range.mpr (by omega), ?_⟩, by omega⟩
        rw [show ((x.toNat : Nat) : Int) = x by omega]
        exact (hs x x0).mpr ⟨by omega, cn⟩
end FL

set_option Elab.async false
set_option linter.all false
set_option maxRecDepth 100000
set_option maxHeartbeats 4000000
/-! Parting hands; labels. -/
namespace FL
open PySem PySem.Spec PyProof.Rows L2
theorem use_reached {size : Int} {runs : List Run} {mark : Int} {e : Eta} {Q : D → Eta → Prop} (h : 0 ≤ mark ∧ mark < size ∧ size ≤ 64 ∧ runs.length ≤ 4096) (hi : InR size runs) (k : ∀ l : List Int, l.Pairwise (· < ·) → l.length ≤ 64 → (∀ x, x ∈ l ↔ 0 ≤ x ∧ x < size ∧ Conn runs mark x) → Q (.lst (l.map .int)) e) : sp_reached [.int size, .lst (runsD runs), .int mark] e Q := ⟨size, runs, mark, rfl, h.1, h.2.1, h.2.2.1, h.2.2.2, hi, k⟩
theorem left_in {size : Int} {runs : List Run} {struck : List Int} (h : InR size runs) : InR size (leftR runs struck) := fun r hr => h r (left_sub hr).1
def sp_parts : SpD := fun ds e Q => ∃ (size : Int) (runs : List Run) (struck : List Int) (one other : Int), ds = [.int size, .lst (runsD runs), .lst (struck.map .int), .int one, .int other] ∧ 0 ≤ one ∧ one < size ∧ 0 ≤ other ∧ other < size ∧ size ≤ 64 ∧ runs.length ≤ 4096 ∧ InR size runs ∧ ∀ b : Bool, (b = true ↔ ¬ Conn (leftR runs struck) one other) → Q (.bl b) e
def zeroR (r : Run) : Run := { r with rise := 0 }
/-- labels by runs that do not rise -/
def sp_law_settled : SpD := fun ds e Q => ∃ (size : Int) (runs : List Run), ds = [.int size, .lst (runsD runs)] ∧ 0 ≤ size ∧ size ≤ 64 ∧ runs.length ≤ 4096 ∧ InR size runs ∧ (∀ r ∈ runs, r.rise = 0) ∧ ∀ L hs : List Int, Labels size runs L → Q (.tup [.lst (L.map .int), .lst (hs.map .int)]) e
def sp_law_labels : SpD := fun ds e Q => ∃ (size : Int) (runs : List Run), ds = [.int size, .lst (runsD runs)] ∧ 0 ≤ size ∧ size ≤ 64 ∧ runs.length ≤ 4096 ∧ InR size runs ∧ ∀ L : List Int, Labels size runs L → Q (.lst (L.map .int)) e
abbrev nm_parts : List Str := ["size", "runs", "struck", "one", "other"]

def t_parts : TSD :=
 (dRet (dOp (rInA true) (dVar 4) (dCall sp_reached (dCons (dVar 0) (dCons (dCall sp_left (dCons (dVar 1) (dCons (dVar 2) dNil))) (dCons (dVar 3) dNil))))))

abbrev nm_law_settled : List Str := ["_law_size", "_law_runs", "_law_labels_here", "_law_heights", "_law_one", "_law_other", "_law_rise", "_law_hand", "_law_by", "_law_home", "_law_at"]

def t_law_settled : TSD :=
 (dSeq (dAsg (dListRg true (dVar 0)) (.one 2))
 (dSeq (dAsg (dOp (rMul true) (dLst (dCons (dC (.int 0)) dNil)) (dVar 0)) (.one 3))
 (dSeq (dFor (iSeq (dVar 1)) (.many [4, 5, 6, 7])
 (dSeq (dAsg (dOp rSubD (dOp rPlus (dOp rIdx (dVar 3) (dVar 4)) (dVar 6)) (dOp rIdx (dVar 3) (dVar 5))) (.one 8))
 (dIfS (dTest (dOp (rEq2 false) (dOp rIdx (dVar 2) (dVar 4)) (dOp rIdx (dVar 2) (dVar 5)))) (dIfS (dTest (dOp (rEq2 true) (dVar 8) (dC (.int 0)))) (dRet (dC .non))
 dNx)
 (dSeq (dAsg (dLst (dCons (dOp rIdx (dVar 2) (dVar 4)) (dCons (dOp rIdx (dVar 2) (dVar 5)) dNil))) (.one 9))
 (dFor (iRng1 (dVar 0)) (.one 10)
 (dIfS (dTest (dOp (rEq2 false) (dOp rIdx (dVar 2) (dVar 10)) (dOp rIdx (dVar 9) (dC (.int 1))))) (dSeq (dSto (dVar 2) (dVar 10) (dOp rIdx (dVar 9) (dC (.int 0))))
 (dAugS (dVar 3) (dVar 10) (dVar 8) rAddI))
 dNx))))))
 (dRet (dTup (dCons (dVar 2) (dCons (dVar 3) dNil)))))))

abbrev nm_law_labels : List Str := ["_law_size", "_law_runs", "_law_one", "_law_other", "_law_rise", "_law_hand"]

def t_law_labels : TSD :=
 (dRet (dOp rIdx (dCall sp_law_settled (dCons (dVar 0) (dCons (dComp false (iSeq (dVar 1)) (.many [2, 3, 4, 5]) dYes (dTup (dCons (dVar 2) (dCons (dVar 3) (dCons (dC (.int 0)) (dCons (dVar 5) dNil))))) [2, 3, 4, 5]) dNil))) (dC (.int 0))))

theorem rd_parts (ds : List D) (e : Eta) (Q : D → Eta → Prop) (h : sp_parts ds e Q) : t_parts (endsD Q) (startD nm_parts ds) e := by
  obtain ⟨size, runs, struck, one, other, rfl, a0, a1, b0, b1, s64, hl, hi, k⟩ := h
  simp [t_parts]
  refine use_left rfl rfl hl (use_reached ⟨a0, a1, s64, Nat.le_trans (left_len _ _) hl⟩ (left_in hi) fun l _ _ hm => ?_)
  simp
  refine outD.self (k _ ?_)
  rw [Bool.not_eq_true', decide_eq_false_iff_not, hm other]
  exact ⟨fun h c => h ⟨b0, b1, c⟩, fun h c => h c.2.2⟩
theorem rng_ints (n : Nat) : rngD 0 n = ((List.range n).map fun i : Nat => (i : Int)).map D.int := by
  unfold rngD
  rw [List.map_map]
  exact List.map_congr_left fun i _ => by simp
theorem labels_start (size : Int) : Labels size [] ((List.range size.toNat).map fun i : Nat => (i : Int)) := by
  have gi : ∀ x, 0 ≤ x → x < size → gI ((List.range size.toNat).map fun i : Nat => (i : Int)) x = x := fun x x0 x1 => by
    unfold gI
    rw [List.getD_eq_getElem?_getD, List.getElem?_map, List.getElem?_range (by omega)]
    show ((x.toNat : Nat) : Int) = x
    omega
  refine ⟨by simp, fun a b a0 a1 b0 b1 => ?_⟩
  rw [gi a a0 a1, gi b b0 b1]
  exact ⟨fun h => h ▸ .refl a, fun h => h.nil⟩
theorem gI_set {H : List Int} {k x v : Int} (k0 : 0 ≤ k) (k1 : k < H.length) (x0 : 0 ≤ x) : gI (H.set k.toNat v) x = if x = k then v else gI H x := by
  unfold gI
  rw [List.getD_eq_getElem?_getD, List.getD_eq_getElem?_getD]
  by_cases h : x = k
  · subst h
    rw [if_pos rfl, List.getElem?_set_self (by omega)]; rfl
  · rw [if_neg h, List.getElem?_set_ne (by omega)]
theorem rd_law_settled (ds : List D) (e : Eta) (Q : D → Eta → Prop) (h : sp_law_settled ds e Q) : t_law_settled (endsD Q) (startD nm_law_settled ds) e := by
  obtain ⟨size, runs, rfl, s0, s64, hl, hi, hz, k⟩ := h
  simp [t_law_settled]
  refine ⟨⟨by omega, by omega, by omega⟩, fun p hp => ⟨leL, ⟨by omega, by omega, by first | exact leL (by omega) | exact leI (by omega)⟩, fun q hq => ?_⟩⟩
  have nqp : q ≠ p := fun z => by subst z; rw [put_same] at hq; cases hq
  have qe : e q = none := by rw [put_ne nqp] at hq; exact hq
  have zs : List.replicate size.toNat (D.int 0) = (List.replicate size.toNat (0 : Int)).map D.int := by rw [List.map_replicate]
  have gz : ∀ x, gI (List.replicate size.toNat (0 : Int)) x = 0 := fun x => by
    unfold gI
    rw [List.getD_eq_getElem?_getD, List.getElem?_replicate]
    split <;> rfl
  have lz : (List.replicate size.toNat (0 : Int)).length = size.toNat := List.length_replicate ..
  rw [rng_ints, zs]
  generalize (List.replicate size.toNat (0 : Int)) = Z at gz lz
  have sw : ∀ (x y l : O), ((e.put p x).put q l).put p y = (e.put p y).put q l := fun x y l => by rw [put_comm nqp, put_put]
  have at_p : ∀ (x l : O), ((e.put p x).put q l) p = some x := fun x l => by rw [put_ne (Ne.symm nqp), put_same]
  refine for_inv (fun i dl e' => ∃ L Z', e' = (e.put p (.lst (L.map .int))).put q (.lst (Z'.map .int)) ∧ Labels size (runs.take i) L ∧ List.length (α := Int) Z' = size.toNat ∧ (∀ x, gI Z' x = 0) ∧ ∃ s4 s5 s6 s7 s8 s9 s10, dl = [some (.int size), some (.lst (runsD runs)), some (.ref p), some (.ref q), s4, s5, s6, s7, s8, s9, s10]) (fun _ _ _ _ => trivial)
    ⟨_, Z, rfl, labels_start size, lz, gz, _, _, _, _, _, _, _, rfl⟩ ?_ ?_
  · rintro i x dl e' N hx ⟨L, Z, rfl, hL, lz, gz, s4, s5, s6, s7, s8, s9, s10, rfl⟩ hN
    obtain ⟨r, hr, rfl⟩ := map_at hx
    have hm := List.mem_of_getElem? hr
    have ir := hi r hm
    obtain ⟨q0, q1, q2, q3⟩ := ir
    have tk : runs.take (i + 1) = runs.take i ++ [r] := by rw [List.take_add_one, hr]; rfl
    have lL := hL.1
    have z1 := at_ints (hs := Z) q0 (by omega)
    have z2 := at_ints (hs := Z) q2 (by omega)
    have l1 := at_ints (hs := L) q0 (by omega)
    have l2 := at_ints (hs := L) q2 (by omega)
    simp [at_p, z1, z2, l1, l2, gz, hz r hm]
    by_cases eq : gI L r.one = gI L r.other
    · simp [eq]
      exact hN _ _ ⟨L, Z, rfl, by rw [tk]; exact labels_same hL ⟨q0, q1, q2, q3⟩ eq, lz, gz, _, _, _, _, _, _, _, rfl⟩
    · simp [eq]
      refine ⟨leL, ⟨by omega, by omega⟩, ?_⟩
      refine for_inv (fun j dl e' => ∃ L' Z', e' = (e.put p (.lst (L'.map .int))).put q (.lst (Z'.map .int)) ∧ L'.length = L.length ∧ (∀ x, 0 ≤ x → x < size → gI L' x = if x < j ∧ gI L x = gI L r.other then gI L r.one else gI L x) ∧ List.length (α := Int) Z' = size.toNat ∧ (∀ x, gI Z' x = 0) ∧ ∃ s10, dl = [some (.int size), some (.lst (runsD runs)), some (.ref p), some (.ref q), some (.int r.one), some (.int r.other), some (.int 0), some (.int r.hand), some (.int 0), some (.lst [.int (gI L r.one), .int (gI L r.other)]), s10]) (fun _ _ _ _ => trivial)
        ⟨L, Z, rfl, rfl, fun x x0 x1 => by rw [if_neg (by rintro ⟨h, _⟩; omega)], lz, gz, _, rfl⟩ ?_ ?_
      · rintro j y dl e' M hy ⟨L', Z', rfl, ll, hv, lz', gz', s10, rfl⟩ hM
        obtain ⟨rfl, hj⟩ := rng_at hy
        have j1 : (j : Int) < size := by omega
        have m1 := at_ints (hs := L') (i := (j : Int)) (by omega) (by omega)
        have m2 := at_ints (hs := Z') (i := (j : Int)) (by omega) (by omega)
        have vj := hv j (by omega) j1
        rw [if_neg (by rintro ⟨h, _⟩; omega)] at vj
        simp [at_p, m1, vj]
        by_cases ej : gI L j = gI L r.other
        · simp [ej, sw, at_p, m1, m2, gz', ixN_of (show 0 ≤ (j : Int) by omega) (show (j : Int) < (L'.length : Int) by omega), ixN_of (show 0 ≤ (j : Int) by omega) (show (j : Int) < (Z'.length : Int) by omega)]
          have e1 : ((L'.map D.int).set j (.int (gI L r.one))) = (L'.set j (gI L r.one)).map D.int := by rw [List.map_set]
          have e2 : ((Z'.map D.int).set j (.int 0)) = (Z'.set j 0).map D.int := by rw [List.map_set]
          rw [e1, e2]
          have gs : ∀ (l : List Int) (v x : Int), j < l.length → 0 ≤ x → gI (l.set j v) x = if x = j then v else gI l x := fun l v x hl x0 => by
            have := gI_set (H := l) (k := (j : Int)) (v := v) (by omega) (by omega) x0
            simpa using this
          refine hM _ _ ⟨L'.set j (gI L r.one), Z'.set j 0, rfl, by rw [List.length_set]; exact ll, fun x x0 x1 => ?_, by rw [List.length_set]; exact lz', fun x => ?_, _, rfl⟩
          · rw [gs L' _ x (by omega) x0, hv x x0 x1]
            by_cases xe : x = j
            · subst xe; rw [if_pos rfl, if_pos ⟨by omega, ej⟩]
            · rw [if_neg xe]
              by_cases c : x < j ∧ gI L x = gI L r.other
              · rw [if_pos c, if_pos ⟨by have := c.1; omega, c.2⟩]
              · rw [if_neg c, if_neg (by rintro ⟨h1, h2⟩; exact c ⟨by omega, h2⟩)]
          · by_cases x0 : 0 ≤ x
            · rw [gs Z' 0 x (by omega) x0, gz']; split <;> rfl
            · have := gs Z' 0 0 (by omega) (by omega)
              have ex : gI (Z'.set j 0) x = gI (Z'.set j 0) 0 := by unfold gI; rw [show x.toNat = 0 by omega]; rfl
              rw [ex, this, gz']; split <;> rfl
        · simp [ej]
          refine hM _ _ ⟨L', Z', rfl, ll, fun x x0 x1 => ?_, lz', gz', _, rfl⟩
          rw [hv x x0 x1]
          by_cases xe : x = j
          · subst xe; rw [if_neg (by rintro ⟨h, _⟩; omega), if_neg (by rintro ⟨_, h⟩; exact ej h)]
          · by_cases c : x < j ∧ gI L x = gI L r.other
            · rw [if_pos c, if_pos ⟨by have := c.1; omega, c.2⟩]
            · rw [if_neg c, if_neg (by rintro ⟨h1, h2⟩; exact c ⟨by omega, h2⟩)]
      · rintro dl e' ⟨L', Z', rfl, ll, hv, lz', gz', s10, rfl⟩
        rw [rngD_length] at hv
        refine hN _ _ ⟨L', Z', rfl, ?_, lz', gz', _, _, _, _, _, _, _, rfl⟩
        rw [tk]
        refine labels_join hL ⟨q0, q1, q2, q3⟩ ll fun x x0 x1 => ?_
        rw [hv x x0 x1]
        by_cases c : gI L x = gI L r.other
        · rw [if_pos ⟨by omega, c⟩, if_pos c]
        · rw [if_neg (fun h => c h.2), if_neg c]
  · rintro dl e' ⟨L, Z, rfl, hL, lz, gz, s4, s5, s6, s7, s8, s9, s10, rfl⟩
    rw [List.length_map, List.take_length] at hL
    simp
    refine ⟨leL, .tup [.lst (L.map .int), .lst (Z.map .int)], e, (Sub.put hp).trans (Sub.put (by rw [put_ne nqp]; exact qe)), .tup (.cons (.cell (at_p _ _) hp (.refl _)) (.cons (.cell put_same qe (.refl _)) .nil)), k L Z hL⟩
theorem use_settled {size : Int} {runs : List Run} {e : Eta} {Q : D → Eta → Prop} (h : 0 ≤ size ∧ size ≤ 64 ∧ runs.length ≤ 4096) (hi : InR size runs) (hz : ∀ r ∈ runs, r.rise = 0) (k : ∀ L hs : List Int, Labels size runs L → Q (.tup [.lst (L.map .int), .lst (hs.map .int)]) e) : sp_law_settled [.int size, .lst (runsD runs)] e Q := ⟨size, runs, rfl, h.1, h.2.1, h.2.2, hi, hz, k⟩
theorem conn_zero {runs : List Run} {a b : Int} : Conn (runs.map zeroR) a b ↔ Conn runs a b :=
  ⟨fun c => c.congr fun r hr => (by obtain ⟨r', m, rfl⟩ := List.mem_map.mp hr; exact ⟨r', m, rfl, rfl⟩), fun c => c.congr fun r hr => ⟨zeroR r, List.mem_map.mpr ⟨r, hr, rfl⟩, rfl, rfl⟩⟩
theorem rd_law_labels (ds : List D) (e : Eta) (Q : D → Eta → Prop) (h : sp_law_labels ds e Q) : t_law_labels (endsD Q) (startD nm_law_labels ds) e := by
  obtain ⟨size, runs, rfl, s0, s64, hl, hi, k⟩ := h
  simp [t_law_labels]
  refine ⟨leL (by omega), comp_pure (p := fun _ => true) (h := fun r : Run => (zeroR r).d) trivial runs [] (fun r hr => ?_) ?_⟩
  · simp
    exact fun K kk => ⟨leL, kk⟩
  · rw [List.filter_eq_self.mpr (fun _ _ => rfl), List.nil_append, show (runs.map fun r => (zeroR r).d) = runsD (runs.map zeroR) by show _ = List.map Run.d (runs.map zeroR); rw [List.map_map]; rfl]
    refine use_settled ⟨s0, s64, by rw [List.length_map]; exact hl⟩ (fun r hr => ?_) (fun r hr => ?_) fun L hs hL => ?_
    · obtain ⟨r', m, rfl⟩ := List.mem_map.mp hr
      exact hi r' m
    · obtain ⟨r', m, rfl⟩ := List.mem_map.mp hr
      rfl
    · simp
      exact outD.self (k L ⟨hL.1, fun a b a0 a1 b0 b1 => (hL.2 a b a0 a1 b0 b1).trans conn_zero⟩)
theorem use_labels {size : Int} {runs : List Run} {e : Eta} {Q : D → Eta → Prop} (h : 0 ≤ size ∧ size ≤ 64 ∧ runs.length ≤ 4096) (hi : InR size runs) (k : ∀ L : List Int, Labels size runs L → Q (.lst (L.map .int)) e) : sp_law_labels [.int size, .lst (runsD runs)] e Q := ⟨size, runs, rfl, h.1, h.2.1, h.2.2, hi, k⟩
theorem use_parts {size : Int} {runs : List Run} {struck : List Int} {one other : Int} {e : Eta} {Q : D → Eta → Prop} (h : 0 ≤ one ∧ one < size ∧ 0 ≤ other ∧ other < size ∧ size ≤ 64 ∧ runs.length ≤ 4096) (hi : InR size runs) (k : ∀ b : Bool, (b = true ↔ ¬ Conn (leftR runs struck) one other) → Q (.bl b) e) : sp_parts [.int size, .lst (runsD runs), .lst (struck.map .int), .int one, .int other] e Q := ⟨size, runs, struck, one, other, rfl, h.1, h.2.1, h.2.2.1, h.2.2.2.1, h.2.2.2.2.1, h.2.2.2.2.2, hi, k⟩
theorem len_spread (ds : List D) (e : Eta) (Q : D → Eta → Prop) (h : sp_spread ds e Q) : ds.length = 2 := by obtain ⟨_, _, _, rfl, _⟩ := h; rfl
theorem len_fill (ds : List D) (e : Eta) (Q : D → Eta → Prop) (h : sp_fill ds e Q) : ds.length = 2 := by obtain ⟨_, _, _, rfl, _⟩ := h; rfl
theorem len_reached (ds : List D) (e : Eta) (Q : D → Eta → Prop) (h : sp_reached ds e Q) : ds.length = 3 := by obtain ⟨_, _, _, rfl, _⟩ := h; rfl
theorem len_parts (ds : List D) (e : Eta) (Q : D → Eta → Prop) (h : sp_parts ds e Q) : ds.length = 5 := by obtain ⟨_, _, _, _, _, rfl, _⟩ := h; rfl
theorem len_law_settled (ds : List D) (e : Eta) (Q : D → Eta → Prop) (h : sp_law_settled ds e Q) : ds.length = 2 := by obtain ⟨_, _, rfl, _⟩ := h; rfl
theorem len_law_labels (ds : List D) (e : Eta) (Q : D → Eta → Prop) (h : sp_law_labels ds e Q) : ds.length = 2 := by obtain ⟨_, _, rfl, _⟩ := h; rfl
end FL

set_option Elab.async false
set_option linter.all false
set_option maxRecDepth 100000
set_option maxHeartbeats 4000000
/-! More of the layer: list.index of ints. -/
namespace FL
open PySem PySem.Spec PyProof.Rows L2
def firstI : List Int → Int → Option Nat
  | [], _ => none
  | a :: r, i => if a = i then some 0 else (firstI r i).map (· + 1)
theorem firstI_at : ∀ {ns : List Int} {i : Int} {j : Nat}, firstI ns i = some j → ns[j]? = some i ∧ ∀ (m : Nat) (z : Int), m < j → ns[m]? = some z → z ≠ i
  | [], i, j, h => by cases h
  | a :: r, i, j, h => by
    unfold firstI at h
    split at h
    · rename_i e
      cases h; subst e
      exact ⟨rfl, fun m z hm _ => by omega⟩
    · rename_i e
      obtain ⟨k, hk, rfl⟩ := Option.map_eq_some_iff.mp h
      obtain ⟨h1, h2⟩ := firstI_at hk
      refine ⟨by simpa using h1, fun m z hm hz => ?_⟩
      cases m with
      | zero => simp at hz; subst hz; exact e
      | succ m => exact h2 m z (by omega) (by simpa using hz)
theorem firstI_some : ∀ {ns : List Int} {i : Int}, i ∈ ns → ∃ j, firstI ns i = some j
  | [], i, h => by cases h
  | a :: r, i, h => by
    unfold firstI
    by_cases e : a = i
    · exact ⟨0, by rw [if_pos e]⟩
    · rw [if_neg e]
      rcases List.mem_cons.mp h with z | z
      · exact absurd z.symm e
      · obtain ⟨j, hj⟩ := firstI_some z
        exact ⟨j + 1, by rw [hj]; rfl⟩
section
variable {X : Cy} {o a : Expr} {A B : TD} {apos cpos : Pos}
@[simp] def rIndexF : RM := fun x ys e Q => one ys fun y => onI y fun i => onSome ((lstD e x).bind intsD) fun ns => onSome (firstI ns i) fun j => Q (.int (j : Nat)) e
theorem onI_ex' {d : D} {Q : Int → Prop} (h : onI d Q) : ∃ i, d = .int i ∧ Q i := by
  cases d <;> first | exact ⟨_, rfl, h⟩ | exact h.elim
theorem ad_index {K : PySem.W.Frag} : AdM K (rIndex K) rIndexF := by
  intro Z e H x d xs ds Qd Q h r rl q k
  obtain ⟨y, rfl, q⟩ := one_ex q
  obtain ⟨i, rfl, q⟩ := onI_ex' q
  obtain ⟨ns, z, q⟩ := onSome_ex q
  obtain ⟨j, hj, q⟩ := onSome_ex q
  obtain ⟨es, g1, g2⟩ := Option.bind_eq_some_iff.mp z
  obtain ⟨l, vs, rfl, g, rv⟩ := lst_at h r g1
  obtain ⟨v, rfl, ri⟩ := rl.one
  cases ri
  obtain ⟨h1, h2⟩ := firstI_at hj
  have ev := ints_at rv g2
  subst ev
  refine ⟨l, ns.map V.int, .int i, j, .int i, rfl, rfl, SqL.of g, rfl, ?_, ?_, ?_, fun m z' hm hz => ?_, k _ H _ e .refl (.int _) h q⟩
  · rw [List.all_map]; exact List.all_eq_true.mpr fun _ _ => rfl
  · rw [List.getElem?_map, h1]; rfl
  · simp [eqV]
  · rw [List.getElem?_map] at hz
    obtain ⟨w, hw, rfl⟩ := Option.map_eq_some_iff.mp hz
    have := h2 m w hm hw
    simp [eqV, this]
theorem d_index (hu : X.A.units + 64 < cLine) (ho : DE X o A) (ha : DE X a B) (he : starEach [a] X.env = (false, eval a X.env) :: starEach [] X.env := by rfl) (hbase : attributeBase o "index" X.env (eval o X.env) = eval o X.env := by rfl) (hline : (apos.endLine == cpos.line) = true := by rfl)
    (few : ((backTo cpos (starEach [a] X.env)).all (fun x => !x.1) && (backToKw cpos (keywordEach [] X.env)).all (fun x => x.1.isSome) && decide ([a].length + ([] : List Keyword).length + (if ([] : List Keyword).isEmpty then 0 else 1) < 30)) = true := by rfl)
    (plain : (backTo cpos (starEach [] X.env)).any (·.1) = false := by rfl) :
    DE X (.Call (.Attribute o "index" apos) [a] [] cpos) (dMth rIndexF A (dCons B dNil)) := d_mth PySem.F.slot_list_index PySem.F.type_list_index mt_index ad_index ho (da_cons ha da_nil he) hbase few hline he plain
end
end FL

set_option Elab.async false
set_option linter.all false
set_option maxRecDepth 100000
set_option maxHeartbeats 4000000
/-! Heights by which runs hold, in plain Lean. -/
namespace FL
open PySem PySem.Spec PyProof.Rows L2
def HoldsP (runs : List Run) (f : Int → Int) : Prop := ∀ r ∈ runs, f r.other - f r.one = r.rise
theorem HoldsP.lead {runs : List Run} {f : Int → Int} (H : HoldsP runs f) {a b h : Int} (l : Lead runs a b h) : f b - f a = h := by
  induction l with
  | refl => omega
  | fwd l hr ih => have := H _ hr; omega
  | bwd l hr ih => have := H _ hr; omega
theorem holdsR_iff {runs : List Run} {hs : List Int} : holdsR runs hs = true ↔ HoldsP runs (gI hs) := by
  unfold holdsR HoldsP
  rw [List.all_eq_true]
  exact ⟨fun h r hr => of_decide_eq_true (h r hr), fun h r hr => decide_eq_true (h r hr)⟩
/-- the least mark of its group -/
def Least (size : Int) (runs : List Run) (m : Int) : Prop := 0 ≤ m ∧ m < size ∧ ∀ x, 0 ≤ x → x < m → ¬ Conn runs x m
theorem Least.eq {size : Int} {runs : List Run} {m n : Int} (a : Least size runs m) (b : Least size runs n) (c : Conn runs m n) : m = n := by
  rcases Int.lt_trichotomy m n with h | h | h
  · exact absurd c (b.2.2 m a.1 h)
  · exact h
  · exact absurd c.symm (a.2.2 n b.1 h)
/-- heights led to from least marks -/
structure Rooted (size : Int) (runs : List Run) (H : List (Option Int)) : Prop where
  len : H.length = size.toNat
  root : ∀ x h, 0 ≤ x → gO H x = some h → ∃ m, Least size runs m ∧ gO H m = some 0 ∧ Lead runs m x h
  closed : Closed runs H
theorem Rooted.conn {size : Int} {runs : List Run} {H : List (Option Int)} (R : Rooted size runs H) {a b : Int} (c : Conn runs a b) : (gO H a).isSome = (gO H b).isSome := by
  have := c.ind (P := fun z => (gO H z).isSome = true) fun r hr => by rw [R.closed r hr]
  rw [Bool.eq_iff_iff]; exact this
theorem rooted_none (size : Int) (runs : List Run) : Rooted size runs (List.replicate size.toNat none) :=
  ⟨List.length_replicate .., fun x h _ q => (by rw [gO_rep] at q; cases q), fun r _ => (by rw [gO_rep, gO_rep])⟩
theorem rooted_step {size : Int} {runs : List Run} {H H' : List (Option Int)} {i : Int} (R : Rooted size runs H) (i0 : 0 ≤ i) (i1 : i < size) (n : gO H i = none) (before : ∀ x, 0 ≤ x → x < i → (gO H x).isSome = true) (L : LedR runs (H.set i.toNat (some 0)) H') (c : Closed runs H') : Rooted size runs H' := by
  have hl := R.len
  have set : ∀ y, 0 ≤ y → gO (H.set i.toNat (some 0)) y = if y = i then some 0 else gO H y := fun y y0 => gO_set i0 (by omega) y0
  have li : Least size runs i := ⟨i0, i1, fun x x0 x1 cn => by
    have := R.conn cn
    rw [before x x0 x1, n] at this
    cases this⟩
  refine ⟨by rw [L.len, List.length_set, hl], fun x h x0 q => ?_, c⟩
  obtain ⟨y, g, y0, _, hy, l⟩ := L.new x h x0 q
  rw [set y y0] at hy
  by_cases e : y = i
  · subst e
    rw [if_pos rfl] at hy; cases hy
    refine ⟨y, li, L.old y 0 y0 (by rw [set y y0, if_pos rfl]), ?_⟩
    rwa [Int.sub_zero] at l
  · rw [if_neg e] at hy
    obtain ⟨m, lm, hm, ll⟩ := R.root y g y0 hy
    refine ⟨m, lm, L.old m 0 lm.1 ?_, ?_⟩
    · rw [set m lm.1]
      by_cases em : m = i
      · rw [if_pos em]
      · rw [if_neg em]; exact hm
    · have := ll.trans l
      rwa [show g + (h - g) = h by omega] at this
/-- all are told -/
structure Flat (size : Int) (runs : List Run) (hs : List Int) : Prop where
  len : hs.length = size.toNat
  holds : HoldsP runs (gI hs)
  zero : ∀ m, Least size runs m → gI hs m = 0
def someL (H : List (Option Int)) : List Int := H.map fun o => o.getD 0
theorem someL_at {H : List (Option Int)} {x : Int} : gI (someL H) x = (gO H x).getD 0 := by
  unfold gI gO someL
  rw [List.getD_eq_getElem?_getD, List.getD_eq_getElem?_getD, List.getElem?_map]
  cases H[x.toNat]? <;> rfl
theorem someL_enc {size : Int} {H : List (Option Int)} (hl : H.length = size.toNat) (al : ∀ x, 0 ≤ x → x < size → (gO H x).isSome = true) : H.map encO = (someL H).map D.int := by
  unfold someL
  rw [List.map_map]
  refine List.map_congr_left fun o ho => ?_
  obtain ⟨i, hi, e⟩ := List.mem_iff_getElem.mp ho
  have := al (i : Int) (by omega) (by omega)
  unfold gO at this
  rw [List.getD_eq_getElem?_getD, show ((i : Int)).toNat = i by omega, List.getElem?_eq_getElem hi, e] at this
  cases o with
  | none => cases this
  | some v => rfl
theorem rooted_end {size : Int} {runs : List Run} {H : List (Option Int)} (R : Rooted size runs H) (hi : InR size runs) (al : ∀ x, 0 ≤ x → x < size → (gO H x).isSome = true) :
    (holdsR runs (someL H) = true → Flat size runs (someL H)) ∧ (holdsR runs (someL H) = false → ¬ ∃ f, HoldsP runs f) := by
  have val : ∀ x, 0 ≤ x → x < size → ∃ m, Least size runs m ∧ gO H m = some 0 ∧ Lead runs m x (gI (someL H) x) := fun x x0 x1 => by
    obtain ⟨v, hv⟩ := Option.isSome_iff_exists.mp (al x x0 x1)
    obtain ⟨m, a, b, c⟩ := R.root x v x0 hv
    exact ⟨m, a, b, by rw [someL_at, hv]; exact c⟩
  refine ⟨fun h => ⟨by unfold someL; rw [List.length_map, R.len], holdsR_iff.mp h, fun m lm => ?_⟩, fun h => ?_⟩
  · obtain ⟨n, ln, hn, l⟩ := val m lm.1 lm.2.1
    have e := Least.eq ln lm ⟨_, l⟩
    subst e
    rw [someL_at, hn]; rfl
  · rintro ⟨f, hf⟩
    have : holdsR runs (someL H) = true := holdsR_iff.mpr fun r hr => by
      obtain ⟨a0, a1, b0, b1⟩ := hi r hr
      obtain ⟨m, lm, _, l1⟩ := val r.one a0 a1
      obtain ⟨n, ln, _, l2⟩ := val r.other b0 b1
      have e := Least.eq lm ln (Conn.trans (Conn.trans ⟨_, l1⟩ (Conn.run hr)) (Conn.symm ⟨_, l2⟩))
      subst e
      have h1 := hf.lead l1
      have h2 := hf.lead l2
      have h3 := hf r hr
      omega
    rw [this] at h; cases h
/-- what one finds label by label -/
theorem flat_due {size : Int} {runs : List Run} {hs own L : List Int} (F : Flat size runs hs) (lab : Labels size runs L) (ho : HoldsP runs (gI own)) {x : Int} (x0 : 0 ≤ x) (x1 : x < size) :
    ∃ j : Nat, firstI L (gI L x) = some j ∧ (j : Int) < size ∧ gI own x - gI own j = gI hs x := by
  have ll := lab.1
  have hm : gI L x ∈ L := by
    unfold gI
    rw [List.getD_eq_getElem?_getD, List.getElem?_eq_getElem (by omega)]
    exact List.getElem_mem _
  obtain ⟨j, hj⟩ := firstI_some hm
  obtain ⟨h1, h2⟩ := firstI_at hj
  have jl : j < L.length := (List.getElem?_eq_some_iff.mp h1).1
  have gj : gI L j = gI L x := by
    unfold gI at h1 ⊢
    rw [List.getD_eq_getElem?_getD, show ((j : Int)).toNat = j by omega, h1]; rfl
  have cn : Conn runs j x := (lab.2 j x (by omega) (by omega) x0 x1).mp gj
  have least : Least size runs j := ⟨by omega, by omega, fun y y0 y1 c => by
    have e := (lab.2 y j y0 (by omega) (by omega) (by omega)).mpr c
    refine h2 y.toNat (gI L y) (by omega) ?_ (e.trans gj)
    unfold gI
    rw [List.getD_eq_getElem?_getD, List.getElem?_eq_getElem (by omega)]; rfl⟩
  refine ⟨j, hj, by omega, ?_⟩
  obtain ⟨h, l⟩ := cn
  have a := F.holds.lead l
  have b := ho.lead l
  have z := F.zero j least
  omega
end FL

set_option Elab.async false
set_option linter.all false
set_option maxRecDepth 100000
set_option maxHeartbeats 4000000
/-! flat, read. -/
namespace FL
open PySem PySem.Spec PyProof.Rows L2
abbrev nm_law_worldB : List Str := ["_law_box_here", "_law_most_marks", "_law_most_hands", "_law_most_runs", "_law_size", "_law_hands", "_law_wide", "_law_heights", "_law_names", "_law_false", "_law_bad", "_law_runs", "_law_k", "_law_one", "_law_other", "_law_hand", "_law_rise"]
theorem rd_law_worldB (ds : List D) (e : Eta) (Q : D → Eta → Prop) (h : sp_law_world ds e Q) : t_law_world (endsD Q) (startD nm_law_worldB ds) e := nm_world _ rfl ds e Q h
def spc_flat : SpD := fun ds e Q => ∃ (size : Int) (runs : List Run), ds = [.int size, .lst (runsD runs)] ∧ 0 ≤ size ∧ size ≤ 64 ∧ runs.length ≤ 4096 ∧ InR size runs ∧
  (∀ hs, Flat size runs hs → ∀ p, e p = none → Q (.ref p) (e.put p (.lst (hs.map .int)))) ∧ ((¬ ∃ f, HoldsP runs f) → Q .non e)
def sp_flat : SpD := fun ds e Q => ∃ (size : Int) (runs : List Run), ds = [.int size, .lst (runsD runs)] ∧ 0 ≤ size ∧ size ≤ 64 ∧ runs.length ≤ 4096 ∧ InR size runs ∧
  (∀ hs, Flat size runs hs → Q (.lst (hs.map .int)) e) ∧ ((¬ ∃ f, HoldsP runs f) → Q .non e)
theorem tree_flat : ∀ ds e Q, sp_flat ds e Q → spc_flat ds e (outD Q) := by
  rintro ds e Q ⟨size, runs, rfl, s0, s1, hl, hi, k1, k2⟩
  exact ⟨size, runs, rfl, s0, s1, hl, hi, fun hs F p hp => out_cell put_same hp (Sub.put hp) (k1 hs F), fun n => outD.self (k2 n)⟩
abbrev nm_flat : List Str := ["size", "runs", "heights", "mark"]

def t_flat : TSD :=
 (dSeq (dAsg (dOp (rMul true) (dLst (dCons (dC .non) dNil)) (dVar 0)) (.one 2))
 (dSeq (dFor (iRng1 (dVar 0)) (.one 3)
 (dIfS (dTest (dOp (rIsN false) (dOp rIdx (dVar 2) (dVar 3)) (dC .non))) (dSeq (dSto (dVar 2) (dVar 3) (dC (.int 0)))
 (dExp (dCall sp_fill (dCons (dVar 1) (dCons (dVar 2) dNil)))))
 dNx))
 (dSeq (dIfS (dNot (dTru (dCall sp_holds (dCons (dVar 1) (dCons (dVar 2) dNil))))) (dRet (dC .non))
 dNx)
 (dRet (dVar 2)))))

theorem rd_flat (ds : List D) (e : Eta) (Q : D → Eta → Prop) (h : spc_flat ds e Q) : t_flat (endsD Q) (startD nm_flat ds) e := by
  obtain ⟨size, runs, rfl, s0, s64, hl, hi, k1, k2⟩ := h
  simp [t_flat]
  refine ⟨leL, ⟨by omega, by omega, by first | exact leL (by omega) | exact leI (by omega)⟩, fun p hp => ⟨⟨by omega, by omega⟩, ?_⟩⟩
  have es : List.replicate size.toNat D.non = (List.replicate size.toNat (none : Option Int)).map encO := by rw [List.map_replicate]; rfl
  rw [es]
  refine for_inv (fun i dl e' => ∃ H, e' = e.put p (.lst (H.map encO)) ∧ Rooted size runs H ∧ (∀ x, 0 ≤ x → x < (i : Int) → x < size → (gO H x).isSome = true) ∧ ∃ s3, dl = [some (.int size), some (.lst (runsD runs)), some (.ref p), s3]) (fun _ _ _ _ => trivial)
    ⟨_, rfl, rooted_none _ _, fun x _ _ _ => by omega, _, rfl⟩ ?_ ?_
  · rintro i x dl e' N hx ⟨H, rfl, R, al, s3, rfl⟩ hN
    obtain ⟨rfl, hi2⟩ := rng_at hx
    have hlen := R.len
    have a1 := at_opts (H := H) (i := (i : Int)) (by omega) (by omega)
    simp [a1]
    cases g : gO H (i : Int) with
    | some v =>
      simp
      refine hN _ _ ⟨H, rfl, R, fun x x0 x1 x2 => ?_, _, rfl⟩
      by_cases e1 : x = i
      · rw [e1, g]; rfl
      · exact al x x0 (by omega) x2
    | none =>
      have ix := ixN_of (show 0 ≤ (i : Int) by omega) (show (i : Int) < (H.length : Int) by omega)
      simp [ix]
      have e2 : (H.map encO).set i (.int 0) = (H.set (i : Int).toNat (some 0)).map encO := by rw [List.map_set]; rfl
      rw [e2]
      refine use_fill put_same (fun r hr => (by obtain ⟨a, b, c, d⟩ := hi r hr; rw [List.length_set]; omega)) hl fun H' L c => ?_
      rw [put_put]
      refine hN _ _ ⟨H', rfl, rooted_step R (by omega) (by omega) g (fun x x0 x1 => al x x0 x1 (by omega)) L c, fun x x0 x1 x2 => ?_, _, rfl⟩
      have base : (gO (H.set (i : Int).toNat (some 0)) x).isSome = true := by
        rw [gO_set (by omega) (by omega) x0]
        by_cases e1 : x = i
        · rw [if_pos e1]; rfl
        · rw [if_neg e1]; exact al x x0 (by omega) x2
      obtain ⟨v, hv⟩ := Option.isSome_iff_exists.mp base
      rw [L.old x v x0 hv]; rfl
  · rintro dl e' ⟨H, rfl, R, al, s3, rfl⟩
    rw [rngD_length] at al
    have al2 : ∀ x, 0 ≤ x → x < size → (gO H x).isSome = true := fun x x0 x1 => al x x0 (by omega) x1
    obtain ⟨f1, f2⟩ := rooted_end R hi al2
    rw [someL_enc R.len al2]
    have sl : (someL H).length = size.toNat := by unfold someL; rw [List.length_map, R.len]
    simp
    refine use_holds (hs := someL H) rfl (by simp) (fun r hr => (by obtain ⟨a, b, c, d⟩ := hi r hr; omega)) ?_
    cases hb : holdsR runs (someL H) with
    | true =>
      simp
      exact outD.self (k1 _ (f1 hb) p hp)
    | false =>
      simp
      exact ⟨.non, e, Sub.put hp, .refl _, k2 (f2 hb)⟩
theorem len_flat (ds : List D) (e : Eta) (Q : D → Eta → Prop) (h : spc_flat ds e Q) : ds.length = 2 := by obtain ⟨_, _, rfl, _⟩ := h; rfl
theorem usec_flat {size : Int} {runs : List Run} {e : Eta} {Q : D → Eta → Prop} (h : 0 ≤ size ∧ size ≤ 64 ∧ runs.length ≤ 4096) (hi : InR size runs) (k1 : ∀ hs, Flat size runs hs → ∀ p, e p = none → Q (.ref p) (e.put p (.lst (hs.map .int)))) (k2 : (¬ ∃ f, HoldsP runs f) → Q .non e) : spc_flat [.int size, .lst (runsD runs)] e Q := ⟨size, runs, rfl, h.1, h.2.1, h.2.2, hi, k1, k2⟩
theorem use_flat {size : Int} {runs : List Run} {e : Eta} {Q : D → Eta → Prop} (h : 0 ≤ size ∧ size ≤ 64 ∧ runs.length ≤ 4096) (hi : InR size runs) (k1 : ∀ hs, Flat size runs hs → Q (.lst (hs.map .int)) e) (k2 : (¬ ∃ f, HoldsP runs f) → Q .non e) : sp_flat [.int size, .lst (runsD runs)] e Q := ⟨size, runs, rfl, h.1, h.2.1, h.2.2, hi, k1, k2⟩
end FL

set_option Elab.async false
set_option linter.all false
set_option maxRecDepth 100000
set_option maxHeartbeats 4000000
/-! The law's own settling, read. -/
namespace FL
open PySem PySem.Spec PyProof.Rows L2
abbrev nm_law_settledB : List Str := ["_law_size", "_law_runs", "_law_labels", "_law_heights", "_law_one", "_law_other", "_law_rise", "_law_hand", "_law_by", "_law_home", "_law_at"]
def sp_settledB : SpD := fun ds e Q => ∃ (size : Int) (a : D) (runs : List Run), ds = [.int size, a] ∧ lstD e a = some (runsD runs) ∧ 0 ≤ size ∧ size ≤ 64 ∧ runs.length ≤ 4096 ∧ InR size runs ∧
  (∀ L hs : List Int, Labels size runs L → hs.length = size.toNat → HoldsP runs (gI hs) → Q (.tup [.lst (L.map .int), .lst (hs.map .int)]) e) ∧ ((¬ ∃ f, HoldsP runs f) → Q .non e)
theorem settle_same {runs : List Run} {hs : List Int} {r : Run} (H : HoldsP runs (gI hs)) (e : gI hs r.one + r.rise - gI hs r.other = 0) : HoldsP (runs ++ [r]) (gI hs) := fun q hq => by
  rcases List.mem_append.mp hq with m | m
  · exact H q m
  · rw [List.mem_singleton.mp m]; omega
theorem settle_none {all runs : List Run} {hs : List Int} {r : Run} (sub : ∀ q ∈ runs, q ∈ all) (m : r ∈ all) (H : HoldsP runs (gI hs)) (c : Conn runs r.one r.other) (e : gI hs r.one + r.rise - gI hs r.other ≠ 0) : ¬ ∃ f, HoldsP all f := by
  rintro ⟨f, hf⟩
  obtain ⟨h, l⟩ := c
  have h1 := H.lead l
  have h2 := hf.lead (l.mono sub)
  have h3 := hf r m
  omega
theorem settle_join {size : Int} {runs : List Run} {L hs hs' : List Int} {r : Run} (lab : Labels size runs L) (ir : InR size runs) (h0 : 0 ≤ r.one ∧ r.one < size ∧ 0 ≤ r.other ∧ r.other < size) (ne : gI L r.one ≠ gI L r.other) (H : HoldsP runs (gI hs))
    (e : ∀ x, 0 ≤ x → x < size → gI hs' x = if gI L x = gI L r.other then gI hs x + (gI hs r.one + r.rise - gI hs r.other) else gI hs x) : HoldsP (runs ++ [r]) (gI hs') := fun q hq => by
  rcases List.mem_append.mp hq with m | m
  · obtain ⟨a0, a1, b0, b1⟩ := ir q m
    have c := (lab.2 q.one q.other a0 a1 b0 b1).mpr (Conn.run m)
    have z := H q m
    rw [e q.one a0 a1, e q.other b0 b1, c]
    split <;> omega
  · rw [List.mem_singleton.mp m, e r.one h0.1 h0.2.1, e r.other h0.2.2.1 h0.2.2.2, if_neg ne, if_pos rfl]
    omega
theorem rd_settledB (ds : List D) (e : Eta) (Q : D → Eta → Prop) (h : sp_settledB ds e Q) : t_law_settled (endsD Q) (startD nm_law_settledB ds) e := by
  obtain ⟨size, a, runs, rfl, ha, s0, s64, hl, hi, k1, k2⟩ := h
  simp [t_law_settled]
  refine ⟨⟨by omega, by omega, by omega⟩, fun p hp => ⟨leL, ⟨by omega, by omega, by first | exact leL (by omega) | exact leI (by omega)⟩, fun q hq => ?_⟩⟩
  have nqp : q ≠ p := fun z => by subst z; rw [put_same] at hq; cases hq
  have qe : e q = none := by rw [put_ne nqp] at hq; exact hq
  have hst : ∀ x y : O, lstD ((e.put p x).put q y) a = some (runsD runs) := fun x y => lstD_put (lstD_put ha hp) (by rw [put_ne nqp]; exact qe)
  have zs : List.replicate size.toNat (D.int 0) = (List.replicate size.toNat (0 : Int)).map D.int := by rw [List.map_replicate]
  have lz : (List.replicate size.toNat (0 : Int)).length = size.toNat := List.length_replicate ..
  rw [rng_ints, zs]
  generalize (List.replicate size.toNat (0 : Int)) = Z at lz
  simp [seqD_lst (hst _ _)]
  have sw : ∀ (x y l : O), ((e.put p x).put q l).put p y = (e.put p y).put q l := fun x y l => by rw [put_comm nqp, put_put]
  have at_p : ∀ (x l : O), ((e.put p x).put q l) p = some x := fun x l => by rw [put_ne (Ne.symm nqp), put_same]
  have subs : ∀ (x l : O), Sub e ((e.put p x).put q l) := fun x l => (Sub.put hp).trans (Sub.put (by rw [put_ne nqp]; exact qe))
  refine for_inv (fun i dl e' => ∃ L Z', e' = (e.put p (.lst (L.map .int))).put q (.lst (Z'.map .int)) ∧ Labels size (runs.take i) L ∧ List.length (α := Int) Z' = size.toNat ∧ HoldsP (runs.take i) (gI Z') ∧ ∃ s4 s5 s6 s7 s8 s9 s10, dl = [some (.int size), some a, some (.ref p), some (.ref q), s4, s5, s6, s7, s8, s9, s10]) (fun _ _ _ h => (by obtain ⟨L, Z', rfl, _⟩ := h; exact stay_lst (hst _ _)))
    ⟨_, Z, (by first | rfl | rw [List.map_map] | simp), labels_start size, lz, fun r hr => (by cases hr), _, _, _, _, _, _, _, rfl⟩ ?_ ?_
  · rintro i x dl e' N hx ⟨L, Z, rfl, hL, lz, hz, s4, s5, s6, s7, s8, s9, s10, rfl⟩ hN
    obtain ⟨r, hr, rfl⟩ := map_at hx
    have hm := List.mem_of_getElem? hr
    have ir := hi r hm
    obtain ⟨q0, q1, q2, q3⟩ := ir
    have tk : runs.take (i + 1) = runs.take i ++ [r] := by rw [List.take_add_one, hr]; rfl
    have tin : ∀ q ∈ runs.take i, q ∈ runs := fun q hq => List.mem_of_mem_take hq
    have lL := hL.1
    have z1 := at_ints (hs := Z) q0 (by omega)
    have z2 := at_ints (hs := Z) q2 (by omega)
    have l1 := at_ints (hs := L) q0 (by omega)
    have l2 := at_ints (hs := L) q2 (by omega)
    simp [at_p, z1, z2, l1, l2]
    generalize hby : gI Z r.one + r.rise - gI Z r.other = by_
    by_cases eq : gI L r.one = gI L r.other
    · have cn := (hL.2 _ _ q0 q1 q2 q3).mp eq
      by_cases b0 : by_ = 0
      · simp [eq, b0]
        exact hN _ _ ⟨L, Z, rfl, by rw [tk]; exact labels_same hL ⟨q0, q1, q2, q3⟩ eq, lz, by rw [tk]; exact settle_same hz (by omega), _, _, _, _, _, _, _, rfl⟩
      · simp [eq, b0]
        exact ⟨.non, e, subs _ _, .refl _, k2 (settle_none tin hm hz cn (by omega))⟩
    · simp [eq]
      refine ⟨leL, ⟨by omega, by omega⟩, ?_⟩
      refine for_inv (fun j dl e' => ∃ L' Z', e' = (e.put p (.lst (L'.map .int))).put q (.lst (Z'.map .int)) ∧ L'.length = L.length ∧ (∀ x, 0 ≤ x → x < size → gI L' x = if x < j ∧ gI L x = gI L r.other then gI L r.one else gI L x) ∧ List.length (α := Int) Z' = size.toNat ∧ (∀ x, 0 ≤ x → x < size → gI Z' x = if x < j ∧ gI L x = gI L r.other then gI Z x + by_ else gI Z x) ∧ ∃ s10, dl = [some (.int size), some a, some (.ref p), some (.ref q), some (.int r.one), some (.int r.other), some (.int r.rise), some (.int r.hand), some (.int by_), some (.lst [.int (gI L r.one), .int (gI L r.other)]), s10]) (fun _ _ _ _ => trivial)
        ⟨L, Z, rfl, rfl, fun x x0 x1 => by rw [if_neg (by rintro ⟨h, _⟩; omega)], lz, fun x x0 x1 => by rw [if_neg (by rintro ⟨h, _⟩; omega)], _, rfl⟩ ?_ ?_
      · rintro j y dl e' M hy ⟨L', Z', rfl, ll, hv, lz', gz', s10, rfl⟩ hM
        obtain ⟨rfl, hj⟩ := rng_at hy
        have j1 : (j : Int) < size := by omega
        have m1 := at_ints (hs := L') (i := (j : Int)) (by omega) (by omega)
        have m2 := at_ints (hs := Z') (i := (j : Int)) (by omega) (by omega)
        have vj := hv j (by omega) j1
        rw [if_neg (by rintro ⟨h, _⟩; omega)] at vj
        have wj := gz' j (by omega) j1
        rw [if_neg (by rintro ⟨h, _⟩; omega)] at wj
        simp [at_p, m1, vj]
        by_cases ej : gI L j = gI L r.other
        · simp [ej, sw, at_p, m1, m2, wj, ixN_of (show 0 ≤ (j : Int) by omega) (show (j : Int) < (L'.length : Int) by omega), ixN_of (show 0 ≤ (j : Int) by omega) (show (j : Int) < (Z'.length : Int) by omega)]
          have e1 : ((L'.map D.int).set j (.int (gI L r.one))) = (L'.set j (gI L r.one)).map D.int := by rw [List.map_set]
          have e2 : ((Z'.map D.int).set j (.int (gI Z j + by_))) = (Z'.set j (gI Z j + by_)).map D.int := by rw [List.map_set]
          rw [e1, e2]
          have gs : ∀ (l : List Int) (v x : Int), j < l.length → 0 ≤ x → gI (l.set j v) x = if x = j then v else gI l x := fun l v x hl x0 => by
            have := gI_set (H := l) (k := (j : Int)) (v := v) (by omega) (by omega) x0
            simpa using this
          refine hM _ _ ⟨L'.set j (gI L r.one), Z'.set j (gI Z j + by_), rfl, by rw [List.length_set]; exact ll, fun x x0 x1 => ?_, by rw [List.length_set]; exact lz', fun x x0 x1 => ?_, _, rfl⟩
          · rw [gs L' _ x (by omega) x0, hv x x0 x1]
            by_cases xe : x = j
            · subst xe; rw [if_pos rfl, if_pos ⟨by omega, ej⟩]
            · rw [if_neg xe]
              by_cases c : x < j ∧ gI L x = gI L r.other
              · rw [if_pos c, if_pos ⟨by have := c.1; omega, c.2⟩]
              · rw [if_neg c, if_neg (by rintro ⟨h1, h2⟩; exact c ⟨by omega, h2⟩)]
          · rw [gs Z' _ x (by omega) x0, gz' x x0 x1]
            by_cases xe : x = j
            · subst xe; rw [if_pos rfl, if_pos ⟨by omega, ej⟩]
            · rw [if_neg xe]
              by_cases c : x < j ∧ gI L x = gI L r.other
              · rw [if_pos c, if_pos ⟨by have := c.1; omega, c.2⟩]
              · rw [if_neg c, if_neg (by rintro ⟨h1, h2⟩; exact c ⟨by omega, h2⟩)]
        · simp [ej]
          refine hM _ _ ⟨L', Z', rfl, ll, fun x x0 x1 => ?_, lz', fun x x0 x1 => ?_, _, rfl⟩
          · rw [hv x x0 x1]
            by_cases xe : x = j
            · subst xe; rw [if_neg (by rintro ⟨h, _⟩; omega), if_neg (by rintro ⟨_, h⟩; exact ej h)]
            · by_cases c : x < j ∧ gI L x = gI L r.other
              · rw [if_pos c, if_pos ⟨by have := c.1; omega, c.2⟩]
              · rw [if_neg c, if_neg (by rintro ⟨h1, h2⟩; exact c ⟨by omega, h2⟩)]
          · rw [gz' x x0 x1]
            by_cases xe : x = j
            · subst xe; rw [if_neg (by rintro ⟨h, _⟩; omega), if_neg (by rintro ⟨_, h⟩; exact ej h)]
            · by_cases c : x < j ∧ gI L x = gI L r.other
              · rw [if_pos c, if_pos ⟨by have := c.1; omega, c.2⟩]
              · rw [if_neg c, if_neg (by rintro ⟨h1, h2⟩; exact c ⟨by omega, h2⟩)]
      · rintro dl e' ⟨L', Z', rfl, ll, hv, lz', gz', s10, rfl⟩
        rw [rngD_length] at hv gz'
        have fin : ∀ x, 0 ≤ x → x < size → ∀ u v : Int, (if x < ((size.toNat : Nat) : Int) ∧ gI L x = gI L r.other then u else v) = if gI L x = gI L r.other then u else v := fun x x0 x1 u v => by
          by_cases c : gI L x = gI L r.other
          · rw [if_pos ⟨by omega, c⟩, if_pos c]
          · rw [if_neg (fun h => c h.2), if_neg c]
        refine hN _ _ ⟨L', Z', rfl, ?_, lz', ?_, _, _, _, _, _, _, _, rfl⟩
        · rw [tk]
          exact labels_join hL ⟨q0, q1, q2, q3⟩ ll fun x x0 x1 => by rw [hv x x0 x1, fin x x0 x1]
        · rw [tk]
          exact settle_join hL (fun q hq => hi q (tin q hq)) ⟨q0, q1, q2, q3⟩ eq hz fun x x0 x1 => by rw [gz' x x0 x1, fin x x0 x1, hby]
  · rintro dl e' ⟨L, Z, rfl, hL, lz, hz, s4, s5, s6, s7, s8, s9, s10, rfl⟩
    rw [List.length_map, List.take_length] at hL hz
    simp
    refine ⟨leL, .tup [.lst (L.map .int), .lst (Z.map .int)], e, subs _ _, .tup (.cons (.cell (at_p _ _) hp (.refl _)) (.cons (.cell put_same qe (.refl _)) .nil)), k1 L Z hL lz hz⟩
theorem len_settledB (ds : List D) (e : Eta) (Q : D → Eta → Prop) (h : sp_settledB ds e Q) : ds.length = 2 := by obtain ⟨_, _, _, rfl, _⟩ := h; rfl
theorem use_settledB {size : Int} {a : D} {runs : List Run} {e : Eta} {Q : D → Eta → Prop} (ha : lstD e a = some (runsD runs)) (h : 0 ≤ size ∧ size ≤ 64 ∧ runs.length ≤ 4096) (hi : InR size runs) (k1 : ∀ L hs : List Int, Labels size runs L → hs.length = size.toNat → HoldsP runs (gI hs) → Q (.tup [.lst (L.map .int), .lst (hs.map .int)]) e) (k2 : (¬ ∃ f, HoldsP runs f) → Q .non e) : sp_settledB [.int size, a] e Q := ⟨size, a, runs, rfl, ha, h.1, h.2.1, h.2.2, hi, k1, k2⟩
end FL

set_option Elab.async false
set_option linter.all false
set_option maxRecDepth 100000
set_option maxHeartbeats 4000000
/-! More of the layer: len(set(t)) of a tuple of ints. -/
namespace FL
open PySem PySem.Spec PyProof.Rows L2
section
variable {X : Cy} {a b : Expr} {A B : TD} {pos : Pos} {p p2 q : Pos}
theorem setR_len {w : World} {h : Heap} {a : Addr} {ns : List Int} {n : Nat} (R : SetR w h a (fun j => decide (j ∈ ns)) n) : n = (usort ns).length := by
  obtain ⟨o, es, ep, t, ho, hex, hd, g, nd, hm, hb, hf, hn, hr, hl⟩ := R
  have pm : (es.toList.map keyOf).Perm (usort ns) := (List.perm_ext_iff_of_nodup nd ((usort_sorted ns).imp fun h => by omega)).mpr fun k => by
    rw [← hm k, mem_usort, decide_eq_true_eq]
  have := pm.length_eq
  rw [List.length_map, Array.length_toList] at this
  omega
def tLenSetT (K : PySem.W.Frag) (ta : TE) : TE := fun σ H Q => ta σ H fun x H1 => ∃ (l : Addr) (ns : List Int), x = V.ref l ∧ SqT K H1 l (ns.map V.int) ∧ ns.length < 64 ∧ Q (.int ((usort ns).length : Nat)) H1
theorem pe_lenSetT {ta : TE} (hc : X.calm = true) (hg : Gl X "len") (hm : X.mg "len" = none) (hg2 : Gl X "set") (hm2 : X.mg "set" = none) (ha : PE X a ta)
    (na : starEach [a] X.env = (false, eval a X.env) :: starEach [] X.env := by rfl) : PE X (.Call (.Name "len" p) [.Call (.Name "set" p2) [a] [] q] [] pos) (tLenSetT X.K ta) := by
  refine ⟨fun pins s σ H Q I h => ?_⟩
  refine Call_ (ld_blt I hg hm PySem.boot_len (PyProof.Rows.callWith_builtin1 (PyProof.Rows.args_cons ?_ rfl) rfl rfl))
  refine Call_ (ld_blt I hg2 hm2 PyProof.Rows.boot_set (PyProof.Rows.callWith_type1 (PyProof.Rows.args_cons (thn (ha.run pins s σ H _ I h) fun v s1 ⟨x, H1, I1, r1, q1⟩ => PyProof.Rows.args_nil ?_) na) na rfl))
  obtain ⟨l, ns, rfl, hq, h64, q1⟩ := q1
  cases r1
  obtain ⟨its, r, pt, hz⟩ := I1.tuple hq
  refine call_set_tupI ns (I1.ok.hd hc) (show s1.heap.IsTuple l its.toArray from pt) (ints_of_vals r) (by unfold scanBound; omega) fun h' tk c R hcn k => ?_
  have en := setR_len R
  obtain ⟨o, es, ep, t, ho, hex, hd, _, _, _, _, hf, hn, _, _⟩ := R
  refine PyProof.Rows.args_nil ?_
  have I2 : Inv X pins σ H1 { s1 with heap := h', toks := tk } := I1.kept k
  refine call_len_set ho hex hd hf (by omega) ⟨.int ((usort ns).length : Nat), H1, I2.tok _, ⟨_, by rw [hn, en]⟩, q1⟩
def tupD : D → Option (List D)
  | .tup ds => some ds
  | _ => none
@[simp] theorem tupD_t (ds : List D) : tupD (.tup ds) = some ds := rfl
@[simp] def dLenSetT (A : TD) (dl : Sd) (e : Eta) (Q : D → Eta → Prop) : Prop := A dl e fun x e1 => onSome ((tupD x).bind intsD) fun ns => ns.length < 64 ∧ Q (.int ((usort ns).length : Nat)) e1
theorem d_lenSetT (hc : X.calm = true) (hg : Gl X "len") (hm : X.mg "len" = none) (hg2 : Gl X "set") (hm2 : X.mg "set" = none) (ha : DE X a A) (na : starEach [a] X.env = (false, eval a X.env) :: starEach [] X.env := by rfl) : DE X (.Call (.Name "len" p) [.Call (.Name "set" p2) [a] [] q] [] pos) (dLenSetT A) :=
  pe_imp (pe_lenSetT hc hg hm hg2 hm2 ha na) (by
    rintro sg H Q ⟨Z, dl, e, Qd, s, t, k⟩
    refine low.use s t fun v H1 d e1 x1 r1 h1 q1 => ?_
    obtain ⟨ns, z, h64, q2⟩ := onSome_ex q1
    obtain ⟨ds, g1, g2⟩ := Option.bind_eq_some_iff.mp z
    cases r1 with
    | tup f r =>
      cases g1
      refine ⟨_, ns, rfl, by rw [← ints_at r g2]; exact SqT.of f.2.2, h64, k _ H1 _ e1 x1 (.int _) h1 q2⟩
    | _ => cases g1)
theorem usort_len_iff (ns : List Int) : (usort ns).length = ns.length ↔ ns.Nodup := by
  constructor
  · intro h
    induction ns with
    | nil => exact .nil
    | cons x r ih =>
      have ins : ∀ l : List Int, (insI x l).length = if x ∈ l ∧ (insI x l) = l then l.length else (insI x l).length := fun l => by split <;> simp [*]
      have le := usort_length r
      have mono : ∀ l : List Int, l.Pairwise (· < ·) → x ∈ l → insI x l = l := by
        intro l
        induction l with
        | nil => intro _ h; cases h
        | cons y l ih2 =>
          intro hp hm
          obtain ⟨a1, a2⟩ := List.pairwise_cons.mp hp
          unfold insI
          rcases List.mem_cons.mp hm with z | z
          · subst z; rw [if_neg (by omega), if_pos rfl]
          · have := a1 x z
            rw [if_neg (by omega), if_neg (by omega), ih2 a2 z]
      have up : ∀ l : List Int, (insI x l).length ≤ l.length + 1 := by
        intro l
        induction l with
        | nil => simp [insI]
        | cons y l ih3 => unfold insI; split <;> (try split) <;> simp <;> omega
      have h : (insI x (usort r)).length = r.length + 1 := by simpa [usort] using h
      have u := up (usort r)
      have nx : x ∉ r := fun hx => by
        rw [mono _ (usort_sorted r) ((mem_usort x r).mpr hx)] at h; omega
      exact List.nodup_cons.mpr ⟨nx, ih (by omega)⟩
  · intro n
    have pm : (usort ns).Perm ns := (List.perm_ext_iff_of_nodup ((usort_sorted ns).imp fun h => by omega) n).mpr fun k => mem_usort k ns
    exact pm.length_eq
end
end FL

set_option Elab.async false
set_option linter.all false
set_option maxRecDepth 100000
set_option maxHeartbeats 4000000
/-! More of the layer: two names assigned at once. -/
namespace FL
open PySem PySem.Spec PyProof.Rows L2
section
variable {X : Cy} {a b : Expr} {A B : TD} {pos px py pt k2 : Pos} {x y : Str}
/-- x, y = a, b of two local names -/
@[simp] def dPar (i j : Nat) (A B : TD) (E : EndsD) (dl : Sd) (e : Eta) : Prop := A dl e fun u e1 => B dl e1 fun v e2 => E.nx ((dl.set i (some u)).set j (some v)) e2
theorem ds_par {i j kt kk : Nat} (hc : X.calm = true) (hN : X.N.Nodup) (hi : X.N[i]? = some x) (hj : X.N[j]? = some y) (hij : i ≠ j) (hx : X.env.scope.names.lookup x = some .local) (hy : X.env.scope.names.lookup y = some .local) (ha : DE X a A) (hb : DE X b B)
    (hw : swappedStores [.Tuple [.Name x px, .Name y py] kt pt] (.Tuple [a, b] kk k2) X.env = pure (some [x, y]))
    (he : starEach [a, b] X.env = (false, eval a X.env) :: starEach [b] X.env := by rfl) (he2 : starEach [b] X.env = (false, eval b X.env) :: starEach [] X.env := by rfl)
    (hs : swapsWithSole [.Tuple [.Name x px, .Name y py] kt pt] (.Tuple [a, b] kk k2) pos.line X.env = pure false := by rfl) :
    DS X (.Assign [.Tuple [.Name x px, .Name y py] kt pt] (.Tuple [a, b] kk k2) pos) (dPar i j A B) := ps_imp (ps_par hc hN hi hj hij hx hy (pa_cons ha (pa_cons hb pa_nil he2) he) hw hs) (by
  rintro F sg H ⟨Z, dl, e, E, s, t, k⟩
  refine low.use s t fun v H1 d e1 x1 r1 h1 q => low.use (s.ext x1 h1) q fun u H2 c e2 x2 r2 h2 q2 => ?_
  exact ⟨v, u, rfl, k.nx _ e2 _ H2 (x1.trans x2) (((s.ext (x1.trans x2) h2).set i (r1.ext x2)).set j r2) q2⟩)
end
end FL

set_option Elab.async false
set_option linter.all false
set_option maxRecDepth 100000
set_option maxHeartbeats 4000000
/-! More of the layer: tuple[::-1], a dict of one pair, dict.get with a default, a loop over a dict. -/
namespace FL
open PySem PySem.Spec PyProof.Rows L2 HT
/-! ### tuple[::-1] -/
section
variable {prog : Program} {w : World} {A : Around} {E : Value → Shared → Prop} {s : Shared}
theorem applied_rev {sl : Addr} {vs : Value} {n : Nat} {Q : Int × Int × Nat → Shared → Prop} (hs : s.heap.IsSliceOf sl .none .none vs) (ps : IsPart vs (some (-1)))
    (h : Q ((n : Int) - 1, -1, n) s) : wpAny (model prog w) A (Builtin.Slice.sliceApplied (.ref sl) (pure (n : Int))) Q E s := by
  obtain ⟨os, hos, hcs, hds⟩ := id hs
  unfold Builtin.Slice.sliceApplied Builtin.Slice.sliceFields
  refine wpAny_bind (wpAny_bind (wpAny_field hos hds (x := .none) rfl (wpAny_bind (wpAny_field hos hds (x := .none) rfl (wpAny_bind (wpAny_field hos hds (x := vs) rfl (wpAny_pure ?_)))))))
  refine wpAny_bind (slicePart_ ps ?_)
  show wpAny _ _ (if ((-1 : Int) == 0) = true then _ else _) _ _ s
  rw [if_neg (by decide)]
  refine wpAny_bind (slicePart_none (wpAny_bind (slicePart_none (wpAny_bind (wpAny_pure ?_)))))
  show wpAny _ _ (match Builtin.Slice.sliceAdjust none none (-1) (n : Int) with | (lo, hi) => pure (lo, (-1 : Int), Builtin.Slice.slicePlaces lo hi (-1))) _ _ s
  have e1 : Builtin.Slice.sliceAdjust none none (-1) (n : Int) = ((n : Int) - 1, -1) := rfl
  rw [e1]
  have e2 : Builtin.Slice.slicePlaces ((n : Int) - 1) (-1) (-1) = n := by
    unfold Builtin.Slice.slicePlaces
    simp
    split <;> omega
  show wpAny _ _ (pure ((n : Int) - 1, (-1 : Int), Builtin.Slice.slicePlaces ((n : Int) - 1) (-1) (-1))) _ _ s
  rw [e2]
  exact wpAny_pure h
theorem pick_rev (xs : Array Value) : ((List.range xs.size).filterMap fun (m : Nat) => xs[(((xs.size : Nat) : Int) - 1 + (m : Int) * (-1)).toNat]?).toArray = xs.toList.reverse.toArray := by
  have e : (fun (m : Nat) => xs[(((xs.size : Nat) : Int) - 1 + (m : Int) * (-1)).toNat]?) = fun m => xs[xs.size - 1 - m]? := by
    funext m
    have : (((xs.size : Nat) : Int) - 1 + (m : Int) * (-1)).toNat = xs.size - 1 - m := by omega
    rw [this]
  rw [e]
  have := PySem.W.krv_range xs.size
  have h2 : (List.range xs.size).filterMap (fun m => xs[xs.size - 1 - m]?) = ((List.range xs.size).map fun k => xs.size - 1 - k).filterMap (xs[·]?) := by rw [List.filterMap_map]; rfl
  rw [h2, this, List.filterMap_reverse, PySem.W.krv_all]
theorem getItem_tuple_rev {t sl : Addr} {items : Array Value} {vs : Value} {Q : Value → Shared → Prop} (ht : IsTup s.heap t items) (hs : s.heap.IsSliceOf sl .none .none vs) (ps : IsPart vs (some (-1)))
    (h : Q (.ref s.heap.objs.size) { s with heap := s.heap.push { cls := .type "tuple", data := .seq items.toList.reverse.toArray } })
    (hsz : items.size ≤ sizeLine) : wpAny (model prog w) A (getItem (.ref t) (.ref sl)) Q E s := by
  have htake : sizeOk (.seq items.toList.reverse.toArray) := by
    show items.toList.reverse.toArray.size ≤ sizeLine
    rw [List.size_toArray, List.length_reverse, Array.length_toList]
    exact hsz
  obtain ⟨os, hos, hcs, hds⟩ := id hs
  have hTs : s.TypeIs (.ref sl) "slice" := ⟨os, hos, hcs⟩
  unfold getItem
  try with_reducible refine wpAny_holding ?_
  first | refine wpAny_bind (wpAny_pure ?_) | skip
  refine wpAny_bind (wpAny_sequenceKey ht.typeIs (by decide) ?_)
  refine wpAny_bind (wpAny_callSpecial?_slot (name := Str.ofString "__getitem__") ht.typeIs PyProof.Rows.slot_tuple_getitem
    (wpAny_call_entry PyProof.Rows.slot_tuple_getitem ht.typeIs entry_tuple_getitem ?_ (args_tuple_getitem _ _)))
  show wpAny _ _ (Builtin.Tuple.tupleItemsOf (.ref t) >>= _) _ _ s
  refine wpAny_bind (tupleItemsOf_ ht ?_)
  refine wpAny_bind (wpAny_typeOf hTs ?_)
  rw [if_pos (by decide)]
  refine wpAny_bind (applied_rev hs ps ?_)
  have hno : ¬ ((((items.size : Int) - 1) == 0 && (-1 : Int) == 1 && items.size == items.size) = true) := by
    intro q
    rw [Bool.and_eq_true, Bool.and_eq_true] at q
    exact absurd q.1.2 (by decide)
  show wpAny _ _ (if (((items.size : Int) - 1) == 0 && (-1 : Int) == 1 && items.size == items.size) = true then _ else _) _ _ s
  rw [if_neg hno, pick_rev]
  first
    | exact wpAny_bind (m := Builtin.Tuple.tupleExact _) (wpAny_newObj_type (wpAny_pure ⟨_, rfl, wpAny_pure h⟩) htake)
    | exact wpAny_bind (m := Builtin.Tuple.tupleExact _) (wpAny_newObj_type (wpAny_bind (wpAny_pure (wpAny_pure ⟨_, rfl, wpAny_pure h⟩))) htake)
    | exact wpAny_bind (wpAny_bind (m := Builtin.Tuple.tupleExact _) (wpAny_newObj_type (wpAny_pure (wpAny_pure ⟨_, rfl, wpAny_pure h⟩)) htake))
    | exact wpAny_bind (wpAny_bind (m := Builtin.Tuple.tupleExact _) (wpAny_newObj_type (wpAny_pure ⟨_, rfl, wpAny_pure h⟩) htake))
end
section
variable {X : Cy}
def tRevT (K : PySem.W.Frag) (te : TE) : TE := fun σ H Q => te σ H fun x H1 => ∃ a xs, x = .ref a ∧ SqT K H1 a xs ∧ ∀ p, H1 p = none → Q (.ref p) (upd H1 p (.tup xs.reverse))
theorem pe_revT {e : Expr} {te : TE} {k : Nat} {p1 p2 p3 pos : Pos} (he : PE X e te) : PE X (.Subscript e (.Slice none none (some (.UnaryOp .USub (.Constant (.int 1) k p1) p2)) p3) pos) (tRevT X.K te) := by
  refine ⟨fun pins s σ H Q I h => ?_⟩
  refine Subscript_ (thn (he.run pins s σ H _ I h) fun v s1 ⟨x, H1, I1, r1, q1⟩ => ?_)
  obtain ⟨a, xs, ex, hx, q⟩ := q1
  subst ex
  cases r1
  have hst : PO X (some (.UnaryOp .USub (.Constant (.int 1) k p1) p2)) (tPart (tUn (rU fun i => .int (-i)) (tC (.int 1)))) := po_some (pe_un un_neg pe_int)
  refine wpAny_Slice (thn (po_none.run pins s1 σ H1 (fun o H2 => o = none ∧ H2 = H1) I1 ⟨rfl, rfl⟩) fun vl s2 ⟨l, H2, I2, pl, el, e2⟩ => ?_)
  subst el e2
  refine thn (po_none.run pins s2 σ H2 (fun o H3 => o = none ∧ H3 = H2) I2 ⟨rfl, rfl⟩) fun vu s3 ⟨u, H3, I3, pu, eu, e3⟩ => ?_
  subst eu e3
  cases pl
  cases pu
  refine thn (hst.run pins s3 σ H3 (fun o H4 => o = some (-1) ∧ H4 = H3) I3 ⟨1, rfl, -1, rfl, rfl, rfl⟩) fun vs s4 ⟨o, H4, I4, ps, eo, e4⟩ => ?_
  subst eo e4
  have I5 : Inv X pins σ H4 { s4 with heap := s4.heap.push { cls := .type "slice", data := .fields #[.none, .none, vs] } } := I4.kept (t' := s4.toks) fun b ob q => Heap.get?_push_of_some _ q
  obtain ⟨its, r, ht, hz⟩ := I5.tuple hx
  have hlen := r.length
  show wpAny (model X.prog X.w) X.A (subscriptTail e (.Slice none none (some (.UnaryOp .USub (.Constant (.int 1) k p1) p2)) p3) (.ref a) (.ref s4.heap.objs.size)) (EP X pins σ Q) X.xe { s4 with heap := s4.heap.push { cls := .type "slice", data := .fields #[.none, .none, vs] } }
  refine tail_any (ops := [.ref a, .ref s4.heap.objs.size]) ht.typeIs (PyProof.Rows.slot_tuple_getitem.lookup) ?_ (by with_unfolding_all rfl)
  refine getItem_tuple_rev ht (Heap.IsSliceOf.new _ .none .none vs) ps ?_ (by rw [List.size_toArray]; omega)
  refine ⟨.ref _, _, I5.laid (t' := s4.toks) (o := .tup xs.reverse) (fun b ob q => Heap.get?_push_of_some _ q) (Nat.le_refl _) ?_, rfl, q _ (I5.hok.fresh (Nat.le_refl _))⟩
  exact ⟨by rw [List.length_reverse]; exact hz, _, r.reverse, IsTup.new _ _⟩
end
section
variable {X : Cy} {tg a b c o : Expr} {A B C : TD} {pos p1 p2 p3 : Pos} {k : Nat}
/-- x[::-1] of a tuple -/
@[simp] def dRevT (A : TD) (dl : Sd) (e : Eta) (Q : D → Eta → Prop) : Prop := A dl e fun x e1 => onSome (tupD x) fun ds => Q (.tup ds.reverse) e1
theorem tupD_ex {d : D} {ds : List D} (h : tupD d = some ds) : d = .tup ds := by
  cases d <;> first | (cases h; rfl) | cases h
theorem d_revT (ha : DE X a A) : DE X (.Subscript a (.Slice none none (some (.UnaryOp .USub (.Constant (.int 1) k p1) p2)) p3) pos) (dRevT A) := pe_imp (pe_revT ha) (by
  rintro sg H Q ⟨Z, dl, e, Qd, s, t, k⟩
  refine low.use s t fun v H1 d e1 x1 r1 h1 q1 => ?_
  obtain ⟨ds, z, q1⟩ := onSome_ex q1
  have := tupD_ex z
  subst this
  cases r1 with
  | tup f r =>
    refine ⟨_, _, rfl, SqT.of f.2.2, fun p hp => ?_⟩
    obtain ⟨y1, y2, y3⟩ := Rep.new_tup h1 hp r.reverse
    exact k _ _ _ e1 (x1.trans y1) y2 y3 q1)
/-! ### hiding a place, and showing it again -/
def Eta.del (e : Eta) (p : Addr) : Eta := fun q => if q = p then none else e q
theorem del_same {e : Eta} {p : Addr} : e.del p p = none := by unfold Eta.del; rw [if_pos rfl]
theorem del_ne {e : Eta} {p q : Addr} (h : q ≠ p) : e.del p q = e q := by unfold Eta.del; rw [if_neg h]
theorem del_put {e : Eta} {p : Addr} {o : O} (h : e p = some o) : (e.del p).put p o = e := by
  funext q; unfold Eta.put Eta.del
  by_cases z : q = p
  · rw [if_pos z, z, h]
  · rw [if_neg z, if_neg z]
theorem del_put_ne {e : Eta} {p q : Addr} {o : O} (h : q ≠ p) : (e.put q o).del p = (e.del p).put q o := by
  funext r; unfold Eta.put Eta.del
  by_cases z : r = p
  · subst z; rw [if_pos rfl, if_neg (Ne.symm h), if_pos rfl]
  · rw [if_neg z, if_neg z]
/-- a new place, hidden -/
theorem HRel.hide {K : PySem.W.Frag} {Z : Addr → Prop} {e : Eta} {H : Hp} (h : HRel K Z e H) {p : Addr} (u : HO) (hp : H p = none) :
    Move K Z e H (fun a => Z a ∨ a = p) e (upd H p u) ∧ HRel K (fun a => Z a ∨ a = p) e (upd H p u) ∧ e p = none ∧ ¬ Z p := by
  have f0 := h.free hp
  have nD : ∀ {a : Addr} {o : HO}, H a = some o → a ≠ p := fun h w => by subst w; rw [hp] at h; cases h
  obtain ⟨xj, hj⟩ := h.junk (u := u) hp
  have mv : Move K Z e H (fun a => Z a ∨ a = p) e (upd H p u) := ⟨fun a o z n q => ⟨by rw [upd_ne (nD q)]; exact q, n, fun w => w.elim z (nD q)⟩⟩
  refine ⟨mv, ⟨fun q o hq => (h.cell q o hq).move mv (upd_ne (fun w => by rw [w, f0.1] at hq; cases hq)), fun q z => ?_⟩, f0⟩
  rcases z with z | z
  · exact hj.hid q z
  · subst z; exact ⟨f0.1, _, upd_same⟩
/-- a cell, hidden -/
theorem HRel.mask {K : PySem.W.Frag} {Z : Addr → Prop} {e : Eta} {H : Hp} (h : HRel K Z e H) {p : Addr} {c : O} (u : HO) (hp : e p = some c) :
    Move K Z e H (fun a => Z a ∨ a = p) (e.del p) (upd H p u) ∧ HRel K (fun a => Z a ∨ a = p) (e.del p) (upd H p u) ∧ ¬ Z p := by
  have nz : ¬ Z p := fun z => by have := (h.hid p z).1; rw [hp] at this; cases this
  have nD : ∀ {a : Addr}, e a = none → a ≠ p := fun h w => by subst w; rw [hp] at h; cases h
  have mv : Move K Z e H (fun a => Z a ∨ a = p) (e.del p) (upd H p u) := ⟨fun a o z n q => ⟨by rw [upd_ne (nD n)]; exact q, by rw [del_ne (nD n)]; exact n, fun w => w.elim z (nD n)⟩⟩
  refine ⟨mv, ⟨fun q o hq => ?_, fun q z => ?_⟩, nz⟩
  · have nq : q ≠ p := fun w => by subst w; rw [del_same] at hq; cases hq
    rw [del_ne nq] at hq
    exact (h.cell q o hq).move mv (upd_ne nq)
  · rcases z with z | z
    · obtain ⟨n, o, ho⟩ := h.hid q z
      exact ⟨by rw [del_ne (nD n)]; exact n, o, by rw [upd_ne (nD n)]; exact ho⟩
    · subst z; exact ⟨del_same, _, upd_same⟩
/-- shown as a cell -/
theorem HRel.showc {K : PySem.W.Frag} {Z : Addr → Prop} {e : Eta} {H : Hp} {p : Addr} (h : HRel K (fun a => Z a ∨ a = p) e H) (nz : ¬ Z p) {u : HO} {o : O}
    (ho : Move K (fun a => Z a ∨ a = p) e H Z (e.put p o) (upd H p u) → ORep K Z (e.put p o) (upd H p u) p o) :
    Move K (fun a => Z a ∨ a = p) e H Z (e.put p o) (upd H p u) ∧ HRel K Z (e.put p o) (upd H p u) := by
  have mv : Move K (fun a => Z a ∨ a = p) e H Z (e.put p o) (upd H p u) := ⟨fun a o z n q => by
    have na : a ≠ p := fun w => z (.inr w)
    exact ⟨by rw [upd_ne na]; exact q, by rw [put_ne na]; exact n, fun w => z (.inl w)⟩⟩
  refine ⟨mv, fun q w hq => ?_, fun q z => ?_⟩
  · by_cases nq : q = p
    · subst nq; rw [put_same] at hq; cases hq; exact ho mv
    · rw [put_ne nq] at hq
      exact (h.cell q w hq).move mv (upd_ne nq)
  · obtain ⟨n, w, hw⟩ := h.hid q (.inl z)
    have na : q ≠ p := fun w => by subst w; exact nz z
    exact ⟨by rw [put_ne na]; exact n, w, by rw [upd_ne na]; exact hw⟩
/-! ### a dict of one pair -/
@[simp] def dDic1 (A B : TD) (dl : Sd) (e : Eta) (Q : D → Eta → Prop) : Prop := A dl e fun x e1 => B dl e1 fun y e2 => onSome (keyD x) fun k => ∀ p, e2 p = none → Q (.ref p) (e2.put p (.dic [(k, y)]))
theorem d_dic1 (ha : DE X a A) (hb : DE X b B) : DE X (.Dict [some a] [b] pos) (dDic1 A B) := pe_imp (pe_disp (pps_cons ha hb pps_nil) rfl rfl (by simp) (by simp)) (by
  rintro sg H Q ⟨Z, dl, e, Qd, s, t, k⟩
  intro p hp
  obtain ⟨mv, hr, ep, nz⟩ := s.rel.hide (.dK []) hp
  have x0 : Ext e H e (upd H p (.dK [])) := fun a o q n => ⟨by rw [upd_ne (ne_of_none q hp)]; exact q, n⟩
  have s' : SRel X.Y (fun a => Z a ∨ a = p) e (upd H p (.dK [])) dl sg := ⟨s.toSR0.mv mv hr, s.exc.hide x0 fun _ => .inl⟩
  refine low.use s' t fun v H1 d e1 x1 r1 h1 q1 => low.use (s'.ext x1 h1) q1 fun w H2 y e2 x2 r2 h2 q2 => ?_
  obtain ⟨key, hk, q2⟩ := onSome_ex q2
  have g := (x1.trans x2) p _ upd_same ep
  have kv := keyD_at r1 hk
  refine ⟨g.1, [(key, w)], by rw [kv]; rfl, by simp, ?_⟩
  obtain ⟨mv2, h3⟩ := h2.showc nz (o := .dic [(key, y)]) (u := .dK (mergeK [] [(key, w)])) fun m => ⟨[(key, w)], upd_same, .cons (r2.move m) .nil⟩
  refine k _ _ _ _ (fun a o q n => ?_) (.ref p) h3 (q2 p g.2)
  have na : a ≠ p := fun z => by subst z; rw [hp] at q; cases q
  obtain ⟨g1, g2⟩ := (x1.trans x2) a o (by rw [upd_ne na]; exact q) n
  exact ⟨by rw [upd_ne na]; exact g1, by rw [put_ne na]; exact g2⟩)
/-! ### dict.get(k, d) -/
def dicO : Option O → Option (List (Key × D))
  | some (.dic kvs) => some kvs
  | _ => none
@[simp] theorem dicO_d {kvs : List (Key × D)} : dicO (some (.dic kvs)) = some kvs := rfl
theorem dicO_ex {o : Option O} {kvs : List (Key × D)} (h : dicO o = some kvs) : o = some (.dic kvs) := by
  cases o with
  | none => cases h
  | some o => cases o <;> first | (cases h; rfl) | cases h
@[simp] def dGet2 (A B C : TD) (dl : Sd) (e : Eta) (Q : D → Eta → Prop) : Prop := A dl e fun x e1 => onR x fun p => (dicO (e1 p)).isSome = true ∧ B dl e1 fun y e2 => C dl e2 fun z e3 => onSome (dicO (e3 p)) fun kvs => onSome (keyD y) fun k => Q ((vD kvs k).getD z) e3
theorem d_get2 {apos cpos : Pos} (hu : X.A.units + 64 < cLine) (ho : DE X o A) (ha : DE X a B) (hb : DE X b C) (hbase : attributeBase o "get" X.env (eval o X.env) = eval o X.env := by rfl)
    (hfew : ((backTo cpos (starEach [a, b] X.env)).all (fun x => !x.1) && (backToKw cpos (keywordEach [] X.env)).all (fun x => x.1.isSome) && decide (([a, b] : List Expr).length + ([] : List Keyword).length + (if ([] : List Keyword).isEmpty then 0 else 1) < 30)) = true := by rfl)
    (hline : (apos.endLine == cpos.line) = true := by rfl) (htrees : backTo cpos (starEach [a, b] X.env) = [(false, eval a X.env), (false, eval b X.env)] := by rfl) :
    DE X (.Call (.Attribute o "get" apos) [a, b] [] cpos) (dGet2 A B C) := pe_imp (pe_dget2 (by omega) ho ha hb ⟨hbase, hfew, hline, htrees⟩) (by
  rintro sg H Q ⟨Z, dl, e, Qd, s, t, k⟩
  refine low.use s t fun v H1 d e1 x1 r1 h1 q1 => ?_
  obtain ⟨p, rfl, hs, q1⟩ := onR_ex q1
  obtain ⟨kv0, hk0⟩ := Option.isSome_iff_exists.mp hs
  obtain ⟨vs0, g0, _⟩ := h1.cell _ _ (dicO_ex hk0)
  cases r1
  refine ⟨p, rfl, .inl ⟨vs0, .inl g0⟩, low.use (s.ext x1 h1) q1 fun y H2 dy e2 x2 r2 h2 q2 => low.use (s.ext (x1.trans x2) h2) q2 fun z H3 dz e3 x3 r3 h3 q3 => ?_⟩
  obtain ⟨kvs, hk, q3⟩ := onSome_ex q3
  obtain ⟨key, hy, q3⟩ := onSome_ex q3
  obtain ⟨vs, g1, g2⟩ := h3.cell _ _ (dicO_ex hk)
  have ey := keyD_at r2 hy
  rcases g2.val key with ⟨n1, n2⟩ | ⟨v, d, n1, n2, n3⟩
  · refine ⟨none, .inl ⟨vs, key, .inl g1, ey, n2.symm⟩, ?_⟩
    rw [n1] at q3
    exact k _ H3 _ e3 (x1.trans (x2.trans x3)) r3 h3 q3
  · refine ⟨some v, .inl ⟨vs, key, .inl g1, ey, n2.symm⟩, ?_⟩
    rw [n1] at q3
    exact k _ H3 _ e3 (x1.trans (x2.trans x3)) n3 h3 q3)
/-! ### for k in d -/
@[simp] def dForK (i : Nat) (g : GT) (body : TSD) (E : EndsD) (dl : Sd) (e : Eta) : Prop := dVar i dl e fun d _ => onR d fun p => onSome (dicO (e p)) fun kvs =>
  forD (fun _ => True) g body (kvs.map fun kv : Key × D => keyT kv.1) { nx := fun dl' e' => E.nx dl' (e'.put p (.dic kvs)), rt := fun d' e' => E.rt d' (e'.put p (.dic kvs)), bk := fun dl' e' => E.bk dl' (e'.put p (.dic kvs)), ct := fun dl' e' => E.ct dl' (e'.put p (.dic kvs)) } dl (e.del p)
theorem dvr (i : Nat) {x : Str} {pos : Pos} (hN : X.N[i]? = some x := by rfl) (hv : Vis X.env.scope x := by first | exact Or.inl rfl | exact Or.inr (Or.inl rfl) | exact Or.inr (Or.inr rfl)) (hd : (x == ("__debug__" : Str)) = false := by decide)
    (hcd : (x == ("__classdict__" : Str)) = false := by decide) : PE X (.Name x pos) (tVar i) := pe_var hN hv hd hcd
theorem RepK.at {K : PySem.W.Frag} {Z : Addr → Prop} {e : Eta} {H : Hp} {i : Nat} {k : Key} {v : V} : ∀ {vs : List (Key × V)} {ds : List (Key × D)}, RepK K Z e H vs ds → vs[i]? = some (k, v) → ∃ d, ds[i]? = some (k, d) := by
  intro vs ds r h
  have h1 := r.keys
  have h2 : (vs.map (·.1))[i]? = some k := by rw [List.getElem?_map, h]; rfl
  rw [h1, List.getElem?_map] at h2
  obtain ⟨⟨k', d⟩, h3, h4⟩ := Option.map_eq_some_iff.mp h2
  cases h4
  exact ⟨d, h3⟩
theorem rep_key {K : PySem.W.Frag} {Z : Addr → Prop} {e : Eta} {H : Hp} (k : Key) : Rep K Z e H (kV k) (keyT k) := by
  cases k with
  | inl i => exact .int i
  | inr s => exact .str s
theorem ds_forK {i : Nat} {g : GT} {st1 : List Stmt} {U : TSD} (hp : PassesOwn (model X.prog X.w) X.A X.env X.xe) (hc : X.calm = true) (ha : PE X a (tVar i)) (hg : GTok X tg g) (hb : DSs X st1 U) (hs : ∀ x, foldedSetIterable a X.env x = pure x := by intro _; rfl) : DS X (.For tg a st1 [] pos) (dForK i g U) :=
  ps_imp (ps_lock (ps_for hp hc (pi_keys ha) hg.pg hb hs)) (by
    rintro F sg H ⟨Z, dl, e, E, s, t, k⟩
    unfold dForK dVar at t
    split at t
    · rename_i d hd
      obtain ⟨p, rfl, t⟩ := onR_ex t
      obtain ⟨kvs, hk, t⟩ := onSome_ex t
      have ep := dicO_ex hk
      obtain ⟨v, hv, rv⟩ := s.get i _ hd
      cases rv
      obtain ⟨vs, g1, g2⟩ := s.rel.cell _ _ ep
      refine ⟨p, .dK vs, g1, trivial, fun od => ⟨.ref p, hv, p, od, rfl, .inl ⟨vs, upd_same, ?_⟩⟩⟩
      obtain ⟨mv, hr, nz⟩ := s.rel.mask (.frz od (.dK vs)) ep
      have nD : ∀ {a : Addr}, e a = none → a ≠ p := fun h w => by subst w; rw [ep] at h; cases h
      have x0 : Ext e H (e.del p) (upd H p (.frz od (.dK vs))) := fun a o q n => ⟨by rw [upd_ne (nD n)]; exact q, by rw [del_ne (nD n)]; exact n⟩
      -- what stands behind a turn, put back
      have back : ∀ (e2 : Eta) (H2 : Hp), Ext (e.del p) (upd H p (.frz od (.dK vs))) e2 H2 → HRel X.K (fun a => Z a ∨ a = p) e2 H2 →
          H2 p = some (.frz od (.dK vs)) ∧ Ext e H (e2.put p (.dic kvs)) (upd H2 p (.dK vs)) ∧ Move X.K (fun a => Z a ∨ a = p) e2 H2 Z (e2.put p (.dic kvs)) (upd H2 p (.dK vs)) ∧ HRel X.K Z (e2.put p (.dic kvs)) (upd H2 p (.dK vs)) := fun e2 H2 x2 h2 => by
        obtain ⟨b1, b2⟩ := x2 p _ upd_same del_same
        obtain ⟨mv2, h3⟩ := h2.showc nz (o := .dic kvs) (u := .dK vs) fun m => ⟨vs, upd_same, ((g2.move mv).ext x2).move m⟩
        refine ⟨b1, fun a o q n => ?_, mv2, h3⟩
        have na := nD n
        obtain ⟨c1, c2⟩ := x2 a o (by rw [upd_ne na]; exact q) (by rw [del_ne na]; exact n)
        exact ⟨by rw [upd_ne na]; exact c1, by rw [put_ne na]; exact c2⟩
      have len := g2.length
      refine ⟨fun j m sg' H' => m = kvs.length - j ∧ j ≤ kvs.length ∧ ∃ dl' e', Ext (e.del p) (upd H p (.frz od (.dK vs))) e' H' ∧ SRel X.Y (fun a => Z a ∨ a = p) e' H' dl' sg' ∧ forD (fun _ => True) g U ((kvs.map fun kv : Key × D => keyT kv.1).drop j) { nx := fun dl' e' => E.nx dl' (e'.put p (.dic kvs)), rt := fun d' e' => E.rt d' (e'.put p (.dic kvs)), bk := fun dl' e' => E.bk dl' (e'.put p (.dic kvs)), ct := fun dl' e' => E.ct dl' (e'.put p (.dic kvs)) } dl' e',
        ⟨kvs.length, by simp, Nat.zero_le _, dl, e.del p, .refl, ⟨s.toSR0.mv mv hr, s.exc.hide x0 fun _ => .inl⟩, t⟩, ?_⟩
      rintro j m sg' H' ⟨rfl, hj, dl', e', x2, s2, q2⟩
      obtain ⟨b1, b2, b3, b4⟩ := back e' H' x2 s2.rel
      by_cases hlt : j < kvs.length
      · refine .inr ⟨⟨b1, by omega⟩, fun sg2 H2 => ∃ dl2 e2, Ext (e.del p) (upd H p (.frz od (.dK vs))) e2 H2 ∧ SRel X.Y (fun a => Z a ∨ a = p) e2 H2 dl2 sg2 ∧ forD (fun _ => True) g U ((kvs.map fun kv : Key × D => keyT kv.1).drop (j + 1)) { nx := fun dl' e' => E.nx dl' (e'.put p (.dic kvs)), rt := fun d' e' => E.rt d' (e'.put p (.dic kvs)), bk := fun dl' e' => E.bk dl' (e'.put p (.dic kvs)), ct := fun dl' e' => E.ct dl' (e'.put p (.dic kvs)) } dl2 e2,
          fun sg2 H2 ⟨dl2, e2, y1, y2, y3⟩ => ⟨kvs.length - (j + 1), by omega, rfl, hlt, dl2, e2, y1, y2, y3⟩, ?_⟩
        rintro x H2 ⟨rfl, key, w, hkv, rfl⟩
        obtain ⟨d, hd2⟩ := g2.at hkv
        have hl2 : j < (kvs.map fun kv : Key × D => keyT kv.1).length := by rw [List.length_map]; exact hlt
        rw [List.drop_eq_getElem_cons hl2] at q2
        have hd' : (kvs.map fun kv : Key × D => keyT kv.1)[j] = keyT key := by
          have : (kvs.map fun kv : Key × D => keyT kv.1)[j]? = some (keyT key) := by rw [List.getElem?_map, hd2]; rfl
          rw [List.getElem?_eq_getElem hl2] at this
          exact Option.some.inj this
        rw [hd'] at q2
        obtain ⟨dl2, z, q3⟩ := onSome_ex q2.2
        obtain ⟨sg2, s4, _, go⟩ := gt_go s2 (rep_key key) z
        refine go _ ⟨_, dl2, e', _, s4, q3, ⟨fun dl3 e3 sg3 H3 x4 s5 q4 => ⟨dl3, e3, x2.trans x4, s5, q4⟩, fun d3 e3 v3 H3 x4 r4 h4 q4 => ?_, fun dl3 e3 sg3 H3 x4 s5 q4 => ?_, fun dl3 e3 sg3 H3 x4 s5 q4 => ⟨dl3, e3, x2.trans x4, s5, q4⟩⟩⟩
        · obtain ⟨c1, c2, c3, c4⟩ := back e3 H3 (x2.trans x4) h4
          exact ⟨c1, k.rt d3 _ v3 _ c2 (r4.move c3) c4 q4⟩
        · obtain ⟨c1, c2, c3, c4⟩ := back e3 H3 (x2.trans x4) s5.rel
          exact ⟨c1, k.nx dl3 _ sg3 _ c2 ⟨s5.toSR0.mv c3 c4, s.exc.ext c2⟩ q4⟩
      · have ej : j = kvs.length := by omega
        subst ej
        rw [List.drop_of_length_le (by rw [List.length_map]; exact Nat.le_refl _)] at q2
        exact .inl ⟨⟨b1, by omega⟩, b1, k.nx dl' _ sg' _ b2 ⟨s2.toSR0.mv b3 b4, s.exc.ext b2⟩ q2.2⟩
    · exact t.elim)
end
end FL

set_option Elab.async false
set_option linter.all false
set_option maxRecDepth 100000
set_option maxHeartbeats 4000000
/-! sorted of pairs (number, list of numbers). -/
namespace FL
open PySem PySem.Spec PyProof.Rows L2
def lexL : List Int → List Int → Bool
  | [], [] => false
  | [], _ :: _ => true
  | _ :: _, [] => false
  | a :: l, b :: m => if a = b then lexL l m else decide (a < b)
def lexPL (p q : Int × List Int) : Bool := if p.1 = q.1 then lexL p.2 q.2 else decide (p.1 < q.1)
theorem lexL_irr : ∀ l, lexL l l = false
  | [] => rfl
  | a :: l => by rw [lexL, if_pos rfl]; exact lexL_irr l
theorem lexL_asym : ∀ {l m}, lexL l m = true → lexL m l = false
  | [], [], h => by cases h
  | [], b :: m, _ => rfl
  | a :: l, [], h => by cases h
  | a :: l, b :: m, h => by
    rw [lexL] at h ⊢
    by_cases e : a = b
    · rw [if_pos e] at h; rw [if_pos e.symm]; exact lexL_asym h
    · rw [if_neg e] at h; rw [if_neg (Ne.symm e)]; simp at h ⊢; omega
theorem lexL_total : ∀ {l m}, lexL l m = false → lexL m l = false → l = m
  | [], [], _, _ => rfl
  | [], b :: m, h, _ => by cases h
  | a :: l, [], _, h => by cases h
  | a :: l, b :: m, h, g => by
    rw [lexL] at h g
    by_cases e : a = b
    · rw [if_pos e] at h; rw [if_pos e.symm] at g; rw [e, lexL_total h g]
    · rw [if_neg e] at h; rw [if_neg (Ne.symm e)] at g; simp at h g; omega
theorem lexL_trans : ∀ {l m n}, lexL l m = true → lexL m n = true → lexL l n = true
  | [], [], _, h, _ => by cases h
  | a :: l, [], _, h, _ => by cases h
  | _, b :: m, [], _, h => by cases h
  | [], b :: m, c :: n, _, _ => rfl
  | a :: l, b :: m, c :: n, h, g => by
    rw [lexL] at h g ⊢
    by_cases e : a = b
    · subst e
      rw [if_pos rfl] at h
      by_cases e2 : a = c
      · rw [if_pos e2] at g ⊢; exact lexL_trans h g
      · rw [if_neg e2] at g ⊢; exact g
    · rw [if_neg e] at h
      by_cases e2 : b = c
      · subst e2; rw [if_neg e]; exact h
      · rw [if_neg e2] at g
        simp at h g
        rw [if_neg (by omega)]; simp; omega
theorem lexPL_irr (p : Int × List Int) : lexPL p p = false := by unfold lexPL; rw [if_pos rfl]; exact lexL_irr _
theorem lexPL_asym {p q : Int × List Int} (h : lexPL p q = true) : lexPL q p = false := by
  unfold lexPL at h ⊢
  by_cases e : p.1 = q.1
  · rw [if_pos e] at h; rw [if_pos e.symm]; exact lexL_asym h
  · rw [if_neg e] at h; rw [if_neg (Ne.symm e)]; simp at h ⊢; omega
theorem lexPL_total {p q : Int × List Int} (h : lexPL p q = false) (g : lexPL q p = false) : p = q := by
  unfold lexPL at h g
  by_cases e : p.1 = q.1
  · rw [if_pos e] at h; rw [if_pos e.symm] at g; exact Prod.ext e (lexL_total h g)
  · rw [if_neg e] at h; rw [if_neg (Ne.symm e)] at g; simp at h g; omega
theorem lexPL_trans {p q r : Int × List Int} (h : lexPL p q = true) (g : lexPL q r = true) : lexPL p r = true := by
  unfold lexPL at h g ⊢
  by_cases e : p.1 = q.1
  · rw [if_pos e] at h
    by_cases e2 : q.1 = r.1
    · rw [if_pos e2] at g; rw [if_pos (e.trans e2)]; exact lexL_trans h g
    · rw [if_neg e2] at g; rw [if_neg (by omega)]; simp at g ⊢; omega
  · rw [if_neg e] at h
    by_cases e2 : q.1 = r.1
    · rw [if_neg (by omega)]; simp at h ⊢; omega
    · rw [if_neg e2] at g
      simp at h g
      rw [if_neg (by omega)]; simp; omega
theorem lexPL_swo {α : Type} (k : α → Int × List Int) : SrtO.Swo fun x y => lexPL (k x) (k y) := by
  refine ⟨fun x y h => lexPL_asym h, fun x y z h1 h2 => ?_⟩
  cases q : lexPL (k z) (k x) with
  | false => rfl
  | true =>
    exfalso
    cases q1 : lexPL (k x) (k y) with
    | true => have := lexPL_trans q q1; rw [this] at h2; cases h2
    | false =>
      have e := lexPL_total q1 h1
      rw [e] at q
      rw [q] at h2; cases h2
open PySem.W in
theorem alike_ints : ∀ l m : List Int, alikeAll (l.map PyData.int) (m.map PyData.int) = true
  | [], m => by simp [alikeAll]
  | a :: l, [] => by simp [alikeAll]
  | a :: l, b :: m => by
    rw [List.map_cons, List.map_cons, alikeAll, alike_ints l m]; simp [alike]
open PySem.W in
theorem dataLt_ints : ∀ l m : List Int, PyProof.Rows.lexLt itemOrd (keyToksAll (l.map PyData.int)) (keyToksAll (m.map PyData.int)) = lexL l m
  | [], [] => by simp [keyToksAll, lexL]; exact lex_irrefl _
  | [], b :: m => by
    rw [List.map_nil, List.map_cons, toks_all_cons, keyToksAll]
    exact (lex_diff (O := itemOrd) (by simp)).trans (by rfl)
  | a :: l, [] => by
    rw [List.map_nil, List.map_cons, toks_all_cons, keyToksAll]
    exact (lex_diff (O := itemOrd) (by simp)).trans (by rfl)
  | a :: l, b :: m => by
    rw [List.map_cons, List.map_cons, lexL]
    by_cases e : a = b
    · subst e
      rw [if_pos rfl, dataLt_all_yes (by simp [alike]) (by simp [PyData.eqv]), dataLt_ints l m]
    · rw [if_neg e, dataLt_all_no (by simp [alike]) (by simp [PyData.eqv, e]), dataLt_int]
theorem eqv_intsP : ∀ a b : List Int, PyData.eqvAll (a.map PyData.int) (b.map PyData.int) = decide (a = b)
  | [], [] => rfl
  | [], _ :: _ => rfl
  | _ :: _, [] => rfl
  | x :: a, y :: b => by
    rw [List.map_cons, List.map_cons, PyData.eqvAll, eqv_intsP a b]
    show ((x == y) && decide (a = b)) = _
    rw [Bool.eq_iff_iff]; simp
/-- a pair of a number and a list of numbers -/
def IsPL (h : Heap) (v : Value) (x : Int) (l : List Int) : Prop := ∃ a o b t n as, v = .ref a ∧ h.get? a = some o ∧ o.cls = .type "tuple" ∧ o.data = .seq #[.int x t, .ref b] n ∧ Reads h (.ref b) (.list (l.map .int)) as
theorem IsPL.keeps {h h' : Heap} {v : Value} {x : Int} {l : List Int} (p : IsPL h v x l) (kk : ∀ b o, h.get? b = some o → h'.get? b = some o) : IsPL h' v x l := by
  obtain ⟨a, o, b, t, n, as, e, ho, hc, hd, r⟩ := p
  exact ⟨a, o, b, t, n, as, e, kk _ _ ho, hc, hd, Reads.keeps kk r⟩
theorem firstsPL {h : Heap} {k : Value → Int × List Int} : ∀ {vs : List Value}, (∀ v ∈ vs, IsPL h v (k v).1 (k v).2) → ∃ fs : List Value, PySem.W.KatTups h vs fs ∧ fs.length = vs.length ∧ ∀ f ∈ fs, ∃ x t, f = Value.int x t
  | [], _ => ⟨[], PySem.W.KatTups.nil, rfl, fun _ hm => by simp at hm⟩
  | v :: vs, hp => by
    obtain ⟨fs, h1, h2, h3⟩ := firstsPL (vs := vs) fun v' hm => hp v' (List.mem_cons_of_mem _ hm)
    obtain ⟨a, o, b, t, n, as, e, ho, hc, hd, r⟩ := hp v (List.mem_cons_self ..)
    subst e
    refine ⟨.int (k (.ref a)).1 t :: fs, PySem.W.KatTups.cons ho hc hd rfl h1, by rw [List.length_cons, List.length_cons, h2], fun f hm => ?_⟩
    rcases List.mem_cons.mp hm with rfl | hm
    · exact ⟨_, t, rfl⟩
    · exact h3 f hm
section
variable {prog : Program} {w : World} {A : Around} {E : Value → Shared → Prop} {s : Shared}
open SrtO Srt in
theorem cmpPL {vs : List Value} {k : Value → Int × List Int} (hu : A.units + 2 < cLine) (hp : ∀ v ∈ vs, IsPL s.heap v (k v).1 (k v).2) : Cmp prog w A s (tuples' true) (fun p => p.1 ∈ vs) (lt2 fun v u => lexPL (k v) (k u)) := by
  intro p q hm hm'
  have h1 := hp _ hm
  have h2 := hp _ hm'
  show wpAny (model prog w) A (keyLt' (tuples' true) p.1 q.1) (fun r s' => s' = s ∧ r = lexPL (k p.1) (k q.1)) (fun _ _ => False) s
  unfold lexPL
  generalize (k p.1).1 = x at h1 ⊢
  generalize (k p.1).2 = y at h1 ⊢
  generalize (k q.1).1 = x' at h2 ⊢
  generalize (k q.1).2 = y' at h2 ⊢
  obtain ⟨a, o, b, t, n, as, e, ho, hc, hd, r⟩ := h1
  obtain ⟨a', o', b', t', n', as', e', ho', hc', hd', r'⟩ := h2
  rw [e, e']
  have al : PySem.W.alike (.list (y.map .int)) (.list (y'.map .int)) = true := by rw [PySem.W.alike]; exact alike_ints y y'
  have dp : ∀ l : List Int, (PyData.list (l.map PyData.int)).depth ≤ 1 := fun l => by
    have : ∀ l : List Int, PyData.depthAll (l.map PyData.int) = 0 := fun l => by
      induction l with
      | nil => rfl
      | cons a l ih => rw [List.map_cons, PyData.depthAll, ih]; simp [PyData.depth]
    rw [PyData.depth, this]; exact Nat.le_refl _
  have room : A.units + min (PyData.list (y.map .int)).depth (PyData.list (y'.map .int)).depth < cLine := by
    have := dp y
    omega
  refine PySem.W.kat_lt ho hd ho' hd' ?_
  show PySem.W.KatLex prog w A true (decide (2 < 2)) _ [(.int x t, .int x' t'), (.ref b, .ref b')] 0 s
  refine PySem.W.kat_cons (SeqAt.EqAt.int_int x t x' t' prog w _ _ ?_)
  refine PySem.W.kat_go (fun e1 => ?_) (fun e1 => ?_)
  · have ex : x = x' := by simpa using e1
    refine PySem.W.kat_yes (PySem.W.kat_cons (PySem.W.eqAt_alike _ _ A s _ _ _ _ r r' al room prog w _ _ ?_))
    have ev : PyData.eqv (.list (y.map .int)) (.list (y'.map .int)) = decide (y = y') := by rw [PyData.eqv, eqv_intsP]
    rw [ev]
    refine PySem.W.kat_go (fun e2 => ?_) (fun e2 => ?_)
    · have ey : y = y' := by simpa using e2
      have e3 : (if x = x' then lexL y y' else decide (x < x')) = false := by
        rw [if_pos ex, ey]
        exact lexL_irr _
      exact PySem.W.kat_yes (PySem.W.kat_nil ⟨rfl, e3.symm⟩)
    · have e3 : (if x = x' then lexL y y' else decide (x < x')) = lexL y y' := if_pos ex
      refine PySem.W.kat_no (PySem.W.kat_one _ _ (PySem.W.lt_data r r' al (by simp) room ?_))
      have dl : PySem.W.dataLt (.list (y.map .int)) (.list (y'.map .int)) = lexL y y' := (PySem.W.dataLt_list _ _).trans (dataLt_ints y y')
      rw [dl]
      exact (show s = s ∧ lexL y y' = (if x = x' then lexL y y' else decide (x < x')) from ⟨rfl, e3.symm⟩)
  · have ex : ¬ x = x' := by simpa using e1
    have e3 : (if x = x' then lexL y y' else decide (x < x')) = decide (x < x') := if_neg ex
    exact PySem.W.kat_no (oneLt_int ⟨rfl, e3.symm⟩)
open SrtO in
theorem sortedPL {l : Addr} {vs : List Value} {k : Value → Int × List Int} {Q : Value → Shared → Prop} (hu : A.units + 8 < cLine) (hl : s.heap.IsList l vs.toArray) (hz : vs.length ≤ sizeLine) (hp : ∀ v ∈ vs, IsPL s.heap v (k v).1 (k v).2)
    (h : ∀ (h' : Heap) (d : Addr) (out : List Value), Srtd (fun v u => lexPL (k v) (k u)) out → Stb (fun v u => lexPL (k v) (k u)) out vs → (∀ b o, s.heap.get? b = some o → h'.get? b = some o) → s.heap.objs.size ≤ d → (∃ n, h'.get? d = some (seqObj "list" out.toArray n)) → Q (.ref d) { s with heap := h' }) :
    wpAny (model prog w) A (call (.builtin "sorted") [.ref l]) Q E s := by
  refine sorted_ord (lexPL_swo k) hl hz (fun h2 h₁ a ha kk h' keep => ?_) fun out hs hb => ?_
  · have all : ∀ b o, s.heap.get? b = some o → h'.get? b = some o := fun b o e => keep b o (kk b o e).1 (kk b o e).2
    have hp' : ∀ v ∈ vs, IsPL h' v (k v).1 (k v).2 := fun v hm => (hp v hm).keeps all
    obtain ⟨fs, h1, h2, h3⟩ := firstsPL hp'
    refine ⟨tuples' true, fun Q E hq => ?_, cmpPL (by simp only [units_in1]; omega) hp'⟩
    refine PySem.W.kat_kind (T := .type "int") h1 (by omega) (fun f hm => ?_) (by rfl) ?_
    · obtain ⟨x, t, rfl⟩ := h3 f hm
      exact PySem.W.Looks.now
    · have e : (Value.type "int" != Value.type "tuple") = true := by first | decide +kernel | rfl | decide
      rw [e]
      exact hq
  · exact h _ _ out hs hb (fun b o e => sortedAll_old e) (Nat.le_succ _) (sortedAll_at s.heap vs out.toArray)
end
/-! ### as a rule of the layer -/
def decI : V → Int
  | .int i => i
  | _ => 0
def decL (H : Hp) : V → List Int
  | .ref b => match H b with
    | some (.lst vs) => vs.map decI
    | _ => []
  | _ => []
def decPL (H : Hp) : V → Int × List Int
  | .ref t => match H t with
    | some (.tup [x, y]) => (decI x, decL H y)
    | _ => (0, [])
  | _ => (0, [])
def encPL (p : Int × List Int) : D := .tup [.int p.1, .lst (p.2.map .int)]
def unL : List D → Option (List Int) := intsD
def unPL : List D → Option (List (Int × List Int))
  | [] => some []
  | .tup [.int n, .lst l] :: r => (intsD l).bind fun l => (unPL r).map fun r => (n, l) :: r
  | _ => none
theorem intsD_ex : ∀ {ds : List D} {l : List Int}, intsD ds = some l → ds = l.map D.int
  | [], l, h => by cases h; rfl
  | d :: ds, l, h => by
    cases d with
    | int b =>
      obtain ⟨c, hc, rfl⟩ := Option.map_eq_some_iff.mp (show (intsD _).map (b :: ·) = some _ from h)
      rw [intsD_ex hc]; rfl
    | _ => cases h
theorem unPL_enc : ∀ ps : List (Int × List Int), unPL (ps.map encPL) = some ps
  | [] => rfl
  | p :: ps => by
    rw [List.map_cons]
    show (intsD (p.2.map .int)).bind _ = _
    have : intsD (p.2.map .int) = some p.2 := by simp
    rw [this]
    show (unPL (ps.map encPL)).map _ = _
    rw [unPL_enc ps]; rfl
theorem unPL_ex : ∀ {ds : List D} {ps : List (Int × List Int)}, unPL ds = some ps → ds = ps.map encPL
  | [], ps, h => by cases h; rfl
  | d :: ds, ps, h => by
    unfold unPL at h
    split at h
    · rename_i e; cases e
    · rename_i n l r e
      cases e
      obtain ⟨l', h1, h2⟩ := Option.bind_eq_some_iff.mp h
      obtain ⟨r', h3, rfl⟩ := Option.map_eq_some_iff.mp h2
      have e1 : l = l'.map D.int := by
        have := intsD_ex h1
        exact this
      rw [e1, unPL_ex h3]; rfl
    · cases h
section
variable {X : Cy}
def rSortPLv (K : PySem.W.Frag) : List V → Hp → VK → Prop := fun vs H Q => ∃ (a : Addr) (xs : List V) (k : V → Int × List Int), vs = [V.ref a] ∧ SqL K H a xs ∧ (∀ x ∈ xs, ∃ t b, x = V.ref t ∧ H t = some (.tup [.int (k x).1, .ref b]) ∧ H b = some (.lst ((k x).2.map .int))) ∧
  ∀ ys p, SrtO.Srtd (fun x y => lexPL (k x) (k y)) ys → SrtO.Stb (fun x y => lexPL (k x) (k y)) ys xs → H p = none → Q (.ref p) (upd H p (.lst ys))
theorem dpInts (K : PySem.W.Frag) (H : Hp) : ∀ l : List Int, DpAll K H (l.map V.int) (l.map PyData.int)
  | [] => .nil
  | a :: l => .cons (.int a) (dpInts K H l)
theorem cr_sortedPL (hu : X.A.units + 64 < cLine) : CallR X (.builtin "sorted") (rSortPLv X.K) := by
  intro pins s σ H vs us Q I r h
  obtain ⟨a, xs, k, rfl, hs, hx, q⟩ := h
  obtain ⟨its, rv, hl, hz⟩ := I.list hs
  obtain ⟨u, rfl, ru⟩ := vals1 r
  obtain rfl : u = Value.ref a := ru
  obtain ⟨e1, e2⟩ := refs_back rv fun x m => by
    obtain ⟨t, b, e, _⟩ := hx x m
    exact ⟨t, e⟩
  refine sortedPL (k := fun u => k (backV u)) (by omega) hl.isList (by rw [← rv.length]; exact hz) (fun v hv => ?_) fun h' d out h1 h2 kp hd hn => ?_
  · obtain ⟨t, rfl⟩ := e2 v hv
    have hm : V.ref t ∈ xs := by rw [e1]; exact List.mem_map.mpr ⟨_, hv, rfl⟩
    obtain ⟨t', b, e, ht, hb⟩ := hx _ hm
    cases e
    obtain ⟨_, its2, r2, o, ho, hc, n, hd⟩ := I.hok _ _ ht
    obtain ⟨u1, u2, rfl, ri, rj⟩ := vals2 r2
    obtain ⟨t1, rfl⟩ := ri
    obtain rfl : u2 = Value.ref b := rj
    obtain ⟨as, rd⟩ := Dp.reads I (.list ((k (.ref t)).2.map PyData.int)) (.ref b) (.ref b) (.lst (SqL.of hb) (dpInts _ _ _)) rfl
    exact ⟨t, o, b, t1, n, as, rfl, ho, hc, hd, rd⟩
  · have h3 : ∀ u ∈ out, ∃ a, u = Value.ref a := fun u hu => e2 u (h2.perm.mem_iff.mp hu)
    obtain ⟨n, hn⟩ := hn
    have hb : SrtO.Stb (fun x y => lexPL (k x) (k y)) (out.map backV) xs := by
      rw [e1]
      exact SrtO.Stb.map (lexPL_swo k) backV h2
    refine ⟨.ref d, upd H d (.lst (out.map backV)), I.laid (t' := s.toks) kp hd ⟨?_, out, n, vals_back h3, hn⟩, rfl, q _ d (SrtO.srtd_map h1) hb (I.hok.fresh hd)⟩
    rw [hb.len]
    exact hz
end
def sortPL (ps : List (Int × List Int)) : List (Int × List Int) := ps.mergeSort fun p q => !lexPL q p
theorem sortPL_perm (ps : List (Int × List Int)) : (sortPL ps).Perm ps := List.mergeSort_perm _ _
theorem sortPL_sorted (ps : List (Int × List Int)) : (sortPL ps).Pairwise fun p q => lexPL q p = false := by
  have := List.pairwise_mergeSort (le := fun p q : Int × List Int => !lexPL q p) (fun a b c h1 h2 => ?_) (fun a b => ?_) ps
  · exact this.imp fun h => by simpa using h
  · simp at h1 h2 ⊢
    exact (lexPL_swo id).tr a b c h1 h2
  · cases q : lexPL b a with
    | false => simp
    | true => simp [lexPL_asym q]
theorem sorted_one : ∀ {l m : List (Int × List Int)}, (l.Pairwise fun p q => lexPL q p = false) → (m.Pairwise fun p q => lexPL q p = false) → l.Perm m → l = m
  | [], m, _, _, h => (List.Perm.eq_nil h.symm).symm
  | x :: l, [], _, _, h => absurd h.length_eq (by simp)
  | x :: l, y :: m, hl, hm, h => by
    obtain ⟨l1, l2⟩ := List.pairwise_cons.mp hl
    obtain ⟨m1, m2⟩ := List.pairwise_cons.mp hm
    have e : x = y := by
      rcases List.mem_cons.mp (h.mem_iff.mp (List.mem_cons_self (a := x) (l := l))) with z | z
      · exact z
      · rcases List.mem_cons.mp (h.mem_iff.mpr (List.mem_cons_self (a := y) (l := m))) with w | w
        · exact w.symm
        · exact lexPL_total (m1 x z) (l1 y w)
    subst e
    rw [sorted_one l2 m2 h.cons_inv]
theorem sortPL_eq {ps qs : List (Int × List Int)} (h : qs.Perm ps) (s : qs.Pairwise fun p q => lexPL q p = false) : qs = sortPL ps := sorted_one s (sortPL_sorted ps) (h.trans (sortPL_perm ps).symm)
section
variable {X : Cy} {a : Expr} {T : TDs} {pos p : Pos}
@[simp] def rSortPL (c : Bool) : RC := fun xs e Q => one xs fun x => onSome ((lstD e x).bind unPL) fun ps => newQ c ((sortPL ps).map encPL) e Q
theorem dec_at {K : PySem.W.Frag} {Z : Addr → Prop} {e : Eta} {H : Hp} {v : V} {p : Int × List Int} (r : Rep K Z e H v (encPL p)) : (∃ t b, v = V.ref t ∧ H t = some (.tup [.int p.1, .ref b]) ∧ H b = some (.lst (p.2.map .int))) ∧ decPL H v = p := by
  unfold encPL at r
  cases r with
  | tup f r =>
    obtain ⟨x, y, rfl, r1, r2⟩ := r.two
    cases r1
    cases r2 with
    | lst g r3 =>
      have ev := ints_at r3 (intsD_map p.2)
      subst ev
      refine ⟨⟨_, _, rfl, f.2.2, g.2.2⟩, ?_⟩
      have h1 := f.2.2
      have h2 := g.2.2
      simp only [decPL, h1, decL, h2, decI, List.map_map]
      have : (p.2.map (decI ∘ V.int)) = p.2 := by
        rw [show (decI ∘ V.int) = id from rfl, List.map_id]
      rw [this]
theorem reps_of {K : PySem.W.Frag} {Z : Addr → Prop} {e : Eta} {H : Hp} (g : V → D) : ∀ {ys : List V}, (∀ y ∈ ys, Rep K Z e H y (g y)) → RepL K Z e H ys (ys.map g)
  | [], _ => .nil
  | y :: ys, h => .cons (h y (by simp)) (reps_of g fun z hz => h z (by simp [hz]))
theorem repl_all {K : PySem.W.Frag} {Z : Addr → Prop} {e : Eta} {H : Hp} : ∀ {vs : List V} {ps : List (Int × List Int)}, RepL K Z e H vs (ps.map encPL) → (∀ v ∈ vs, Rep K Z e H v (encPL (decPL H v)) ∧ ∃ t b, v = V.ref t ∧ H t = some (.tup [.int (decPL H v).1, .ref b]) ∧ H b = some (.lst ((decPL H v).2.map .int))) ∧ vs.map (decPL H) = ps
  | [], [], _ => ⟨fun v h => (by cases h), rfl⟩
  | [], p :: ps, r => by cases r
  | v :: vs, [], r => by cases r
  | v :: vs, p :: ps, r => by
    rw [List.map_cons] at r
    cases r with
    | cons a r =>
      obtain ⟨h1, h2⟩ := repl_all r
      obtain ⟨d1, d2⟩ := dec_at a
      refine ⟨fun w hw => ?_, by rw [List.map_cons, h2, d2]⟩
      rcases List.mem_cons.mp hw with rfl | z
      · rw [d2]; exact ⟨a, d1⟩
      · exact h1 w z
theorem ad_sortPL {K : PySem.W.Frag} {c : Bool} : AdC K (rSortPLv K) (rSortPL c) := ad_one (R := fun x e Q => onSome ((lstD e x).bind unPL) fun ps => newQ c ((sortPL ps).map encPL) e Q) fun Z e H x d Qd Q h r q k => by
  obtain ⟨ps, z, q1⟩ := onSome_ex q
  clear q
  obtain ⟨ds, g1, g2⟩ := Option.bind_eq_some_iff.mp z
  have ed := unPL_ex g2
  subst ed
  obtain ⟨l, vs, rfl, g, rl⟩ := lst_at h r g1
  obtain ⟨h1, h2⟩ := repl_all rl
  refine ⟨l, vs, decPL H, rfl, SqL.of g, fun x hx => (h1 x hx).2, fun ys p so st hp => ?_⟩
  have pm : (ys.map (decPL H)).Perm ps := by rw [← h2]; exact st.perm.map _
  have es : ys.map (decPL H) = sortPL ps := sortPL_eq pm (List.pairwise_map.mpr so)
  rw [← es, List.map_map] at q1
  exact new_or h hp (reps_of (encPL ∘ decPL H) fun y hy => (h1 y (st.perm.mem_iff.mp hy)).1) q1 k
theorem d_sortPL (c : Bool) (hu : X.A.units + 64 < cLine) (hg : Gl X "sorted") (hm : X.mg "sorted" = none) (ha : DA X [a] T) (he : starEach [a] X.env = (false, eval a X.env) :: starEach [] X.env := by rfl) : DE X (.Call (.Name "sorted" p) [a] [] pos) (dCall (rSortPL c) T) :=
  d_callB (cr_sortedPL hu) ad_sortPL hg hm PyProof.Rows.boot_sorted ha (he := he)
end
end FL

set_option Elab.async false
set_option linter.all false
set_option maxRecDepth 100000
set_option maxHeartbeats 4000000
/-! More of the layer: list + list as a cell. -/
namespace FL
open PySem PySem.Spec PyProof.Rows L2
section
variable {X : Cy} {a b : Expr} {A B : TD} {pos : Pos}
@[simp] def rPlusC : RD := fun x y e Q => onSome (lstD e x) fun i => onSome (lstD e y) fun j => i.length + j.length ≤ sizeLine ∧ ∀ p, e p = none → Q (.ref p) (e.put p (.lst (i ++ j)))
theorem ad_plusC {K : PySem.W.Frag} : AdR K rCat rPlusC := by
  intro Z e H x y dx dy Qd Q h rx ry q k
  obtain ⟨i, h1, q⟩ := onSome_ex q
  obtain ⟨j, h2, q⟩ := onSome_ex q
  obtain ⟨a1, v1, rfl, g1, l1⟩ := lst_at h rx h1
  obtain ⟨a2, v2, rfl, g2, l2⟩ := lst_at h ry h2
  refine ⟨a1, a2, v1, v2, rfl, rfl, g1, g2, by rw [l1.length, l2.length]; exact q.1, fun p hp => ?_⟩
  obtain ⟨x1, x2⟩ := Rep.new_cell h hp (l1.append l2)
  exact k _ _ _ _ x1 (.ref p) x2 (q.2 p (h.free hp).1)
theorem d_addC (ha : DE X a A) (hb : DE X b B) : DE X (.BinOp a .Add b pos) (dOp rPlusC A B) := d_op op_cat ad_plusC ha hb
end
/-! ### new lists, each a cell -/
/-- refs are new cells that hold G -/
structure Cells (e e2 : Eta) (refs : List D) (G : List (List Int)) : Prop where
  sub : Sub e e2
  len : refs.length = G.length
  each : ∀ (i : Nat) (x : D) (l : List Int), refs[i]? = some x → G[i]? = some l → ∃ q, x = .ref q ∧ e q = none ∧ e2 q = some (.lst (l.map .int))
/-- a list whose items read as G -/
def LL (e : Eta) (d : D) (G : List (List Int)) : Prop := ∃ xs, lstD e d = some xs ∧ xs.length = G.length ∧ ∀ (i : Nat) (x : D) (l : List Int), xs[i]? = some x → G[i]? = some l → lstD e x = some (l.map .int)
theorem Cells.nil {e : Eta} : Cells e e [] [] := ⟨.refl e, rfl, fun i x l h => by simp at h⟩
theorem Cells.ll {e e2 : Eta} {refs : List D} {G : List (List Int)} (c : Cells e e2 refs G) : LL e2 (.lst refs) G := ⟨refs, rfl, c.len, fun i x l h1 h2 => by
  obtain ⟨q, rfl, _, h⟩ := c.each i x l h1 h2
  show lstO (e2 q) = _
  rw [h]; rfl⟩
theorem Cells.more {e e2 : Eta} {refs : List D} {G : List (List Int)} (c : Cells e e2 refs G) {q : Addr} (hq : e2 q = none) (l : List Int) : Cells e (e2.put q (.lst (l.map .int))) (refs ++ [.ref q]) (G ++ [l]) := by
  have eq0 : e q = none := by
    cases z : e q with
    | none => rfl
    | some o => rw [c.sub q o z] at hq; cases hq
  refine ⟨fun a o h => ?_, by simp [c.len], fun i x m h1 h2 => ?_⟩
  · have na : a ≠ q := fun z => by subst z; rw [eq0] at h; cases h
    rw [put_ne na]; exact c.sub a o h
  · have ln := c.len
    by_cases il : i < refs.length
    · rw [List.getElem?_append_left il] at h1
      rw [List.getElem?_append_left (by omega)] at h2
      obtain ⟨p, rfl, a, b⟩ := c.each i x m h1 h2
      have np : p ≠ q := fun z => by subst z; rw [hq] at b; cases b
      exact ⟨p, rfl, a, by rw [put_ne np]; exact b⟩
    · have ie : i = refs.length := by
        have := (List.getElem?_eq_some_iff.mp h1).1
        simp at this; omega
      subst ie
      rw [List.getElem?_append_right (Nat.le_refl _)] at h1
      rw [c.len, List.getElem?_append_right (Nat.le_refl _)] at h2
      simp at h1 h2
      subst h1 h2
      exact ⟨q, rfl, eq0, put_same⟩
/-- where one more cell stands -/
theorem Cells.grow {e e2 e3 : Eta} {refs : List D} {G : List (List Int)} (c : Cells e e2 refs G) (s : Sub e2 e3) : Cells e e3 refs G :=
  ⟨c.sub.trans s, c.len, fun i x l h1 h2 => let ⟨q, a, b, d⟩ := c.each i x l h1 h2; ⟨q, a, b, s q _ d⟩⟩
theorem Cells.append {e e2 e3 : Eta} {refs refs' : List D} {G G' : List (List Int)} (c : Cells e e2 refs G) (c' : Cells e2 e3 refs' G') : Cells e e3 (refs ++ refs') (G ++ G') := by
  have c1 := c.grow c'.sub
  refine ⟨c1.sub, by simp [c.len, c'.len], fun i x m h1 h2 => ?_⟩
  have ln := c.len
  by_cases il : i < refs.length
  · rw [List.getElem?_append_left il] at h1
    rw [List.getElem?_append_left (by omega)] at h2
    exact c1.each i x m h1 h2
  · rw [List.getElem?_append_right (by omega)] at h1
    rw [List.getElem?_append_right (by omega), ← ln] at h2
    obtain ⟨q, rfl, a, b⟩ := c'.each _ x m h1 h2
    refine ⟨q, rfl, ?_, b⟩
    cases z : e q with
    | none => rfl
    | some o => rw [c.sub q o z] at a; cases a
theorem LL.sub {e e2 : Eta} {d : D} {G : List (List Int)} (h : LL e d G) (s : Sub e e2) : LL e2 d G := by
  have up : ∀ {x : D} {ds : List D}, lstD e x = some ds → lstD e2 x = some ds := fun {x ds} hx => by
    rcases lstD_cases hx with rfl | ⟨q, rfl, h'⟩
    · rfl
    · show lstO (e2 q) = _
      rw [s _ _ h']; rfl
  obtain ⟨xs, h1, h2, h3⟩ := h
  exact ⟨xs, up h1, h2, fun i x l a b => up (h3 i x l a b)⟩
theorem lstD_sub {e e2 : Eta} {x : D} {ds : List D} (hx : lstD e x = some ds) (s : Sub e e2) : lstD e2 x = some ds := by
  rcases lstD_cases hx with rfl | ⟨q, rfl, h'⟩
  · rfl
  · show lstO (e2 q) = _
    rw [s _ _ h']; rfl
def trL (l : List Int) : D := .lst (l.map .int)
theorem LL.trees {e : Eta} (G : List (List Int)) : LL e (.lst (G.map trL)) G := ⟨_, rfl, by simp, fun i x l h1 h2 => by
  rw [List.getElem?_map, h2] at h1
  cases h1; rfl⟩
theorem vwl_cells {e e2 : Eta} : ∀ (refs : List D) (G : List (List Int)), refs.length = G.length → (∀ (i : Nat) (x : D) (l : List Int), refs[i]? = some x → G[i]? = some l → ∃ q, x = .ref q ∧ e q = none ∧ e2 q = some (.lst (l.map .int))) → VwL e2 e refs (G.map trL)
  | [], [], _, _ => .nil
  | [], _ :: _, h, _ => by simp at h
  | _ :: _, [], h, _ => by simp at h
  | x :: refs, l :: G, h, f => by
    obtain ⟨q, rfl, a, b⟩ := f 0 x l rfl rfl
    exact .cons (.cell b a (.refl _)) (vwl_cells refs G (by simpa using h) fun i x l h1 h2 => f (i + 1) x l (by simpa using h1) (by simpa using h2))
theorem Cells.freeze {e e2 : Eta} {refs : List D} {G : List (List Int)} (c : Cells e e2 refs G) {Q : D → Eta → Prop} (q : Q (.lst (G.map trL)) e) : outD Q (.lst refs) e2 :=
  ⟨.lst (G.map trL), e, c.sub, .lst (vwl_cells refs G c.len c.each), q⟩
end FL

set_option Elab.async false
set_option linter.all false
set_option maxRecDepth 100000
set_option maxHeartbeats 4000000
/-! More of the layer: in, of lists of lists; min and max of a list of numbers. -/
namespace FL
open PySem PySem.Spec PyProof.Rows L2
section
variable {X : Cy} {a b : Expr} {A B : TD} {T : TDs} {pos p : Pos}
def lstOf : D → Option (List D)
  | .lst ds => some ds
  | _ => none
@[simp] theorem lstOf_l {ds : List D} : lstOf (.lst ds) = some ds := rfl
theorem lstOf_ex {d : D} {ds : List D} (h : lstOf d = some ds) : d = .lst ds := by cases d <;> first | (cases h; rfl) | cases h
@[simp] def rInDeep (n : Bool) (x y : D) (e : Eta) (Q : D → Eta → Prop) : Prop := okD (resD e x) = true ∧ onSome (lstOf (resD e y)) fun ds => okD (.lst ds) = true ∧ Q (.bl (if n = true then !(ds.any fun z => eqD z (resD e x)) else ds.any fun z => eqD z (resD e x))) e
theorem pyDs_any (d : PyData) : ∀ ds : List D, ((pyDs ds).any fun z => PyData.eqv z d) = ds.any fun z => PyData.eqv (pyD z) d
  | [] => rfl
  | x :: ds => by rw [pyDs, List.any_cons, List.any_cons, pyDs_any d ds]
theorem ad_inDeep {K : PySem.W.Frag} : AdR K (rInD K) (rInDeep false) := by
  intro Z e H x y dx dy Qd Q h rx ry q k
  obtain ⟨h1, q⟩ := q
  obtain ⟨ds, g, h2, q⟩ := onSome_ex q
  obtain ⟨n1, s1⟩ := Bool.and_eq_true_iff.mp h1
  obtain ⟨n2, s2⟩ := Bool.and_eq_true_iff.mp h2
  have ey := lstOf_ex g
  have d2 := dp_res h ry (by rw [ey]; exact n2)
  rw [ey] at d2
  refine ⟨_, pyDs ds, dp_res h rx n1, d2, s1, s2, ?_⟩
  rw [pyDs_any]
  exact k _ H _ e .refl (.bl _) h q
theorem ad_notInDeep {K : PySem.W.Frag} : AdR K (rNotInD K) (rInDeep true) := by
  intro Z e H x y dx dy Qd Q h rx ry q k
  obtain ⟨h1, q⟩ := q
  obtain ⟨ds, g, h2, q⟩ := onSome_ex q
  obtain ⟨n1, s1⟩ := Bool.and_eq_true_iff.mp h1
  obtain ⟨n2, s2⟩ := Bool.and_eq_true_iff.mp h2
  have ey := lstOf_ex g
  have d2 := dp_res h ry (by rw [ey]; exact n2)
  rw [ey] at d2
  refine ⟨_, pyDs ds, dp_res h rx n1, d2, s1, s2, ?_⟩
  rw [pyDs_any]
  exact k _ H _ e .refl (.bl _) h q
theorem d_inDeep (hu : X.A.units + 65 < cLine) (ha : DE X a A) (hb : DE X b B) (hm : behindInMarks .In b = false := by rfl) : DE X (.Compare a [.In] [b] pos) (dOp (rInDeep false) A B) := d_cmp (op_inD hu) ad_inDeep ha hb hm
theorem d_ninDeep (hu : X.A.units + 65 < cLine) (ha : DE X a A) (hb : DE X b B) (hm : behindInMarks .NotIn b = false := by rfl) : DE X (.Compare a [.NotIn] [b] pos) (dOp (rInDeep true) A B) := d_cmp (op_notInD hu) ad_notInDeep ha hb hm
theorem dt_inDeep (hu : X.A.units + 65 < cLine) (ha : DE X a A) (hb : DE X b B) (hm : behindInMarks .In b = false := by rfl) : DT X (.Compare a [.In] [b] pos) (dTest (dOp (rInDeep false) A B)) := dt_cmp (op_inD hu) ad_inDeep ha hb hm
theorem dt_ninDeep (hu : X.A.units + 65 < cLine) (ha : DE X a A) (hb : DE X b B) (hm : behindInMarks .NotIn b = false := by rfl) : DT X (.Compare a [.NotIn] [b] pos) (dTest (dOp (rInDeep true) A B)) := dt_cmp (op_notInD hu) ad_notInDeep ha hb hm
theorem room65 {k : Nat} {A : Around} (r : Room k A) : A.units + 65 < cLine := by have := r.un; omega
/-! min, max of a list -/
@[simp] def rMinLD : RC := fun xs e Q => one xs fun x => onSome ((lstD e x).bind intsD) fun ns => ns ≠ [] ∧ ∀ m, m ∈ ns → (∀ y ∈ ns, m ≤ y) → Q (.int m) e
@[simp] def rMaxLD : RC := fun xs e Q => one xs fun x => onSome ((lstD e x).bind intsD) fun ns => ns ≠ [] ∧ ∀ m, m ∈ ns → (∀ y ∈ ns, y ≤ m) → Q (.int m) e
theorem ad_minL {K : PySem.W.Frag} : AdC K (rMin K) rMinLD := ad_one (R := fun x e Q => onSome ((lstD e x).bind intsD) fun ns => ns ≠ [] ∧ ∀ m, m ∈ ns → (∀ y ∈ ns, m ≤ y) → Q (.int m) e) fun Z e H x d Qd Q h r q k => by
  obtain ⟨ns, z, ne, q⟩ := onSome_ex q
  obtain ⟨ds, g1, g2⟩ := Option.bind_eq_some_iff.mp z
  obtain ⟨l, vs, rfl, g, rl⟩ := lst_at h r g1
  have ev := ints_at rl g2
  subst ev
  refine ⟨l, ns, rfl, SqL.of g, List.length_pos_iff.mpr ne, fun m hm hl => k _ H _ e .refl (.int m) h (q m hm hl)⟩
theorem ad_maxL {K : PySem.W.Frag} : AdC K (rMax K) rMaxLD := ad_one (R := fun x e Q => onSome ((lstD e x).bind intsD) fun ns => ns ≠ [] ∧ ∀ m, m ∈ ns → (∀ y ∈ ns, y ≤ m) → Q (.int m) e) fun Z e H x d Qd Q h r q k => by
  obtain ⟨ns, z, ne, q⟩ := onSome_ex q
  obtain ⟨ds, g1, g2⟩ := Option.bind_eq_some_iff.mp z
  obtain ⟨l, vs, rfl, g, rl⟩ := lst_at h r g1
  have ev := ints_at rl g2
  subst ev
  refine ⟨l, ns, rfl, SqL.of g, List.length_pos_iff.mpr ne, fun m hm hl => k _ H _ e .refl (.int m) h (q m hm hl)⟩
theorem d_minL (hc : X.calm = true) (hg : Gl X "min") (hm : X.mg "min" = none) (ha : DA X [a] T) (he : starEach [a] X.env = (false, eval a X.env) :: starEach [] X.env := by rfl) : DE X (.Call (.Name "min" p) [a] [] pos) (dCall rMinLD T) :=
  d_callB (cr_min hc) ad_minL hg hm PyProof.Rows.boot_min ha (he := he)
theorem d_maxL (hc : X.calm = true) (hg : Gl X "max") (hm : X.mg "max" = none) (ha : DA X [a] T) (he : starEach [a] X.env = (false, eval a X.env) :: starEach [] X.env := by rfl) : DE X (.Call (.Name "max" p) [a] [] pos) (dCall rMaxLD T) :=
  d_callB (cr_max hc) ad_maxL hg hm PyProof.Rows.boot_max ha (he := he)
end
end FL

set_option Elab.async false
set_option linter.all false
set_option maxRecDepth 100000
set_option maxHeartbeats 4000000
/-! More of the layer: in, of tuples of data. -/
namespace FL
open PySem PySem.Spec PyProof.Rows L2
section
variable {X : Cy} {a b : Expr} {A B : TD} {T : TDs} {pos p : Pos}
def rInDT (K : PySem.W.Frag) : R2 := fun x y H Q => ∃ d ds, Dp K H x d ∧ Dp K H y (.tuple ds) ∧ SeqAt.shaped d = true ∧ SeqAt.shaped (.tuple ds) = true ∧ Q (.bl (ds.any fun z => PyData.eqv z d)) H
def rNotInDT (K : PySem.W.Frag) : R2 := fun x y H Q => ∃ d ds, Dp K H x d ∧ Dp K H y (.tuple ds) ∧ SeqAt.shaped d = true ∧ SeqAt.shaped (.tuple ds) = true ∧ Q (.bl (!ds.any fun z => PyData.eqv z d)) H
theorem op_inDT (hu : X.A.units + 65 < cLine) : OpR X (compareOp .In) (rInDT X.K) := by
  intro pins s σ H x y v u Q I rx ry h
  obtain ⟨d, ds, hd, he, sd, se, q⟩ := h
  obtain ⟨as, r1⟩ := Dp.reads I d x v hd rx
  obtain ⟨bs, r2⟩ := Dp.reads I (.tuple ds) y u he ry
  exact SeqAt.in_tuple_reads r2 r1 (SeqAt.canLay_of_shaped se) (SeqAt.canLay_of_shaped sd) (room_in_shaped sd hu) ⟨.bl _, H, I, rfl, q⟩
theorem op_notInDT (hu : X.A.units + 65 < cLine) : OpR X (compareOp .NotIn) (rNotInDT X.K) := by
  intro pins s σ H x y v u Q I rx ry h
  obtain ⟨d, ds, hd, he, sd, se, q⟩ := h
  obtain ⟨as, r1⟩ := Dp.reads I d x v hd rx
  obtain ⟨bs, r2⟩ := Dp.reads I (.tuple ds) y u he ry
  exact SeqAt.notIn_tuple_reads r2 r1 (SeqAt.canLay_of_shaped se) (SeqAt.canLay_of_shaped sd) (room_in_shaped sd hu) ⟨.bl _, H, I, rfl, q⟩
def tupOf : D → Option (List D)
  | .tup ds => some ds
  | _ => none
@[simp] theorem tupOf_l {ds : List D} : tupOf (.tup ds) = some ds := rfl
theorem tupOf_ex {d : D} {ds : List D} (h : tupOf d = some ds) : d = .tup ds := by cases d <;> first | (cases h; rfl) | cases h
@[simp] def rInDeepT (n : Bool) (x y : D) (e : Eta) (Q : D → Eta → Prop) : Prop := okD (resD e x) = true ∧ onSome (tupOf (resD e y)) fun ds => okD (.tup ds) = true ∧ Q (.bl (if n = true then !(ds.any fun z => eqD z (resD e x)) else ds.any fun z => eqD z (resD e x))) e
theorem ad_inDeepT {K : PySem.W.Frag} : AdR K (rInDT K) (rInDeepT false) := by
  intro Z e H x y dx dy Qd Q h rx ry q k
  obtain ⟨h1, q⟩ := q
  obtain ⟨ds, g, h2, q⟩ := onSome_ex q
  obtain ⟨n1, s1⟩ := Bool.and_eq_true_iff.mp h1
  obtain ⟨n2, s2⟩ := Bool.and_eq_true_iff.mp h2
  have ey := tupOf_ex g
  have d2 := dp_res h ry (by rw [ey]; exact n2)
  rw [ey] at d2
  refine ⟨_, pyDs ds, dp_res h rx n1, d2, s1, s2, ?_⟩
  rw [pyDs_any]
  exact k _ H _ e .refl (.bl _) h q
theorem ad_notInDeepT {K : PySem.W.Frag} : AdR K (rNotInDT K) (rInDeepT true) := by
  intro Z e H x y dx dy Qd Q h rx ry q k
  obtain ⟨h1, q⟩ := q
  obtain ⟨ds, g, h2, q⟩ := onSome_ex q
  obtain ⟨n1, s1⟩ := Bool.and_eq_true_iff.mp h1
  obtain ⟨n2, s2⟩ := Bool.and_eq_true_iff.mp h2
  have ey := tupOf_ex g
  have d2 := dp_res h ry (by rw [ey]; exact n2)
  rw [ey] at d2
  refine ⟨_, pyDs ds, dp_res h rx n1, d2, s1, s2, ?_⟩
  rw [pyDs_any]
  exact k _ H _ e .refl (.bl _) h q
theorem d_inDeepT (hu : X.A.units + 65 < cLine) (ha : DE X a A) (hb : DE X b B) (hm : behindInMarks .In b = false := by rfl) : DE X (.Compare a [.In] [b] pos) (dOp (rInDeepT false) A B) := d_cmp (op_inDT hu) ad_inDeepT ha hb hm
theorem d_ninDeepT (hu : X.A.units + 65 < cLine) (ha : DE X a A) (hb : DE X b B) (hm : behindInMarks .NotIn b = false := by rfl) : DE X (.Compare a [.NotIn] [b] pos) (dOp (rInDeepT true) A B) := d_cmp (op_notInDT hu) ad_notInDeepT ha hb hm
theorem dt_inDeepT (hu : X.A.units + 65 < cLine) (ha : DE X a A) (hb : DE X b B) (hm : behindInMarks .In b = false := by rfl) : DT X (.Compare a [.In] [b] pos) (dTest (dOp (rInDeepT false) A B)) := dt_cmp (op_inDT hu) ad_inDeepT ha hb hm
theorem dt_ninDeepT (hu : X.A.units + 65 < cLine) (ha : DE X a A) (hb : DE X b B) (hm : behindInMarks .NotIn b = false := by rfl) : DT X (.Compare a [.NotIn] [b] pos) (dTest (dOp (rInDeepT true) A B)) := dt_cmp (op_notInDT hu) ad_notInDeepT ha hb hm
end
end FL

set_option Elab.async false
set_option linter.all false
set_option maxRecDepth 100000
set_option maxHeartbeats 4000000
/-! _law_same of lists whose items are cells. -/
namespace FL
open PySem PySem.Spec PyProof.Rows L2
def AllR (R : D → D → Prop) (xs ds : List D) : Prop := xs.length = ds.length ∧ ∀ (i : Nat) (a b : D), xs[i]? = some a → ds[i]? = some b → R a b
/-- what a thing reads as, cells looked into -/
def RdD (e : Eta) : Nat → D → D → Prop
  | n + 1, x, .lst ds => ∃ xs, lstD e x = some xs ∧ AllR (RdD e n) xs ds
  | n + 1, x, .tup ds => ∃ xs, x = .tup xs ∧ AllR (RdD e n) xs ds
  | _, x, d => x = d
theorem AllR.self {R : D → D → Prop} {ds : List D} (h : ∀ d ∈ ds, R d d) : AllR R ds ds := ⟨rfl, fun i a b h1 h2 => by rw [h1] at h2; cases h2; exact h a (List.mem_of_getElem? h1)⟩
theorem RdD.self (e : Eta) : ∀ (n : Nat) (d : D), shD n d = true → RdD e n d d
  | 0, .lst _, h => by cases h
  | 0, .tup _, h => by cases h
  | n + 1, .lst ds, h => ⟨ds, rfl, AllR.self fun d hd => RdD.self e n d (List.all_eq_true.mp (Bool.and_eq_true_iff.mp h).2 d hd)⟩
  | n + 1, .tup ds, h => ⟨ds, rfl, AllR.self fun d hd => RdD.self e n d (List.all_eq_true.mp (Bool.and_eq_true_iff.mp h).2 d hd)⟩
  | 0, .non, _ | _ + 1, .non, _ => rfl
  | 0, .bl _, _ | _ + 1, .bl _, _ => rfl
  | 0, .int _, _ | _ + 1, .int _, _ => rfl
  | 0, .str _, _ | _ + 1, .str _, _ => rfl
  | n, .ref _, h => by cases n <;> cases h
  | n, .scr _, h => by cases n <;> cases h
  | n, .dic _, h => by cases n <;> cases h
  | n, .obj _ _, h => by cases n <;> cases h
  | n, .exc _ _, h => by cases n <;> cases h
def sp_sameD (n : Nat) : SpD := fun ds e Q => ∃ a b d, ds = [a, b] ∧ RdD e n a d ∧ RdD e n b d ∧ shD n d = true ∧ Q (.bl true) e
theorem zip_pairs : ∀ xs ys : List D, zipD xs ys = (xs.zip ys).map fun p => .tup [p.1, p.2]
  | [], _ => rfl
  | _ :: _, [] => rfl
  | x :: xs, y :: ys => by
    show _ :: zipD xs ys = _
    rw [zip_pairs xs ys]; rfl
theorem rd_sameD (n : Nat) (hn : n ≤ 64) (spI : SpD) (hI : ∀ m, n = m + 1 → spI = sp_sameD m) (ds : List D) (e : Eta) (Q : D → Eta → Prop) (h : sp_sameD n ds e Q) : t_law_same spI (endsD Q) (startD nm_law_same ds) e := by
  obtain ⟨a, b, d, rfl, ha, hb, hs, k⟩ := h
  have k := outD.self k
  have go : ∀ (m : Nat) (xs ys ds : List D), n = m + 1 → ds.all (shD m) = true → AllR (RdD e m) xs ds → AllR (RdD e m) ys ds → ∀ (C : Eta → Prop) (Q' : List D → Eta → Prop) (dl : Sd), dl = [some a, some b, none, none] → C e → Q' (List.replicate ds.length (.bl true)) e →
      compD C (.many [2, 3]) dYes (dCall spI (dCons (dVar 2) (dCons (dVar 3) dNil))) [2, 3] (zipD xs ys) [] dl e Q' := by
    rintro m xs ys ds hm hd h1 h2 C Q' dl rfl hc q
    rw [zip_pairs]
    refine comp_pure (p := fun _ => true) (h := fun _ => .bl true) hc (xs.zip ys) [] (fun x hx => ?_) ?_
    · simp
      intro K kk
      rw [hI m hm]
      obtain ⟨i, hi, e1⟩ := List.mem_iff_getElem.mp hx
      rw [List.length_zip] at hi
      have hl1 := h1.1
      have hl2 := h2.1
      have ex : xs[i]? = some x.1 := by rw [List.getElem?_eq_getElem (by omega), ← e1]; simp
      have ey : ys[i]? = some x.2 := by rw [List.getElem?_eq_getElem (by omega), ← e1]; simp
      have ed : ds[i]? = some ds[i] := List.getElem?_eq_getElem (by omega)
      exact ⟨x.1, x.2, ds[i], rfl, h1.2 i _ _ ex ed, h2.2 i _ _ ey ed, List.all_eq_true.mp hd _ (List.getElem_mem _), kk⟩
    · rw [List.filter_eq_self.mpr (fun _ _ => rfl)]
      have hl1 := h1.1
      have hl2 := h2.1
      have : ((xs.zip ys).map fun _ => D.bl true) = List.replicate ds.length (.bl true) := by
        rw [List.map_const', List.length_zip, hl1, hl2, Nat.min_self]
      rw [List.nil_append, this]; exact q
  have bls : ∀ n : Nat, blsD (List.replicate n (D.bl true)) = some (List.replicate n true) := by
    intro n
    have := blsD_map (fun _ : Unit => true) (List.replicate n ())
    simpa using this
  have zl : ∀ xs ys : List D, (zipD xs ys).length ≤ xs.length := fun xs ys => by unfold zipD; rw [List.length_zipWith]; omega
  cases n with
  | zero =>
    cases d with
    | lst _ => cases hs
    | tup _ => cases hs
    | ref _ => cases hs
    | scr _ => cases hs
    | dic _ => cases hs
    | obj _ _ => cases hs
    | exc _ _ => cases hs
    | _ =>
      obtain rfl : a = _ := ha
      obtain rfl : b = _ := hb
      simp [t_law_same, kitB, okD_sh hs hn]; exact k
  | succ m =>
    cases d with
    | ref _ => cases hs
    | scr _ => cases hs
    | dic _ => cases hs
    | obj _ _ => cases hs
    | exc _ _ => cases hs
    | lst ds =>
      obtain ⟨xs, h1, r1⟩ := ha
      obtain ⟨ys, h2, r2⟩ := hb
      obtain ⟨hl, hd⟩ := Bool.and_eq_true_iff.mp hs
      have hl := of_decide_eq_true hl
      have e1 := r1.1
      have e2 := r2.1
      have z := zl xs ys
      simp [t_law_same, kitB, tyD_lst h1, tyD_lst h2, lenD_lst h1, lenD_lst h2, zipX_lst h1 h2, e1, e2]
      refine ⟨by rw [sizeLine_eq]; omega, go m xs ys ds rfl hd r1 r2 _ _ _ rfl ⟨stay_lst h1, stay_lst h2⟩ ?_⟩
      simp [bls]
      exact k
    | tup ds =>
      obtain ⟨xs, rfl, r1⟩ := ha
      obtain ⟨ys, rfl, r2⟩ := hb
      obtain ⟨hl, hd⟩ := Bool.and_eq_true_iff.mp hs
      have hl := of_decide_eq_true hl
      have e1 := r1.1
      have e2 := r2.1
      have z := zl xs ys
      simp [t_law_same, kitB, e1, e2]
      refine ⟨by rw [sizeLine_eq]; omega, go m xs ys ds rfl hd r1 r2 _ _ _ rfl trivial ?_⟩
      simp [bls]
      exact k
    | _ =>
      obtain rfl : a = _ := ha
      obtain rfl : b = _ := hb
      simp [t_law_same, kitB, okD_sh hs hn]; exact k
theorem use_sameD {n : Nat} {a b d : D} {e : Eta} {Q : D → Eta → Prop} (ha : RdD e n a d) (hb : RdD e n b d) (hs : shD n d = true) (k : Q (.bl true) e) : sp_sameD n [a, b] e Q := ⟨a, b, d, rfl, ha, hb, hs, k⟩
theorem len_sameD (n : Nat) (ds : List D) (e : Eta) (Q : D → Eta → Prop) (h : sp_sameD n ds e Q) : ds.length = 2 := by obtain ⟨_, _, _, rfl, _⟩ := h; rfl
/-- a cell of trees -/
theorem RdD.cell {e : Eta} {n : Nat} {x : D} {ds : List D} (h : lstD e x = some ds) (s : shD (n + 1) (.lst ds) = true) : RdD e (n + 1) x (.lst ds) := ⟨ds, h, AllR.self fun d hd => RdD.self e n d (List.all_eq_true.mp (Bool.and_eq_true_iff.mp s).2 d hd)⟩
end FL

set_option Elab.async false
set_option linter.all false
set_option maxRecDepth 100000
set_option maxHeartbeats 4000000
/-! More of the layer: == of lists whose items are cells. -/
namespace FL
open PySem PySem.Spec PyProof.Rows L2
section
variable {K : PySem.W.Frag} {Z : Addr → Prop} {e : Eta} {H : Hp}
theorem dpAll_of {R : D → D → Prop} (f : ∀ v x d, Rep K Z e H v x → R x d → nrD d = true → Dp K H v (pyD d)) : ∀ {vs : List V} {xs ds : List D}, RepL K Z e H vs xs → AllR R xs ds → nrDs ds = true → DpAll K H vs (pyDs ds)
  | [], _, [], r, a, _ => .nil
  | [], _, d :: ds, r, a, _ => by cases r; exact absurd a.1 (by simp)
  | v :: vs, _, [], r, a, _ => by cases r; exact absurd a.1 (by simp)
  | v :: vs, _, d :: ds, r, a, n => by
    cases r with
    | cons r1 r2 =>
      have n : (nrD d && nrDs ds) = true := n
      obtain ⟨n1, n2⟩ := Bool.and_eq_true_iff.mp n
      exact .cons (f _ _ _ r1 (a.2 0 _ _ rfl rfl) n1) (dpAll_of f r2 ⟨by simpa using a.1, fun i x y h1 h2 => a.2 (i + 1) x y (by simpa using h1) (by simpa using h2)⟩ n2)
theorem dp_rd (h : HRel K Z e H) : ∀ (n : Nat) (v : V) (x d : D), Rep K Z e H v x → RdD e n x d → nrD d = true → Dp K H v (pyD d)
  | 0, v, x, d, r, q, hn => by
    have : x = d := by cases d <;> exact q
    subst this
    exact dp_of _ _ r hn
  | n + 1, v, x, d, r, q, hn => by
    cases d with
    | lst ds =>
      obtain ⟨xs, g, a⟩ := q
      obtain ⟨p, vs, rfl, hp, rl⟩ := lst_at h r g
      exact .lst (SqL.of hp) (dpAll_of (fun v x d r q hn => dp_rd h n v x d r q hn) rl a hn)
    | tup ds =>
      obtain ⟨xs, rfl, a⟩ := q
      cases r with
      | tup f rl => exact .tup (SqT.of f.2.2) (dpAll_of (fun v x d r q hn => dp_rd h n v x d r q hn) rl a hn)
    | _ =>
      have q : x = _ := q
      subst q
      exact dp_of _ _ r hn
end
/-- == and != of what two things read as -/
def rEqDp (n : Bool) : RD := fun x y e Q => ∃ k a b, RdD e k x a ∧ RdD e k y b ∧ (okD a = true ∧ okD b = true) ∧ Q (.bl (if n = true then !eqD a b else eqD a b)) e
section
variable {X : Cy} {a b : Expr} {A B : TD} {pos : Pos}
theorem ad_eqDp {K : PySem.W.Frag} : AdR K (rEqD K) (rEqDp false) := by
  intro Z e H x y dx dy Qd Q h rx ry q k
  obtain ⟨n, a, b, r1, r2, ⟨h1, h2⟩, q⟩ := q
  obtain ⟨n1, s1⟩ := Bool.and_eq_true_iff.mp h1
  obtain ⟨n2, s2⟩ := Bool.and_eq_true_iff.mp h2
  exact ⟨_, _, dp_rd h n _ _ _ rx r1 n1, dp_rd h n _ _ _ ry r2 n2, s1, s2, k _ H _ e .refl (.bl _) h q⟩
theorem ad_neDp {K : PySem.W.Frag} : AdR K (rNeD K) (rEqDp true) := by
  intro Z e H x y dx dy Qd Q h rx ry q k
  obtain ⟨n, a, b, r1, r2, ⟨h1, h2⟩, q⟩ := q
  obtain ⟨n1, s1⟩ := Bool.and_eq_true_iff.mp h1
  obtain ⟨n2, s2⟩ := Bool.and_eq_true_iff.mp h2
  exact ⟨_, _, dp_rd h n _ _ _ rx r1 n1, dp_rd h n _ _ _ ry r2 n2, s1, s2, k _ H _ e .refl (.bl _) h q⟩
theorem d_eqDp (hu : X.A.units + 64 < cLine) (ha : DE X a A) (hb : DE X b B) : DE X (.Compare a [.Eq] [b] pos) (dOp (rEqDp false) A B) := d_cmp (op_eqD hu) ad_eqDp ha hb (nomark _)
theorem d_neDp (hu : X.A.units + 64 < cLine) (ha : DE X a A) (hb : DE X b B) : DE X (.Compare a [.NotEq] [b] pos) (dOp (rEqDp true) A B) := d_cmp (op_neD hu) ad_neDp ha hb (nomark _)
theorem dt_eqDp (hu : X.A.units + 64 < cLine) (ha : DE X a A) (hb : DE X b B) : DT X (.Compare a [.Eq] [b] pos) (dTest (dOp (rEqDp false) A B)) := dt_cmp (op_eqD hu) ad_eqDp ha hb (nomark _)
theorem dt_neDp (hu : X.A.units + 64 < cLine) (ha : DE X a A) (hb : DE X b B) : DT X (.Compare a [.NotEq] [b] pos) (dTest (dOp (rEqDp true) A B)) := dt_cmp (op_neD hu) ad_neDp ha hb (nomark _)
end
end FL

set_option Elab.async false
set_option linter.all false
set_option maxRecDepth 100000
set_option maxHeartbeats 4000000
/-! More of the layer: l.insert(i, y). -/
namespace FL
open PySem PySem.Spec PyProof.Rows L2
section
variable {X : Cy} {o a b : Expr} {A B C : TD} {apos cpos : Pos}
@[simp] def rInsD : RM := fun x ys e Q => onR x fun p => ∃ i y, ys = [.int i, y] ∧ onSome (lstO (e p)) fun ds => ds.length < sizeLine ∧ 0 ≤ i ∧ i < 2 ^ 63 ∧ Q .non (e.put p (.lst (ds.take i.toNat ++ [y] ++ ds.drop i.toNat)))
theorem ad_ins {K : PySem.W.Frag} : AdM K (fun x vs H Q => ∃ (l : Addr) (xs : List V) (i : Int) (y : V), x = .ref l ∧ vs = [.int i, y] ∧ H l = some (.lst xs) ∧ xs.length < sizeLine ∧ 0 ≤ i ∧ i < 2 ^ 63 ∧ Q .non (upd H l (.lst (xs.take i.toNat ++ [y] ++ xs.drop i.toNat)))) rInsD := by
  intro Z e H x d xs ds Qd Q h r rl q k
  obtain ⟨p, rfl, q1⟩ := onR_ex q
  obtain ⟨i, y, rfl, q2⟩ := q1
  clear q
  obtain ⟨ls, hp, q⟩ := onSome_ex q2
  cases r
  cases rl with
  | cons r1 rl =>
    cases rl with
    | cons r2 rl =>
      cases rl
      cases r1
      obtain ⟨vs, g1, g2⟩ := h.cell _ _ (lstO_ex hp)
      obtain ⟨x1, x2⟩ := Rep.set_cell h (lstO_ex hp) (((g2.take i.toNat).append (.cons r2 .nil)).append (g2.drop i.toNat))
      exact ⟨p, vs, i, _, rfl, rfl, g1, by rw [g2.length]; exact q.1, q.2.1, q.2.2.1, k _ _ _ _ x1 .non x2 q.2.2.2⟩
theorem d_insert (ho : DE X o A) (ha : DE X a B) (hb : DE X b C) (he : starEach [a, b] X.env = (false, eval a X.env) :: starEach [b] X.env := by rfl) (he2 : starEach [b] X.env = (false, eval b X.env) :: starEach [] X.env := by rfl) (hbase : attributeBase o "insert" X.env (eval o X.env) = eval o X.env := by rfl) (hline : (apos.endLine == cpos.line) = true := by rfl)
    (hfew : ((backTo cpos (starEach [a, b] X.env)).all (fun x => !x.1) && (backToKw cpos (keywordEach [] X.env)).all (fun x => x.1.isSome) && decide ([a, b].length + ([] : List Keyword).length + (if ([] : List Keyword).isEmpty then 0 else 1) < 30)) = true := by rfl) (hplain : (backTo cpos (starEach [b] X.env)).any (·.1) = false := by rfl) :
    DE X (.Call (.Attribute o "insert" apos) [a, b] [] cpos) (dMth rInsD A (dCons B (dCons C dNil))) := d_mth PySem.F.slot_list_insert PySem.F.type_list_insert mt_insert ad_ins ho (da_cons ha (da_cons hb da_nil he2) he) hbase hfew hline he hplain
end
end FL

set_option Elab.async false
set_option linter.all false
set_option maxRecDepth 100000
set_option maxHeartbeats 4000000
/-! The layer's instances: fields, methods, making; defs that let exceptions out. -/
namespace FL
open PySem PySem.Spec PyProof.Rows L2

/-! ### fields -/
/-- the fields of an instance of C, a cell or a tree -/
def insO (C : Str) : Option O → Option (List (Str × D))
  | some (.ins C' fs) => if C' = C then some fs else none
  | _ => none
def insD (e : Eta) (C : Str) : D → Option (List (Str × D))
  | .ref p => insO C (e p)
  | .obj C' fs => if C' = C then some fs else none
  | _ => none
@[simp] theorem insO_i {C : Str} {fs : List (Str × D)} : insO C (some (.ins C fs)) = some fs := if_pos rfl
@[simp] theorem insD_o {e : Eta} {C : Str} {fs : List (Str × D)} : insD e C (.obj C fs) = some fs := if_pos rfl
@[simp] theorem insD_r {e : Eta} {C : Str} {p : Addr} : insD e C (.ref p) = insO C (e p) := rfl
theorem insO_ex {C : Str} {o : Option O} {fs : List (Str × D)} (h : insO C o = some fs) : o = some (.ins C fs) := by
  cases o with
  | none => cases h
  | some o =>
    cases o with
    | ins C' gs =>
      have h : (if C' = C then some gs else none) = some fs := h
      split at h
      · rename_i hc; cases h; rw [hc]
      · cases h
    | _ => cases h
section
variable {K : PySem.W.Frag} {Z : Addr → Prop} {e : Eta} {H : Hp}
theorem ins_at (h : HRel K Z e H) {x : V} {d : D} {C : Str} {fs : List (Str × D)} (r : Rep K Z e H x d) (q : insD e C d = some fs) :
    ∃ a dx vs, x = .ref a ∧ H a = some (.ins (He.ga K C) dx vs) ∧ RepK K Z e H vs fs := by
  cases r with
  | ref p =>
    obtain ⟨dx, vs, g1, g2⟩ := h.cell _ _ (insO_ex q)
    exact ⟨_, dx, vs, rfl, g1, g2⟩
  | @obj _ _ C' _ gs f n r =>
    have q : (if C' = C then some gs else none) = some fs := q
    split at q
    · rename_i hc; cases q; subst hc; exact ⟨_, _, _, rfl, f.2.2, RepK.of n r⟩
    · cases q
  | _ => cases q
theorem RepK.none {κ : Str} {vs : List (Str × V)} {ds : List (Str × D)} (r : RepK K Z e H vs ds) (h : ds.lookup κ = none) : vs.lookup κ = none := by
  rcases r.look (v := κ) with ⟨_, h2⟩ | ⟨_, _, h1, _, _⟩
  · exact h2
  · rw [h] at h1; cases h1
/-- a field is stored -/
def setF {α : Type} (f : Str) (v : α) : List (Str × α) → List (Str × α)
  | [] => [(f, v)]
  | (g, x) :: r => if g = f then (g, v) :: r else (g, x) :: setF f v r
theorem setF_eq (f : Str) (v : V) : ∀ fs : List (Str × V), putF f v fs = setF f v fs
  | [] => rfl
  | (g, x) :: r => by rw [putF, setF, setF_eq f v r]
theorem RepK.setF {f : Str} {v : V} {d : D} (h : Rep K Z e H v d) : ∀ {vs : List (Str × V)} {ds : List (Str × D)}, RepK K Z e H vs ds → RepK K Z e H (setF f v vs) (FL.setF f d ds)
  | _, _, .nil => .cons h .nil
  | _, _, .cons (k := k) a r => by
    unfold FL.setF
    by_cases hk : k = f
    · rw [if_pos hk, if_pos hk]; exact .cons h r
    · rw [if_neg hk, if_neg hk]; exact .cons a (RepK.setF h r)
theorem Rep.set_ins {p dx : Addr} {C : Str} {vs : List (Str × V)} {fs : List (Str × D)} {o : O} (h : HRel K Z e H) (hp : e p = some o) (r : RepK K Z e H vs fs) :
    Ext e H (e.put p (.ins C fs)) (upd H p (.ins (He.ga K C) dx vs)) ∧ HRel K Z (e.put p (.ins C fs)) (upd H p (.ins (He.ga K C) dx vs)) :=
  h.write hp fun x => ⟨dx, vs, upd_same, r.ext x⟩
end
/-- e.f -/
@[simp] def dFld (C f : Str) (A : TD) (dl : Sd) (e : Eta) (Q : D → Eta → Prop) : Prop := A dl e fun x e1 => onSome (insD e1 C x) fun fs => onSome (fs.lookup f) fun d => Q d e1
/-- e.f = v -/
@[simp] def dSetF (C f : Str) (A B : TD) (E : EndsD) (dl : Sd) (e : Eta) : Prop := B dl e fun d e1 => A dl e1 fun x e2 => onR x fun p => onSome (insO C (e2 p)) fun fs => fs.length < 900 ∧ E.nx dl (e2.put p (.ins C (setF f d fs)))
/-- e.f += v, numbers -/
@[simp] def dAugF (C f : Str) (A B : TD) (E : EndsD) (dl : Sd) (e : Eta) : Prop := A dl e fun x e1 => onR x fun p => onSome (insO C (e1 p)) fun fs => onSome (fs.lookup f) fun c => onI c fun i => B dl e1 fun d e2 => onI d fun j =>
  onSome (insO C (e2 p)) fun gs => gs.length < 900 ∧ E.nx dl (e2.put p (.ins C (setF f (.int (i + j)) gs)))
section
variable {X : Cy} {a b o : Expr} {A B : TD} {C f : Str} {pos p' tpos : Pos}
theorem d_fld (c : Cls X.K (He.ga X.K C)) (n : NoAttr X.K (He.ga X.K C) f) (ha : DE X a A) (hb : attributeBase a f X.env (eval a X.env) = eval a X.env := by rfl) : DE X (.Attribute a f pos) (dFld C f A) := pe_imp (pe_fld ha hb) (by
  rintro sg H Q ⟨Z, dl, e, Qd, s, t, k⟩
  refine low.use s t fun v H1 d e1 x1 r1 h1 q1 => ?_
  obtain ⟨fs, hf, q1⟩ := onSome_ex q1
  obtain ⟨y, hy, q1⟩ := onSome_ex q1
  obtain ⟨p, dx, vs, rfl, g1, g2⟩ := ins_at h1 r1 hf
  rcases g2.look (v := f) with ⟨z, _⟩ | ⟨w, d', z1, z2, z3⟩
  · rw [z] at hy; cases hy
  · rw [z1] at hy; cases hy
    exact ⟨p, _, dx, vs, w, rfl, g1, c, n, z2, k w H1 _ e1 x1 z3 h1 q1⟩)
theorem ds_setF (c : Cls X.K (He.ga X.K C)) (n : NoAttr X.K (He.ga X.K C) f) (ho : DE X o A) (hb : DE X b B) (hs : swapsWith b (some (.Attribute o f p')) pos.line X.env = pure false := by rfl) : DS X (.Assign [.Attribute o f p'] b pos) (dSetF C f A B) :=
  ps_imp (ps_fld ho hb hs) (by
    rintro F sg H ⟨Z, dl, e, E, s, t, k⟩
    refine low.use s t fun v H1 d e1 x1 r1 h1 q => low.use (s.ext x1 h1) q fun u H2 x e2 x2 r2 h2 q2 => ?_
    obtain ⟨p, rfl, q2⟩ := onR_ex q2
    obtain ⟨fs, hf, hl, q2⟩ := onSome_ex q2
    have ep := insO_ex hf
    obtain ⟨dx, vs, g1, g2⟩ := h2.cell _ _ ep
    cases r2
    obtain ⟨y1, y2⟩ := Rep.set_ins (C := C) (dx := dx) h2 ep (g2.setF (f := f) (r1.ext x2))
    refine ⟨p, _, dx, vs, rfl, g1, c, n, by rw [g2.length]; omega, ?_⟩
    rw [setF_eq]
    exact k.nx dl _ sg _ (x1.trans (x2.trans y1)) (s.ext (x1.trans (x2.trans y1)) y2) q2)
theorem ds_augF (c : Cls X.K (He.ga X.K C)) (n : NoAttr X.K (He.ga X.K C) f) (ho : DE X o A) (hb : DE X b B) : DS X (.AugAssign (.Attribute o f tpos) .Add b pos) (dAugF C f A B) :=
  ps_imp (ps_fldaug ho hb in_add) (by
    rintro F sg H ⟨Z, dl, e, E, s, t, k⟩
    refine low.use s t fun v H1 x e1 x1 r1 h1 q => ?_
    obtain ⟨p, rfl, q⟩ := onR_ex q
    obtain ⟨fs, hf, q⟩ := onSome_ex q
    obtain ⟨y, hy, q⟩ := onSome_ex q
    obtain ⟨i, rfl, q⟩ := onI_ex q
    obtain ⟨dx, vs, g1, g2⟩ := h1.cell _ _ (insO_ex hf)
    cases r1
    rcases g2.look (v := f) with ⟨z, _⟩ | ⟨w, d', z1, z2, z3⟩
    · rw [z] at hy; cases hy
    · rw [z1] at hy; cases hy
      refine ⟨p, _, dx, vs, w, rfl, g1, c, n, z2, low.use (s.ext x1 h1) q fun u H2 d e2 x2 r2 h2 q2 => ?_⟩
      obtain ⟨j, rfl, q2⟩ := onI_ex q2
      obtain ⟨gs, hg, hl, q2⟩ := onSome_ex q2
      have ep := insO_ex hg
      obtain ⟨dx', us, g3, g4⟩ := h2.cell _ _ ep
      cases z3; cases r2
      obtain ⟨y1, y2⟩ := Rep.set_ins (C := C) (dx := dx') h2 ep (g4.setF (f := f) (Rep.int (i + j)))
      refine ⟨i, j, rfl, rfl, dx', us, g3, by rw [g4.length]; omega, ?_⟩
      rw [setF_eq]
      exact k.nx dl _ sg _ (x1.trans (x2.trans y1)) (s.ext (x1.trans (x2.trans y1)) y2) q2)
end

/-! ### a def that lets exceptions out -/
abbrev XP := Str → List (Str × V) → Eta → Prop
abbrev SpX := List D → Eta → (D → Eta → Prop) → XP → Prop
def noP : XP := fun _ _ _ => False
def spOfX (K : PySem.W.Frag) (sp : SpX) : Sp := fun vs H Q E => ∃ (Z : Addr → Prop) (ds : List D) (e : Eta) (Qd : D → Eta → Prop) (Xd : XP), RepL K Z e H vs ds ∧ HRel K Z e H ∧ sp ds e Qd Xd ∧
  (∀ v H' d e', Ext e H e' H' → Rep K Z e' H' v d → HRel K Z e' H' → Qd d e' → Q v H') ∧
  ∀ C fs cls d H' e', Ext e H e' H' → XRep K Z e' H' cls d C fs → HRel K Z e' H' → Xd C fs e' → E cls d H'
abbrev FnX (P : Program) (w : World) (K : PySem.W.Frag) (mg : Str → Option Value) (base : Heap) (k : Nat) (f : Addr) (fd : FuncData) (ps : List Str) (sp : SpX) : Prop := FnOk P w K mg base (CX P w) k f fd ps (spOfX K sp)
section
variable {P : Program} {w : World} {K : PySem.W.Frag} {mg : Str → Option Value} {base : Heap} {k : Nat} {f : Addr} {fd : FuncData} {ps : List Str}
theorem FnX.mono {j : Nat} {sp : SpX} (F : FnX P w K mg base j f fd ps sp) (h : j ≤ k) : FnX P w K mg base k f fd ps sp := FnOk.mono F h
theorem FnX.weak {sp sp' : SpX} (F : FnX P w K mg base k f fd ps sp) (h : ∀ ds e Q E, sp' ds e Q E → sp ds e Q E) : FnX P w K mg base k f fd ps sp' :=
  FnOk.imp F fun vs H Q E ⟨Z, ds, e, Qd, Xd, a, b, c, d⟩ => ⟨Z, ds, e, Qd, Xd, a, b, h _ _ _ _ c, d⟩
/-- where it lets none out -/
theorem FnX.fn {sp : SpD} {spx : SpX} (F : FnX P w K mg base k f fd ps spx) (h : ∀ ds e Q, sp ds e Q → spx ds e Q noP) : FnD P w K mg base k f fd ps sp := by
  have G : FnOk P w K mg base (CX P w) k f fd ps fun vs H Q E => (∀ c d H', ¬ E c d H') ∧ spOf K sp vs H Q E := FnOk.imp F fun vs H Q E ⟨n, Z, ds, e, Qd, a, b, c, d⟩ => ⟨Z, ds, e, Qd, noP, a, b, h _ _ _ c, d, fun _ _ _ _ _ _ _ _ _ z => z.elim⟩
  refine ⟨fun vs H Q E q => G.len vs H Q (fun _ _ _ => False) ⟨fun _ _ _ z => z, q⟩, fun A outer s H args us vs Q E hr he hb hv q => ?_⟩
  refine codeAny_mono (G.run A outer s H args us vs Q (fun _ _ _ => False) hr he hb hv ⟨fun _ _ _ z => z, q⟩) fun r s' hq => ?_
  cases r with
  | ok fl => cases fl <;> exact hq
  | error u =>
    obtain ⟨_, _, _, _, _, _, _, _, _, _, _, _, z⟩ := hq
    exact z.elim
end
/-- handed out by an exception -/
def outX (Xd : XP) : XD := fun C fs _ e => ∃ e', Sub e' e ∧ Xd C fs e'
theorem outX.self {Xd : XP} {C : Str} {fs : List (Str × V)} {dl : Sd} {e : Eta} (h : Xd C fs e) : outX Xd C fs dl e := ⟨e, .refl e, h⟩
theorem XRep.sub {K : PySem.W.Frag} {Z : Addr → Prop} {e e' : Eta} {H : Hp} {cls : Value} {d : Option Addr} {C : Str} {fs : List (Str × V)} (w : XRep K Z e H cls d C fs) (s : Sub e' e) : XRep K Z e' H cls d C fs :=
  ⟨w.nm, w.cls, let ⟨dd, a, b, c, g⟩ := w.dict; ⟨dd, a, b, s.none c, g⟩⟩
section
variable {P : Program} {w : World} {K : PySem.W.Frag} {mg : Str → Option Value} {base : Heap}
theorem fnX_ok {x qual : Str} {params : Arguments} {body : List Stmt} {scope : Scope} {f : Addr} {fd : FuncData} {N ps : List Str} {k : Nat} {sp : SpX} {dvs : List V} {kws : List (Str × V)} (F : FunD K x qual params body scope dvs kws f fd) (S : FnScope N ps scope) (len : ∀ ds e Q E, sp ds e Q E → ds.length = ps.length)
    {T : XD → TSD} (hbody : ∀ (cdv : Value) (A : Around) (outer : List Env) (s : Shared) (H : Hp) (E : XK) (xc : XD), Room k (A.deeper (envOfC qual scope s.heap.objs.size f cdv)) → DSs ⟨cxOf (CX P w) P w K mg base N qual scope f cdv A outer s H E, xc⟩ body (T xc))
    (hT : ∀ ds e Q E, sp ds e Q E → T (outX E) (endsD Q) (startD N ds) e) : FnX P w K mg base (k + 1) f fd ps sp := by
  refine F.ok S (fun vs H Q E h => ?_) (fun cdv A outer s H vs Q E hr h => ?_)
  · obtain ⟨Z, ds, e, Qd, Xd, r, _, sp, _⟩ := h
    rw [r.length]; exact len _ _ _ _ sp
  · obtain ⟨Z, ds, e, Qd, Xd, r, h, sp, q, q2⟩ := h
    refine ⟨_, hbody cdv A outer s H E (outX Xd) hr, Z, _, e, _, ⟨start_rel r h, fun C fs cls d dl sg e1 H1 x s1 wx ⟨e', b, qq⟩ => ?_⟩, hT ds e Qd Xd sp, ⟨fun dl e1 sg H1 x s1 ⟨d', e', b, v, qq⟩ => ?_, fun d e1 v H1 x r1 h1 ⟨d', e', b, vw, qq⟩ => ?_, fun _ _ _ _ _ _ z => z.elim, fun _ _ _ _ _ _ z => z.elim⟩⟩
    · exact Takes.le (takes_of (X := cxOf (CX P w) P w K mg base N qual scope f cdv A outer s H E) (E := E) rfl rfl rfl rfl) (q2 C fs cls d H1 e' (x.trans b.ext) (wx.sub b) (s1.rel.sub b) qq)
    · exact q .non H1 d' e' (x.trans b.ext) (v.rep s1.rel b .non) (s1.rel.sub b) qq
    · exact q v H1 d' e' (x.trans b.ext) (vw.rep h1 b r1) (h1.sub b) qq
end

/-! ### calls -/
@[simp] def dCallX (xc : XD) (sp : SpX) (T : TDs) (dl : Sd) (e : Eta) (Q : D → Eta → Prop) : Prop := T dl e fun ds e1 => sp ds e1 Q fun C fs e2 => xc C fs dl e2
abbrev wE (X : Cx) (sg : L2.St) : XK := fun cls d H => Wmax X cls d sg H
theorem wPass (X : Cx) (sg : L2.St) : PassesAt (CX X.prog X.w) X sg (wE X sg) := fun _ _ _ u s' I c => takes_max X u s' (XE.of_call I (fun _ _ _ h => h) c)
/-- what a raising callee wants of what follows -/
theorem SRel.goX {X : Cy} {Z : Addr → Prop} {e e1 : Eta} {H H1 : Hp} {dl : Sd} {sg : L2.St} (s : SRel X.Y Z e H dl sg) (x1 : Ext e H e1 H1) : ∀ C fs cls d H' e', Ext e1 H1 e' H' → XRep X.K Z e' H' cls d C fs → HRel X.K Z e' H' → X.xc C fs dl e' → wE X.toCx sg cls d H' :=
  fun C fs cls d H' e' x2 w h q => s.exc C fs cls d dl sg e' H' (x1.trans x2) (s.toSR0.ext (x1.trans x2) h) w q
/-- no field bears the name -/
def NoF (m : Str) (fs : List (Str × D)) : Prop := fs.lookup m = none
/-- o's method, of an instance of C -/
@[simp] def dMeth (C m : Str) (sp : SpD) (A : TD) (T : TDs) (dl : Sd) (e : Eta) (Q : D → Eta → Prop) : Prop := A dl e fun x e1 => onSome (insD e1 C x) fun fs => NoF m fs ∧ T dl e1 fun ys e2 => sp (x :: ys) e2 Q
@[simp] def dMethX (xc : XD) (C m : Str) (sp : SpX) (A : TD) (T : TDs) (dl : Sd) (e : Eta) (Q : D → Eta → Prop) : Prop := A dl e fun x e1 => onSome (insD e1 C x) fun fs => NoF m fs ∧ T dl e1 fun ys e2 => sp (x :: ys) e2 Q fun C fs e3 => xc C fs dl e3
/-- a new instance -/
@[simp] def dMake (C : Str) (sp : SpD) (T : TDs) (dl : Sd) (e : Eta) (Q : D → Eta → Prop) : Prop := T dl e fun ds e1 => ∀ p, e1 p = none → sp (.ref p :: ds) (e1.put p (.ins C [])) fun d e2 => d = .non ∧ Q (.ref p) e2
section
variable {X : Cy} {a b o : Expr} {es : List Expr} {A B : TD} {T : TDs} {pos p apos : Pos} {x m C : Str} {k : Nat} {f : Addr} {fd : FuncData} {ps : List Str}
theorem d_callX {sp : SpX} (F : FnX X.prog X.w X.K X.mg X.base k f fd ps sp) (hr : Room k X.A) (hg : Gl X x) (hm : X.mg x = some (.ref f)) (hk : PySem.W.keepIn X.K (.ref f) = true) (hb : Binds X.K fd ps [])
    (ha : DA X (a :: es) T) (hdb : (x == ("__debug__" : Str)) = false := by decide) (he : starEach (a :: es) X.env = (false, eval a X.env) :: starEach es X.env := by rfl) (hpl : (backTo pos (starEach es X.env)).any (·.1) = false := by rfl) :
    DE X (.Call (.Name x p) (a :: es) [] pos) (dCallX X.xc sp T) := pe_imp (pe_callSD (E := wE X.toCx) F hr hg hm hk hb .nil (wPass X.toCx) ha hdb he hpl) (by
  rintro sg H Q ⟨Z, dl, e, Qd, s, t, k⟩
  refine lows.use s t fun vs H1 ds e1 x1 r1 h1 q1 => ?_
  rw [List.append_nil]
  exact ⟨Z, ds, e1, Qd, _, r1, h1, q1, fun v H' d e' x2 r2 h2 q2 => k v H' d e' (x1.trans x2) r2 h2 q2, s.goX x1⟩)
/-- f() -/
theorem d_call0 {sp : SpD} (F : FnD X.prog X.w X.K X.mg X.base k f fd ps sp) (hr : Room k X.A) (hg : Gl X x) (hm : X.mg x = some (.ref f)) (hk : PySem.W.keepIn X.K (.ref f) = true) (hb : Binds X.K fd ps [])
    (hdb : (x == ("__debug__" : Str)) = false := by decide) : DE X (.Call (.Name x p) [] [] pos) (dCall sp dNil) := pe_imp (pe_call0 F hr hg hm hk hb .nil pass0 hdb) (by
  rintro sg H Q ⟨Z, dl, e, Qd, s, t, k⟩
  exact ⟨Z, [], e, Qd, .nil, s.rel, t, fun v H' d e' x2 r2 h2 q2 => k v H' d e' x2 r2 h2 q2⟩)
theorem d_meth {sp : SpD} {pl : Sem Bool} (c : Cls X.K (He.ga X.K C)) (hm : Meth X.K (He.ga X.K C) m f) (F : FnD X.prog X.w X.K X.mg X.base k f fd ps sp) (hr : Room k X.A) (hb : Binds X.K fd ps []) (ho : DE X o A) (ha : DA X (a :: es) T)
    (hst : starEach (a :: es) X.env = (false, eval a X.env) :: starEach es X.env := by rfl) (hpl : (backTo pos (starEach es X.env)).any (·.1) = false := by rfl)
    (ht : eval (.Call (.Attribute o m apos) (a :: es) [] pos) X.env = (do
      let ov ← eval o X.env
      standAt apos.atName
      let (f, first) ← holding [ov] (getMethod ov m pl)
      callWith pos f first (backTo pos (starEach (a :: es) X.env)) (backToKw pos (keywordEach [] X.env))) := by rfl) :
    DE X (.Call (.Attribute o m apos) (a :: es) [] pos) (dMeth C m sp A T) := pe_imp (pe_meth (E := fun _ _ _ => False) (pl := pl) ho c hm F hr hb .nil pass0 ha hst hpl ht) (by
  rintro sg H Q ⟨Z, dl, e, Qd, s, t, k⟩
  refine low.use s t fun v H1 d e1 x1 r1 h1 q1 => ?_
  obtain ⟨fs, hf, hl, q1⟩ := onSome_ex q1
  obtain ⟨q, dx, vs, rfl, g1, g2⟩ := ins_at h1 r1 hf
  refine ⟨q, dx, vs, rfl, g1, g2.none hl, lows.use (s.ext x1 h1) q1 fun us H2 ds e2 x2 r2 h2 q2 => ?_⟩
  rw [List.append_nil]
  exact ⟨Z, _, e2, Qd, .cons (r1.ext x2) r2, h2, q2, fun v H' d e' x3 r3 h3 q3 => k v H' d e' (x1.trans (x2.trans x3)) r3 h3 q3⟩)
theorem d_meth0 {sp : SpD} {pl : Sem Bool} (c : Cls X.K (He.ga X.K C)) (hm : Meth X.K (He.ga X.K C) m f) (F : FnD X.prog X.w X.K X.mg X.base k f fd ps sp) (hr : Room k X.A) (hb : Binds X.K fd ps []) (ho : DE X o A)
    (ht : eval (.Call (.Attribute o m apos) [] [] pos) X.env = (do
      let ov ← eval o X.env
      standAt apos.atName
      let (f, first) ← holding [ov] (getMethod ov m pl)
      callWith pos f first (backTo pos (starEach [] X.env)) (backToKw pos (keywordEach [] X.env))) := by rfl) :
    DE X (.Call (.Attribute o m apos) [] [] pos) (dMeth C m sp A dNil) := pe_imp (pe_meth0 (E := fun _ _ _ => False) (pl := pl) ho c hm F hr hb .nil pass0 ht) (by
  rintro sg H Q ⟨Z, dl, e, Qd, s, t, k⟩
  refine low.use s t fun v H1 d e1 x1 r1 h1 q1 => ?_
  obtain ⟨fs, hf, hl, q1⟩ := onSome_ex q1
  obtain ⟨q, dx, vs, rfl, g1, g2⟩ := ins_at h1 r1 hf
  exact ⟨q, dx, vs, rfl, g1, g2.none hl, Z, _, e1, Qd, .cons r1 .nil, h1, q1, fun v H' d e' x3 r3 h3 q3 => k v H' d e' (x1.trans x3) r3 h3 q3⟩)
/-- .. that lets exceptions out -/
def tMethW (X : Cx) (C : Addr) (m : Str) (sp : Sp) (ta : TE) (t : TA) : TE := fun σ H Q => ta σ H fun x H1 => ∃ a dx fs, x = .ref a ∧ H1 a = some (.ins C dx fs) ∧ fs.lookup m = none ∧ t σ H1 fun vs H2 => sp (x :: vs) H2 Q (wE X σ)
theorem pe_methW {X : Cx} {pl : Sem Bool} {CA : Addr} {sp : Sp} {ta : TE} {t : TA} (he : PE X o ta) (c : Cls X.K CA) (hm : Meth X.K CA m f) (F : FnOk X.prog X.w X.K X.mg X.base (CX X.prog X.w) k f fd ps sp) (hr : Room k X.A) (hb : Binds X.K fd ps []) (ha : PA X (a :: es) t)
    (hst : starEach (a :: es) X.env = (false, eval a X.env) :: starEach es X.env := by rfl) (hpl : (backTo pos (starEach es X.env)).any (·.1) = false := by rfl)
    (ht : eval (.Call (.Attribute o m apos) (a :: es) [] pos) X.env = (do
      let ov ← eval o X.env
      standAt apos.atName
      let (f, first) ← holding [ov] (getMethod ov m pl)
      callWith pos f first (backTo pos (starEach (a :: es) X.env)) (backToKw pos (keywordEach [] X.env)))) :
    PE X (.Call (.Attribute o m apos) (a :: es) [] pos) (tMethW X CA m sp ta t) := ⟨fun pins s sg H Q I h => PySem.W.methodCall_KW (pl := pl) (thn (he.run pins s sg H _ I h) fun u s1 hu => by
  obtain ⟨x, H1, I1, rx, q, dx, fs, rfl, ea, l, hh⟩ := hu
  cases rx
  refine getmeth_ok I1 ea c hm l (PySem.W.callWith_K (first := [.ref q]) (h₀ := X.base) I1.ok.mod.kin hm.kp (thn (ha.run pos pins s1 sg H1 _ I1 hh) fun us s2 hv => ?_) hst hpl)
  obtain ⟨vs, H2, I2, r, q2⟩ := hv
  exact ⟨I2.kIn, run_fnSD (E := wE X) (dvs := []) (ds := []) (vs := .ref q :: vs) F hr hb .nil (wPass X sg) I2 (.cons rfl r) (by rw [List.append_nil]; exact q2)⟩) ht⟩
theorem pe_methW0 {X : Cx} {pl : Sem Bool} {CA : Addr} {sp : Sp} {ta : TE} (he : PE X o ta) (c : Cls X.K CA) (hm : Meth X.K CA m f) (F : FnOk X.prog X.w X.K X.mg X.base (CX X.prog X.w) k f fd ps sp) (hr : Room k X.A) (hb : Binds X.K fd ps [])
    (ht : eval (.Call (.Attribute o m apos) [] [] pos) X.env = (do
      let ov ← eval o X.env
      standAt apos.atName
      let (f, first) ← holding [ov] (getMethod ov m pl)
      callWith pos f first (backTo pos (starEach [] X.env)) (backToKw pos (keywordEach [] X.env)))) :
    PE X (.Call (.Attribute o m apos) [] [] pos) (tMethW X CA m sp ta tNil) := ⟨fun pins s sg H Q I h => PySem.W.methodCall_KW (pl := pl) (thn (he.run pins s sg H _ I h) fun u s1 hu => by
  obtain ⟨x, H1, I1, rx, q, dx, fs, rfl, ea, l, hh⟩ := hu
  cases rx
  exact getmeth_ok I1 ea c hm l (PySem.W.callWith_K0 (first := [.ref q]) I1.kIn hm.kp (run_fnSD (E := wE X) (dvs := []) (ds := []) (vs := [.ref q]) F hr hb .nil (wPass X sg) I1 (.cons rfl .nil) (by rw [List.append_nil]; exact hh)))) ht⟩
theorem d_methX {sp : SpX} {pl : Sem Bool} (c : Cls X.K (He.ga X.K C)) (hm : Meth X.K (He.ga X.K C) m f) (F : FnX X.prog X.w X.K X.mg X.base k f fd ps sp) (hr : Room k X.A) (hb : Binds X.K fd ps []) (ho : DE X o A) (ha : DA X (a :: es) T)
    (hst : starEach (a :: es) X.env = (false, eval a X.env) :: starEach es X.env := by rfl) (hpl : (backTo pos (starEach es X.env)).any (·.1) = false := by rfl)
    (ht : eval (.Call (.Attribute o m apos) (a :: es) [] pos) X.env = (do
      let ov ← eval o X.env
      standAt apos.atName
      let (f, first) ← holding [ov] (getMethod ov m pl)
      callWith pos f first (backTo pos (starEach (a :: es) X.env)) (backToKw pos (keywordEach [] X.env))) := by rfl) :
    DE X (.Call (.Attribute o m apos) (a :: es) [] pos) (dMethX X.xc C m sp A T) := pe_imp (pe_methW (pl := pl) ho c hm F hr hb ha hst hpl ht) (by
  rintro sg H Q ⟨Z, dl, e, Qd, s, t, k⟩
  refine low.use s t fun v H1 d e1 x1 r1 h1 q1 => ?_
  obtain ⟨fs, hf, hl, q1⟩ := onSome_ex q1
  obtain ⟨q, dx, vs, rfl, g1, g2⟩ := ins_at h1 r1 hf
  refine ⟨q, dx, vs, rfl, g1, g2.none hl, lows.use (s.ext x1 h1) q1 fun us H2 ds e2 x2 r2 h2 q2 => ?_⟩
  exact ⟨Z, _, e2, Qd, _, .cons (r1.ext x2) r2, h2, q2, fun v H' d e' x3 r3 h3 q3 => k v H' d e' (x1.trans (x2.trans x3)) r3 h3 q3, s.goX (x1.trans x2)⟩)
theorem d_methX0 {sp : SpX} {pl : Sem Bool} (c : Cls X.K (He.ga X.K C)) (hm : Meth X.K (He.ga X.K C) m f) (F : FnX X.prog X.w X.K X.mg X.base k f fd ps sp) (hr : Room k X.A) (hb : Binds X.K fd ps []) (ho : DE X o A)
    (ht : eval (.Call (.Attribute o m apos) [] [] pos) X.env = (do
      let ov ← eval o X.env
      standAt apos.atName
      let (f, first) ← holding [ov] (getMethod ov m pl)
      callWith pos f first (backTo pos (starEach [] X.env)) (backToKw pos (keywordEach [] X.env))) := by rfl) :
    DE X (.Call (.Attribute o m apos) [] [] pos) (dMethX X.xc C m sp A dNil) := pe_imp (pe_methW0 (pl := pl) ho c hm F hr hb ht) (by
  rintro sg H Q ⟨Z, dl, e, Qd, s, t, k⟩
  refine low.use s t fun v H1 d e1 x1 r1 h1 q1 => ?_
  obtain ⟨fs, hf, hl, q1⟩ := onSome_ex q1
  obtain ⟨q, dx, vs, rfl, g1, g2⟩ := ins_at h1 r1 hf
  exact ⟨q, dx, vs, rfl, g1, g2.none hl, Z, _, e1, Qd, _, .cons r1 .nil, h1, q1, fun v H' d e' x3 r3 h3 q3 => k v H' d e' (x1.trans x3) r3 h3 q3, s.goX x1⟩)
/-- a fresh instance stands as a cell -/
theorem HRel.made {K : PySem.W.Frag} {Z : Addr → Prop} {e : Eta} {H : Hp} (h : HRel K Z e H) {p dx : Addr} {C : Str} (hp : H p = none) (hd : H dx = none) (ne : dx ≠ p) :
    Ext e H (e.put p (.ins C [])) (upd (upd H dx (.own p)) p (.ins (He.ga K C) dx [])) ∧ HRel K Z (e.put p (.ins C [])) (upd (upd H dx (.own p)) p (.ins (He.ga K C) dx [])) := by
  obtain ⟨x1, h1⟩ := h.junk (u := .own p) hd
  have hp' : upd H dx (.own p) p = none := by rw [upd_ne ne.symm]; exact hp
  obtain ⟨x2, h2⟩ := h1.newc (u := .ins (He.ga K C) dx []) (o := .ins C []) hp' fun _ _ => ⟨dx, [], upd_same, .nil⟩
  exact ⟨x1.trans x2, h2⟩
theorem d_make0 {sp : SpD} (M : Mk X.K (He.ga X.K C) f) (F : FnD X.prog X.w X.K X.mg X.base k f fd ps sp) (hr : Room (k + 1) X.A) (hg : Gl X C) (hm : X.mg C = some (.ref (He.ga X.K C))) (hb : Binds X.K fd ps []) (hdb : (C == ("__debug__" : Str)) = false := by decide) :
    DE X (.Call (.Name C p) [] [] pos) (dMake C sp dNil) := pe_imp (pe_make0 (E := fun _ _ _ => False) M F hr hg hm hb .nil pass0 hdb) (by
  rintro sg H Q ⟨Z, dl, e, Qd, s, t, k⟩ q dx hq hdx ne
  obtain ⟨x1, h1⟩ := s.rel.made (C := C) hq hdx ne
  refine ⟨Z, _, _, _, .cons (.ref q) .nil, h1, t q (s.rel.free hq).1, fun v H' d e' x2 r2 h2 q2 => ?_⟩
  obtain ⟨rfl, q2⟩ := q2
  cases r2
  exact ⟨rfl, k _ H' _ e' (x1.trans x2) (.ref q) h2 q2⟩)
end
end FL

set_option Elab.async false
set_option linter.all false
set_option maxRecDepth 100000
set_option maxHeartbeats 4000000
/-! raise of an own exception; try .. except without a name. -/
namespace FL
open PySem PySem.Spec PyProof.Rows L2

/-! ### own exceptions -/
/-- is C a class under c -/
def isX (C c : Str) : Bool := decide (C = c) || decide (c = "FenError")
/-- __init__ of a class without arguments: self.word = w -/
def spEx (K : PySem.W.Frag) (C : Addr) (w : Str) : Sp := fun vs H Q _ => ∃ a, vs = [.ref a] ∧ H a = some (exo a C none) ∧ OexC K C ∧ PySem.W.findIn K (.ref C) "word" = some none ∧
  ∀ dx, H dx = none → dx ≠ a → Q .non (upd (upd H dx (exd dx [("word", .str w)])) a (exo a C (some dx)))
section
variable {P : Program} {w : World} {K : PySem.W.Frag} {mg : Str → Option Value} {base : Heap}
theorem exInit_ok {x qual z : Str} {C : Addr} {params : Arguments} {body : List Stmt} {scope : Scope} {f : Addr} {fd : FuncData} {dvs : List V} {kws : List (Str × V)} (F : FunD K x qual params body scope dvs kws f fd) (S : FnScope ["self"] ["self"] scope)
    (hb : ∀ (cdv : Value) (A : Around) (outer : List Env) (s : Shared) (H : Hp) (E : XK), PSs (cxOf CX0 P w K mg base ["self"] qual scope f cdv A outer s H E) body (tOst K "word" (tVar 0) (tC (.str z)))) : FnOk P w K mg base CX0 1 f fd ["self"] (spEx K C z) :=
  F.ok S (fun vs H Q E ⟨a, h, _⟩ => by rw [h]; rfl) fun cdv A outer s H vs Q E hr ⟨a, ev, ha, T, hno, k⟩ => ⟨_, hb cdv A outer s H E, by
    subst ev
    exact ⟨.ref a, rfl, a, C, rfl, T, hno, .inl ⟨ha, fun dx n ne => k dx n ne⟩⟩⟩
end
section
variable {X : Cx} {x : Str} {C fI : Addr} {k : Nat} {fd : FuncData} {z : Str} {p pos : Pos}
/-- C(), where __init__ takes no argument -/
theorem pmk_ex0 (T : OexC X.K C) (hno : PySem.W.findIn X.K (.ref C) "word" = some none) (iC : PySem.W.findIn X.K (.ref C) "__init__" = some (some (.ref fI))) (tI : PySem.W.typeIn X.K (.ref fI) = some (.type "function"))
    (F : FnOk X.prog X.w X.K X.mg X.base CX0 k fI fd ["self"] (spEx X.K C z)) (hr : Room (k + 1) X.A) (hb : Binds X.K fd ["self"] []) (hg : Gl X x) (hm : X.mg x = some (.ref C)) (hdb : (x == ("__debug__" : Str)) = false := by decide) :
    PMk X (.Call (.Name x p) [] [] pos) (fun _ H Q => ∀ d, H d = none → Q (.ref C) (some d) (upd H d (.xd [("word", .str z)]))) := fun pins s sg H Q I h => by
  obtain ⟨nm, q, N, bs, bm, sn, sub, ab, col, dd, k0, k1, k2, k3, k5, hC, hbm⟩ := T.cls
  refine wpAny_Call_Name_kw (ld_glob I hg hm ?_ hdb)
  refine PySem.W.callWith_K0 I.kIn T.kC ?_
  show wpAny _ _ (call (.ref C) []) _ _ _
  obtain ⟨hp, gs, dr, tk, os⟩ := s
  have szl : hp.objs.size ≤ hp.objs.size + 1 := Nat.le_succ _
  have fresh : H (hp.objs.size + 1) = none := I.hok.fresh szl
  have grow : ∀ b o, hp.get? b = some o → ((hp.push (PySem.W.kdv_tup [])).push (PySem.HandSPX.excO C hp.objs.size)).get? b = some o := fun b o e => Heap.get?_push_of_some _ (Heap.get?_push_of_some _ e)
  have at1 : ((hp.push (PySem.W.kdv_tup [])).push (PySem.HandSPX.excO C hp.objs.size)).get? (hp.objs.size + 1) = some (PySem.HandSPX.excO C hp.objs.size) := by heap_get
  have J : Inv X pins sg (upd H (hp.objs.size + 1) (exo (hp.objs.size + 1) C none)) ⟨(hp.push (PySem.W.kdv_tup [])).push (PySem.HandSPX.excO C hp.objs.size), gs, dr, tk, os⟩ :=
    I.laid (t' := tk) (o := exo (hp.objs.size + 1) C none) grow szl (exo_ok at1)
  have rv : Vals [V.ref (hp.objs.size + 1)] [Value.ref (hp.objs.size + 1)] := .cons rfl .nil
  have hq : spEx X.K C z [.ref (hp.objs.size + 1)] (upd H (hp.objs.size + 1) (exo (hp.objs.size + 1) C none)) (fun v H2 => v = .non ∧ ∃ (d : Addr) (fs : List (Str × V)), H2 (hp.objs.size + 1) = some (exo (hp.objs.size + 1) C (some d)) ∧ H2 d = some (exd d fs) ∧ H d = none ∧ Q (.ref C) (some d) (upd (L2.del H2 (hp.objs.size + 1)) d (.xd fs))) (fun _ _ _ => False) := by
    refine ⟨_, rfl, upd_same, T, hno, fun dx n ne => ⟨rfl, dx, [("word", .str z)], upd_same, by rw [upd_ne ne, upd_same], by rw [upd_ne ne] at n; exact n, ?_⟩⟩
    have n' : H dx = none := by rw [upd_ne ne] at n; exact n
    have e : upd (L2.del (upd (upd (upd H (hp.objs.size + 1) (exo (hp.objs.size + 1) C none)) dx (exd dx [("word", .str z)])) (hp.objs.size + 1) (exo (hp.objs.size + 1) C (some dx))) (hp.objs.size + 1)) dx (.xd [("word", .str z)]) = upd H dx (.xd [("word", .str z)]) := by
      funext b
      by_cases h1 : b = dx
      · subst h1; rw [upd_same, upd_same]
      · rw [upd_ne h1, upd_ne h1]
        by_cases h2 : b = hp.objs.size + 1
        · subst h2; rw [L2.del_same, fresh]
        · rw [L2.del_ne h2, upd_ne h2, upd_ne h1, upd_ne h2]
    rw [e]
    exact h dx n'
  refine wpAny_call (PySem.HandSPX.call_own PySem.F.excBase_ValueError (fun Y => PySem.HandSPX.refsVE_contains Y bm hbm) (I.kIn _ _ hC) (PySem.W.looks_findIn I.kIn iC) (fun self => PySem.W.bind_fn I.kIn self tI) (Nat.zero_le _) ?_)
  refine codeAny_mono (F.run _ X.stack _ _ ⟨[Value.ref (hp.objs.size + 1)], []⟩ [Value.ref (hp.objs.size + 1)] _ _ (fun _ _ _ => False) (hr.make C [] []) (J.env0.make C [] []) (hb _ [Value.ref (hp.objs.size + 1)] J.kIn rfl) rv hq) fun r s' hr' => ?_
  cases r with
  | error er => exact hr'.elim
  | ok fl =>
    cases fl with
    | ret u =>
      obtain ⟨v, H2, os2, bare2, un2, hok2, rv2, ev, d, fs, ea, ed, hd1, q2⟩ := hr'
      subst ev
      obtain ⟨h2, g2, d2, t2, os'⟩ := s'
      exact ⟨rv2, mk_end (raises_own T.exC T.tyC) I szl grow un2 hok2 os2 bare2 ea ed hd1 q2⟩
    | next => exact False.elim hr'
    | brk => exact False.elim hr'
    | cont => exact False.elim hr'
end
/-- raise C() -/
@[simp] def dRaise (xc : XD) (C : Str) (_ : EndsD) (dl : Sd) (e : Eta) : Prop := xc C [("word", .str C)] dl e
/-- what is known of an exception's class -/
structure ExK (K : PySem.W.Frag) (C : Str) (fI : Addr) : Prop where
  nm : XNm K C
  ox : OexC K (He.ga K C)
  no : PySem.W.findIn K (.ref (He.ga K C)) "word" = some none
  init : PySem.W.findIn K (.ref (He.ga K C)) "__init__" = some (some (.ref fI))
  fn : PySem.W.typeIn K (.ref fI) = some (.type "function")
section
variable {X : Cy} {C : Str} {fI : Addr} {k : Nat} {fd : FuncData} {p pos pos' : Pos}
theorem ds_raise0 (T : ExK X.K C fI) (hc : X.calm = true) (F : FnOk X.prog X.w X.K X.mg X.base CX0 k fI fd ["self"] (spEx X.K (He.ga X.K C) C)) (hr : Room (k + 1) X.A) (hb : Binds X.K fd ["self"] []) (hg : Gl X C) (hm : X.mg C = some (.ref (He.ga X.K C)))
    (hdb : (C == ("__debug__" : Str)) = false := by decide) : DS X (.Raise (some (.Call (.Name C p) [] [] pos)) none pos') (dRaise X.xc C) :=
  ps_imp (ps_raise hc (takes_max X.toCx) (pmk_ex0 T.ox T.no T.init T.fn F hr hb hg hm hdb)) (by
    rintro F sg H ⟨Z, dl, e, E, s, t, k⟩ d hd
    obtain ⟨x1, h1⟩ := s.rel.junk (u := .xd [("word", .str C)]) hd
    exact s.exc C _ _ _ dl sg e _ x1 (s.toSR0.ext x1 h1) ⟨T.nm, rfl, d, rfl, (s.rel.free hd).2, (s.rel.free hd).1, upd_same⟩ t)
/-- a statement that is never reached -/
@[simp] def dNever (_ : EndsD) (_ : Sd) (_ : Eta) : Prop := False
theorem ds_never {st : Stmt} : DS X st dNever := ⟨fun _ _ _ _ _ _ ⟨_, _, _, _, _, t, _⟩ => t.elim⟩
end
/-! ### try: body, except c: suite -/
theorem lowS.le {X : Cx} {W : WX} {xc : XD} {T : TSD} (tk : Takes X W) {F : Ends} {sg : L2.St} {H : Hp} (h : lowS ⟨X.K, W, xc⟩ T F sg H) : lowS ⟨X.K, Wmax X, xc⟩ T F sg H := by
  obtain ⟨Z, dl, e, E, s, t, k⟩ := h
  have up : ∀ {e : Eta} {H : Hp} {dl : Sd} {sg : L2.St}, SRel ⟨X.K, Wmax X, xc⟩ Z e H dl sg → ExcR ⟨X.K, W, xc⟩ Z e H → SRel ⟨X.K, W, xc⟩ Z e H dl sg := fun s r => ⟨s.toSR0, r⟩
  exact ⟨Z, dl, e, E, ⟨s.toSR0, fun C fs cls d dl' sg' e' H' x s' w q => Takes.le tk (s.exc C fs cls d dl' sg' e' H' x s' w q)⟩, t,
    ⟨fun dl' e' sg' H' x s' q => k.nx dl' e' sg' H' x (up s' (s.exc.ext x)) q, k.rt, fun dl' e' sg' H' x s' q => k.bk dl' e' sg' H' x (up s' (s.exc.ext x)) q, fun dl' e' sg' H' x s' q => k.ct dl' e' sg' H' x (up s' (s.exc.ext x)) q⟩⟩
/-- an exception of class C leaves the body: the suite, or on and out -/
@[simp] def tryX (c : Str) (xc : XD) (S : Sd → Eta → Prop) : XD := fun C fs dl e => if isX C c = true then S dl e else xc C fs dl e
@[simp] def dTry (xc : XD) (c : Str) (B : XD → TSD) (S : TSD) (E : EndsD) (dl : Sd) (e : Eta) : Prop := B (tryX c xc (S E)) E dl e
section
variable {X : Cy} {c : Str} {body suite : List Stmt} {b0 : Stmt} {np pos pos' : Pos} {B : XD → TSD} {S : TSD}
theorem ds_try (hs : X.stack = X.env :: X.outer) (hf : X.env.frame = some X.env.locals) (hc : Names X c (.ref (He.ga X.K c))) (hx : ∀ C, XNm X.K C → PySem.W.exmOne X.K (.ref (He.ga X.K C)) (.ref (He.ga X.K c)) = some (isX C c))
    (hb : ∀ (pn : List (Addr × Obj)) (xe : Value → Shared → Prop) (xc : XD), PassesOwn (model X.prog X.w) X.A X.env xe → DSs ⟨X.toCx.tr pn xe, xc⟩ body (B xc))
    (hsu : ∀ (a : Addr) (oe : Obj) (pn : List (Addr × Obj)), DSs ⟨X.toCx.suite a ((a, oe) :: pn), noX⟩ (b0 :: suite) S) :
    DS X (.Try body [.ExceptHandler (some (.Name c np)) none (b0 :: suite) pos'] [] [] pos) (dTry X.xc c B S) :=
  ps_imp (ps_try_only hs hf hc (takes_max X.toCx) (tb := fun W F sg H => ∃ xc', lowS ⟨X.K, W, xc'⟩ (B xc') F sg H) (ts := fun _ _ _ F sg H => lowS (Yn X.K) S F sg H)
    (fun W pn xe tk po => ⟨fun pins s sg H F I ⟨xc', h⟩ => (hb pn xe xc' po).run pins s sg H F I (lowS.le tk h)⟩)
    (fun a oe cls d pn hz hf => pss_imp (hsu a oe pn) fun F sg H ⟨Z, dl, e, E, s, t, k⟩ => ⟨Z, dl, e, E, s.noX, t, ⟨fun dl' e' sg' H' x s' q => k.nx dl' e' sg' H' x s'.noX q, k.rt, fun dl' e' sg' H' x s' q => k.bk dl' e' sg' H' x s'.noX q, fun dl' e' sg' H' x s' q => k.ct dl' e' sg' H' x s'.noX q⟩⟩)) (by
    rintro F sg H ⟨Z, dl, e, E, s, t, k⟩
    refine ⟨_, Z, dl, e, E, ⟨s.toSR0, fun C fs cls d dl' sg' e' H' x s' w q => ?_⟩, t, ?_⟩
    · have q : (if isX C c = true then S E dl' e' else X.xc C fs dl' e') := q
      refine ⟨isX C c, by rw [w.cls]; exact hx C w.nm, fun hb a _ => ?_, fun hb => ?_⟩
      · rw [if_pos hb] at q
        exact ⟨Z, dl', e', E, ⟨s', .no⟩, q, ⟨fun dl2 e2 sg2 H2 x2 s2 q2 => k.nx dl2 e2 sg2 H2 (x.trans x2) ⟨s2.toSR0, s.exc.ext (x.trans x2)⟩ q2, fun d2 e2 v2 H2 x2 => k.rt d2 e2 v2 H2 (x.trans x2), fun dl2 e2 sg2 H2 x2 s2 q2 => k.bk dl2 e2 sg2 H2 (x.trans x2) ⟨s2.toSR0, s.exc.ext (x.trans x2)⟩ q2, fun dl2 e2 sg2 H2 x2 s2 q2 => k.ct dl2 e2 sg2 H2 (x.trans x2) ⟨s2.toSR0, s.exc.ext (x.trans x2)⟩ q2⟩⟩
      · rw [hb, if_neg Bool.false_ne_true] at q
        exact s.exc C fs cls d dl' sg' e' H' x s' w q
    · exact ⟨fun dl2 e2 sg2 H2 x2 s2 q2 => k.nx dl2 e2 sg2 H2 x2 ⟨s2.toSR0, s.exc.ext x2⟩ q2, k.rt, fun dl2 e2 sg2 H2 x2 s2 q2 => k.bk dl2 e2 sg2 H2 x2 ⟨s2.toSR0, s.exc.ext x2⟩ q2, fun dl2 e2 sg2 H2 x2 s2 q2 => k.ct dl2 e2 sg2 H2 x2 ⟨s2.toSR0, s.exc.ext x2⟩ q2⟩)
/-- .. whose body lets none out -/
theorem ds_tryN {T : TSD} {h0 : ExceptHandler} {hs : List ExceptHandler} (hb : DSs ⟨X.toCx.nox, noX⟩ body T) : DS X (.Try body (h0 :: hs) [] [] pos) T :=
  ps_imp (ps_try_thru0 hb) fun F sg H ⟨Z, dl, e, E, s, t, k⟩ => ⟨Z, dl, e, E, ⟨s.toSR0, .no⟩, t, ⟨fun dl2 e2 sg2 H2 x2 s2 q2 => k.nx dl2 e2 sg2 H2 x2 ⟨s2.toSR0, s.exc.ext x2⟩ q2, k.rt, fun dl2 e2 sg2 H2 x2 s2 q2 => k.bk dl2 e2 sg2 H2 x2 ⟨s2.toSR0, s.exc.ext x2⟩ q2, fun dl2 e2 sg2 H2 x2 s2 q2 => k.ct dl2 e2 sg2 H2 x2 ⟨s2.toSR0, s.exc.ext x2⟩ q2⟩⟩
end
end FL

set_option Elab.async false
set_option linter.all false
set_option maxRecDepth 100000
set_option maxHeartbeats 4000000
/-! What the text says of an own exception's class, decided. -/
namespace FL
open PySem PySem.Spec PyProof.Rows L2
/-- the class's object, as an exception's class over ValueError stands -/
def oexB (K : PySem.W.Frag) (C : Addr) : Bool := match K.lookup C with
  | some ⟨c, _, .cls cd, sl⟩ => decide (c = .type "type") && (decide (cd.mro = .ref C :: cd.mro.tail) && (PySem.HandSPX.refsVE cd.mro.tail && (cd.hasDict && (!cd.hasDel && (decide (sl.size = 6) && decide (sl[4]? = some (some (.builtin "ValueError.__new__"))))))))
  | _ => false
theorem six {sl : Array (Option Value)} (h : sl.size = 6) {v : Option Value} (h4 : sl[4]? = some v) : ∃ k0 k1 k2 k3 k5, sl = #[k0, k1, k2, k3, v, k5] := by
  obtain ⟨l⟩ := sl
  match l, h with
  | [k0, k1, k2, k3, k4, k5], _ =>
    have h4 : some k4 = some v := h4
    cases h4
    exact ⟨k0, k1, k2, k3, k5, rfl⟩
/-- all that is asked of an exception's class -/
def exkB (K : PySem.W.Frag) (x : Str) : Bool := He.eqO (PySem.W.nsIn K mainGlobals x) (some (some (.ref (He.ga K x)))) && (oexB K (He.ga K x) && (He.eqO (PySem.W.findIn K (.ref (He.ga K x)) "__setattr__") (some (some (.builtin "object.__setattr__"))) &&
  (decide (PySem.W.subIn K (.ref (He.ga K x)) (.type "BaseException") = some true) && (decide (PySem.W.typeIn K (.ref (He.ga K x)) = some (.type "type")) && (PySem.W.keepIn K (.ref (He.ga K x)) && (He.eqO (PySem.W.findIn K (.ref (He.ga K x)) "word") (some none) &&
  (He.eqO (PySem.W.findIn K (.ref (He.ga K x)) "__init__") (some (some (.ref (He.fAd K (x, some "__init__"))))) && decide (PySem.W.typeIn K (.ref (He.fAd K (x, some "__init__"))) = some (.type "function")))))))))
theorem exkB_ok {K : PySem.W.Frag} {x : Str} (h : exkB K x = true) (hx : x ∈ excNames) : ExK K x (He.fAd K (x, some "__init__")) := by
  obtain ⟨h1, h⟩ := He.ba h
  obtain ⟨h2, h⟩ := He.ba h
  obtain ⟨h3, h⟩ := He.ba h
  obtain ⟨h4, h⟩ := He.ba h
  obtain ⟨h5, h⟩ := He.ba h
  obtain ⟨h6, h⟩ := He.ba h
  obtain ⟨h7, h⟩ := He.ba h
  obtain ⟨h8, h9⟩ := He.ba h
  refine ⟨⟨hx, He.eqO_ok h1⟩, ⟨?_, He.eqO_ok h3, of_decide_eq_true h4, of_decide_eq_true h5, h6⟩, He.eqO_ok h7, He.eqO_ok h8, of_decide_eq_true h9⟩
  unfold oexB at h2
  split at h2
  · rename_i c dd cd sl ho
    obtain ⟨a1, h2⟩ := He.ba h2
    obtain ⟨a2, h2⟩ := He.ba h2
    obtain ⟨a3, h2⟩ := He.ba h2
    obtain ⟨a4, h2⟩ := He.ba h2
    obtain ⟨a5, h2⟩ := He.ba h2
    obtain ⟨a6, a7⟩ := He.ba h2
    obtain ⟨k0, k1, k2, k3, k5, rfl⟩ := six (of_decide_eq_true a6) (of_decide_eq_true a7)
    obtain ⟨nm, bs, mro, ns, qn, hd, sn, sb, ab, col, dl⟩ := cd
    have e1 : c = .type "type" := of_decide_eq_true a1
    have e2 : mro = .ref (He.ga K x) :: mro.tail := of_decide_eq_true a2
    have e4 : hd = true := a4
    have e5 : dl = false := by
      cases dl with
      | false => rfl
      | true => cases a5
    subst e1 e4 e5
    refine ⟨nm, qn, ns, bs, mro.tail, sn, sb, ab, col, dd, k0, k1, k2, k3, k5, ?_, a3⟩
    rw [ho]
    show some (Obj.mk (.type "type") dd (.cls ⟨nm, bs, mro, ns, qn, true, sn, sb, ab, col, false⟩) _) = some (Obj.mk (.type "type") dd (.cls ⟨nm, bs, .ref (He.ga K x) :: mro.tail, ns, qn, true, sn, sb, ab, col, false⟩) _)
    rw [← e2]
  · cases h2
/-- what an except clause tells of every exception's class -/
def clauseB (K : PySem.W.Frag) (c : Str) : Bool := excNames.all fun C => He.eqO (PySem.W.nsIn K mainGlobals C) (some none) || decide (PySem.W.exmOne K (.ref (He.ga K C)) (.ref (He.ga K c)) = some (isX C c))
theorem clauseB_ok {K : PySem.W.Frag} {c : Str} (h : clauseB K c = true) : ∀ C, XNm K C → PySem.W.exmOne K (.ref (He.ga K C)) (.ref (He.ga K c)) = some (isX C c) := fun C ⟨h1, h2⟩ => by
  have z := List.all_eq_true.mp h C h1
  rcases Bool.or_eq_true_iff.mp z with z | z
  · have := He.eqO_ok z
    rw [h2] at this; cases this
  · exact of_decide_eq_true z
end FL

set_option Elab.async false
set_option linter.all false
set_option maxRecDepth 100000
set_option maxHeartbeats 4000000
/-! Module constants, pop, index of data, join, split, str, displays and copies of dicts, walks over dicts. -/
namespace FL
open PySem PySem.Spec PyProof.Rows L2
section
variable {X : Cy} {o a b : Expr} {es : List Expr} {A B : TD} {T : TDs} {pos p apos cpos : Pos} {x : Str}
/-! ### constants of the module -/
theorem d_globI {i : Int} (hg : Gl X x) (hm : ∃ t, X.mg x = some (.int i t)) (hd : (x == ("__debug__" : Str)) = false := by decide) : DE X (.Name x pos) (dC (.int i)) := by
  obtain ⟨t, ht⟩ := hm
  exact d_const (pe_glob (v := .int i) hg ht ⟨t, rfl⟩ hd) (.int i)
theorem d_globS {z : Str} (hg : Gl X x) (hm : ∃ t, X.mg x = some (.str z t)) (hd : (x == ("__debug__" : Str)) = false := by decide) : DE X (.Name x pos) (dC (.str z)) := by
  obtain ⟨t, ht⟩ := hm
  exact d_const (pe_glob (v := .str z) hg ht ⟨t, rfl⟩ hd) (.str z)
/-! ### list.pop -/
theorem RepL.last {K : PySem.W.Frag} {Z : Addr → Prop} {e : Eta} {H : Hp} {vs : List V} {ds : List D} {d : D} (r : RepL K Z e H vs ds) (h : ds.getLast? = some d) : ∃ v, vs[vs.length - 1]? = some v ∧ Rep K Z e H v d := by
  rw [List.getLast?_eq_getElem?, ← r.length] at h
  exact r.get h
@[simp] def rPopL : RM := fun x ys e Q => onR x fun p => ys = [] ∧ onSome (lstO (e p)) fun ds => onSome ds.getLast? fun y => Q y (e.put p (.lst ds.dropLast))
theorem ad_popL {K : PySem.W.Frag} : AdM K rPop rPopL := by
  intro Z e H x d xs ds Qd Q h r rl q k
  obtain ⟨p, rfl, e0, q1⟩ := onR_ex q
  clear q
  subst e0
  obtain ⟨ls, hp, q2⟩ := onSome_ex q1
  obtain ⟨y, hy, q⟩ := onSome_ex q2
  cases r; cases rl
  obtain ⟨vs, g1, g2⟩ := h.cell _ _ (lstO_ex hp)
  obtain ⟨v, hv, rv⟩ := g2.last hy
  obtain ⟨x1, x2⟩ := Rep.set_cell h (lstO_ex hp) g2.dropLast
  exact ⟨p, vs, v, rfl, rfl, g1, hv, k _ _ _ _ x1 (rv.ext x1) x2 q⟩
theorem d_popL (ho : DE X o A) (hbase : attributeBase o "pop" X.env (eval o X.env) = eval o X.env := by rfl) (hline : (apos.endLine == cpos.line) = true := by rfl) :
    DE X (.Call (.Attribute o "pop" apos) [] [] cpos) (dMth rPopL A dNil) := d_mth0 PySem.F.slot_list_pop PySem.F.type_list_pop mt_pop ad_popL ho hbase hline
@[simp] def rPopI : RM := fun x ys e Q => onR x fun p => one ys fun y => onI y fun i => 0 ≤ i ∧ i < 2 ^ 63 ∧ onSome (lstO (e p)) fun ds => onSome ds[i.toNat]? fun y => Q y (e.put p (.lst (ds.eraseIdx i.toNat)))
theorem ad_popI {K : PySem.W.Frag} : AdM K rPopAt rPopI := by
  intro Z e H x d xs ds Qd Q h r rl q k
  obtain ⟨p, rfl, q⟩ := onR_ex q
  obtain ⟨z, rfl, q⟩ := one_ex q
  obtain ⟨i, rfl, i0, i1, q⟩ := onI_ex q
  obtain ⟨ls, hp, q⟩ := onSome_ex q
  obtain ⟨y, hy, q⟩ := onSome_ex q
  cases r
  obtain ⟨w, rfl, rw'⟩ := rl.one
  cases rw'
  obtain ⟨vs, g1, g2⟩ := h.cell _ _ (lstO_ex hp)
  obtain ⟨v, hv, rv⟩ := g2.get hy
  obtain ⟨x1, x2⟩ := Rep.set_cell h (lstO_ex hp) (g2.eraseIdx i.toNat)
  have lt : i.toNat < vs.length := (List.getElem?_eq_some_iff.mp hv).1
  exact ⟨p, vs, i, i.toNat, v, rfl, rfl, g1, by omega, i1, seqIndex_of i0 (by omega), hv, k _ _ _ _ x1 (rv.ext x1) x2 q⟩
theorem d_popI (ho : DE X o A) (ha : DE X a B) (he : starEach [a] X.env = (false, eval a X.env) :: starEach [] X.env := by rfl) (hbase : attributeBase o "pop" X.env (eval o X.env) = eval o X.env := by rfl) (hline : (apos.endLine == cpos.line) = true := by rfl)
    (few : ((backTo cpos (starEach [a] X.env)).all (fun x => !x.1) && (backToKw cpos (keywordEach [] X.env)).all (fun x => x.1.isSome) && decide ([a].length + ([] : List Keyword).length + (if ([] : List Keyword).isEmpty then 0 else 1) < 30)) = true := by rfl) (plain : (backTo cpos (starEach [] X.env)).any (·.1) = false := by rfl) :
    DE X (.Call (.Attribute o "pop" apos) [a] [] cpos) (dMth rPopI A (dCons B dNil)) := d_mth PySem.F.slot_list_pop PySem.F.type_list_pop mt_popAt ad_popI ho (da_cons ha da_nil he) hbase few hline he plain
/-! ### dict.pop -/
@[simp] def dPopK (A B : TD) (dl : Sd) (e : Eta) (Q : D → Eta → Prop) : Prop := A dl e fun x e1 => onR x fun p => (dicO (e1 p)).isSome = true ∧ B dl e1 fun y e2 => onSome (dicO (e2 p)) fun kvs => onSome (keyD y) fun k => onSome (vD kvs k) fun d => Q d (e2.put p (.dic (dropD kvs k)))
theorem d_popK (ho : DE X o A) (ha : DE X a B) (hbase : attributeBase o "pop" X.env (eval o X.env) = eval o X.env := by rfl)
    (few : ((backTo cpos (starEach [a] X.env)).all (fun x => !x.1) && (backToKw cpos (keywordEach [] X.env)).all (fun x => x.1.isSome) && decide (([a] : List Expr).length + ([] : List Keyword).length + (if ([] : List Keyword).isEmpty then 0 else 1) < 30)) = true := by rfl)
    (hline : (apos.endLine == cpos.line) = true := by rfl) (htrees : backTo cpos (starEach [a] X.env) = [(false, eval a X.env)] := by rfl) : DE X (.Call (.Attribute o "pop" apos) [a] [] cpos) (dPopK A B) := pe_imp (pe_dpop1 ho ha ⟨hbase, few, hline, htrees⟩) (by
  rintro sg H Q ⟨Z, dl, e, Qd, s, t, k⟩
  refine low.use s t fun v H1 d e1 x1 r1 h1 q1 => ?_
  obtain ⟨q, rfl, hs, q1⟩ := onR_ex q1
  obtain ⟨kv0, hk0⟩ := Option.isSome_iff_exists.mp hs
  obtain ⟨vs0, g0, _⟩ := h1.cell _ _ (dicO_ex hk0)
  cases r1
  refine ⟨q, rfl, .inl ⟨vs0, .inl g0⟩, low.use (s.ext x1 h1) q1 fun y H2 dy e2 x2 r2 h2 q2 => ?_⟩
  obtain ⟨kvs, hk, q2⟩ := onSome_ex q2
  obtain ⟨key, hy, q2⟩ := onSome_ex q2
  obtain ⟨dd, hd, q2⟩ := onSome_ex q2
  obtain ⟨vs, g1, g2⟩ := h2.cell _ _ (dicO_ex hk)
  rcases g2.val key with ⟨n1, n2⟩ | ⟨v, d', n1, n2, n3⟩
  · rw [n1] at hd; cases hd
  · rw [n1] at hd; cases hd
    obtain ⟨y1, y2⟩ := Rep.set_dic h2 (dicO_ex hk) (g2.drop key)
    refine ⟨vs, key, v, g1, keyD_at r2 hy, n2, ?_⟩
    rw [dropD_eq]
    exact k _ _ _ _ (x1.trans (x2.trans y1)) (n3.ext y1) y2 q2)
/-! ### list.index of data -/
@[simp] def rIndexDp : RM := fun x ys e Q => one ys fun y => onSome (lstD e x) fun ds => (okD (.lst ds) = true ∧ okD y = true) ∧ ∃ j z, ds[j]? = some z ∧ eqD z y = true ∧ (∀ m z', m < j → ds[m]? = some z' → eqD z' y = false) ∧ Q (.int (j : Nat)) e
theorem ad_indexDp {K : PySem.W.Frag} : AdM K (rIndexD K) rIndexDp := by
  intro Z e H x d xs ds Qd Q h r rl q k
  obtain ⟨y, rfl, q⟩ := one_ex q
  obtain ⟨es, hes, ⟨⟨o1, o2⟩, j, z, hj, hz, hno, q⟩⟩ := onSome_ex q
  obtain ⟨w, rfl, ry⟩ := rl.one
  obtain ⟨l, vs, rfl, g, rv⟩ := lst_at h r hes
  obtain ⟨n1, s1⟩ := Bool.and_eq_true_iff.mp o1
  obtain ⟨n2, s2⟩ := Bool.and_eq_true_iff.mp o2
  refine ⟨l, w, pyD y, pyDs es, j, pyD z, rfl, rfl, .lst (SqL.of g) (dps_of es vs rv n1), dp_of y w ry n2, s1, s2, by rw [pyDs_map, List.getElem?_map, hj]; rfl, hz, fun m z' hm hz' => ?_, k _ H _ e .refl (.int _) h q⟩
  rw [pyDs_map, List.getElem?_map] at hz'
  obtain ⟨d', hd', rfl⟩ := Option.map_eq_some_iff.mp hz'
  exact hno m d' hm hd'
theorem d_indexDp (hu : X.A.units + 65 < cLine) (ho : DE X o A) (ha : DE X a B) (he : starEach [a] X.env = (false, eval a X.env) :: starEach [] X.env := by rfl) (hbase : attributeBase o "index" X.env (eval o X.env) = eval o X.env := by rfl) (hline : (apos.endLine == cpos.line) = true := by rfl)
    (few : ((backTo cpos (starEach [a] X.env)).all (fun x => !x.1) && (backToKw cpos (keywordEach [] X.env)).all (fun x => x.1.isSome) && decide ([a].length + ([] : List Keyword).length + (if ([] : List Keyword).isEmpty then 0 else 1) < 30)) = true := by rfl) (plain : (backTo cpos (starEach [] X.env)).any (·.1) = false := by rfl) :
    DE X (.Call (.Attribute o "index" apos) [a] [] cpos) (dMth rIndexDp A (dCons B dNil)) := d_mth PySem.F.slot_list_index PySem.F.type_list_index (mt_indexD hu) ad_indexDp ho (da_cons ha da_nil he) hbase few hline he plain
/-! ### texts -/
def strsD : List D → Option (List Str)
  | [] => some []
  | .str b :: r => (strsD r).map (b :: ·)
  | _ :: _ => none
@[simp] theorem strsD_map (l : List Str) : strsD (l.map D.str) = some l := by
  induction l with
  | nil => rfl
  | cons x l ih => rw [List.map_cons, strsD, ih]; rfl
@[simp] theorem strsD_map' {α : Type} (f : α → Str) (l : List α) : strsD (l.map fun x => D.str (f x)) = some (l.map f) := by
  induction l with
  | nil => rfl
  | cons x l ih => rw [List.map_cons, strsD, ih]; rfl
theorem strs_at {K : PySem.W.Frag} {Z : Addr → Prop} {e : Eta} {H : Hp} : ∀ {vs : List V} {ds : List D} {bs : List Str}, RepL K Z e H vs ds → strsD ds = some bs → vs = bs.map V.str
  | _, _, _, .nil, h => by cases h; rfl
  | _, _, _, .cons (d := d) a r, h => by
    cases a with
    | str b =>
      obtain ⟨c, hc, rfl⟩ := Option.map_eq_some_iff.mp (show (strsD _).map (b :: ·) = some _ from h)
      rw [strs_at r hc]; rfl
    | _ => cases h
theorem RepL.strs {K : PySem.W.Frag} {Z : Addr → Prop} {e : Eta} {H : Hp} (ys : List Str) : RepL K Z e H (ys.map V.str) (ys.map D.str) := RepL.map (fun i => .str i) ys
def onS : D → (Str → Prop) → Prop
  | .str i, Q => Q i
  | _, _ => False
@[simp] theorem onS_s {i : Str} {Q : Str → Prop} : onS (.str i) Q = Q i := rfl
theorem onS_ex {d : D} {Q : Str → Prop} (h : onS d Q) : ∃ i, d = .str i ∧ Q i := by
  cases d <;> first | exact ⟨_, rfl, h⟩ | exact h.elim
@[simp] def dJoin (A B : TD) (dl : Sd) (e : Eta) (Q : D → Eta → Prop) : Prop := A dl e fun x e1 => onS x fun z => B dl e1 fun y e2 => onSome ((lstD e2 y).bind strsD) fun ys => (ys.map (·.length)).sum + ys.length * z.length ≤ 16777216 ∧ Q (.str (Txt.join z ys)) e2
theorem d_join (ho : DE X o A) (ha : DE X a B) (hs : starEach [a] X.env = [(false, eval a X.env)] := by rfl) (hbase : attributeBase o "join" X.env (eval o X.env) = eval o X.env := by rfl) (hline : (apos.endLine == cpos.line) = true := by rfl) :
    DE X (.Call (.Attribute o "join" apos) [a] [] cpos) (dJoin A B) := pe_imp (pe_join ho ha hs hbase hline) (by
  rintro sg H Q ⟨Z, dl, e, Qd, s, t, k⟩
  refine low.use s t fun v H1 d e1 x1 r1 h1 q1 => ?_
  obtain ⟨z, rfl, q1⟩ := onS_ex q1
  cases r1
  refine ⟨⟨z, rfl⟩, low.use (s.ext x1 h1) q1 fun u H2 y e2 x2 r2 h2 q2 => ?_⟩
  obtain ⟨ys, hy, hl, q2⟩ := onSome_ex q2
  obtain ⟨ds, g1, g2⟩ := Option.bind_eq_some_iff.mp hy
  obtain ⟨l, vs, rfl, g, rv⟩ := lst_at h2 r2 g1
  have ev := strs_at rv g2
  subst ev
  exact ⟨z, l, ys, rfl, rfl, .inl (SqL.of g), hl, k _ _ _ e2 (x1.trans x2) (.str _) h2 q2⟩)
@[simp] def dSplit (c : Bool) (A B : TD) (dl : Sd) (e : Eta) (Q : D → Eta → Prop) : Prop := A dl e fun x e1 => onS x fun z => B dl e1 fun y e2 => onS y fun b => ((b.length == 0) = false ∧ z.length + 2 ≤ sizeLine) ∧ newQ c ((Txt.split z b).map D.str) e2 Q
theorem d_split (c : Bool) (ho : DE X o A) (ha : DE X a B) (hs : starEach [a] X.env = [(false, eval a X.env)] := by rfl) (hbase : attributeBase o "split" X.env (eval o X.env) = eval o X.env := by rfl) (hline : (apos.endLine == cpos.line) = true := by rfl) :
    DE X (.Call (.Attribute o "split" apos) [a] [] cpos) (dSplit c A B) := pe_imp (pe_split ho ha hs hbase hline) (by
  rintro sg H Q ⟨Z, dl, e, Qd, s, t, k⟩
  refine low.use s t fun v H1 d e1 x1 r1 h1 q1 => ?_
  obtain ⟨z, rfl, q1⟩ := onS_ex q1
  cases r1
  refine ⟨⟨z, rfl⟩, low.use (s.ext x1 h1) q1 fun u H2 y e2 x2 r2 h2 q2 => ?_⟩
  obtain ⟨b, rfl, ⟨hb, hz⟩, q2⟩ := onS_ex q2
  cases r2
  exact ⟨z, b, rfl, rfl, hb, hz, fun p hp => new_or (c := c) h2 hp (RepL.strs _) q2 fun v H' d e' x r h q => k v H' d e' (x1.trans (x2.trans x)) r h q⟩)
def rStrQ : List D → Eta → (D → Eta → Prop) → Prop
  | [.int i], e, Q => i.natAbs.log2 < 1920 ∧ Q (.str (toString i)) e
  | [.str a], e, Q => Q (.str a) e
  | _, _, _ => False
@[simp] theorem rStrQ_i {i : Int} {e : Eta} {Q : D → Eta → Prop} : rStrQ [.int i] e Q = (i.natAbs.log2 < 1920 ∧ Q (.str (toString i)) e) := rfl
@[simp] theorem rStrQ_s {a : Str} {e : Eta} {Q : D → Eta → Prop} : rStrQ [.str a] e Q = Q (.str a) e := rfl
theorem d_str1 (hg : Gl X "str") (hm : X.mg "str" = none) (ha : DA X [a] T) (he : starEach [a] X.env = (false, eval a X.env) :: starEach [] X.env := by rfl) : DE X (.Call (.Name "str" p) [a] [] pos) (dCall rStrQ T) :=
  d_callT (call_str_int.or SkE.call_str_str) (by
    intro Z e H xs ds Qd Q h rx q k
    unfold rStrQ at q
    split at q
    · obtain ⟨v, rfl, r⟩ := rx.one
      cases r
      exact .inl ⟨_, rfl, q.1, k _ H _ e .refl (.str _) h q.2⟩
    · obtain ⟨v, rfl, r⟩ := rx.one
      cases r
      exact .inr ⟨_, rfl, k _ H _ e .refl (.str _) h q⟩
    · exact q.elim) hg hm PyProof.Rows.boot_str ha (he := he)
/-! ### dicts -/
def dicD (e : Eta) : D → Option (List (Key × D))
  | .dic kvs => some kvs
  | .ref p => dicO (e p)
  | _ => none
@[simp] theorem dicD_d {e : Eta} {kvs : List (Key × D)} : dicD e (.dic kvs) = some kvs := rfl
@[simp] theorem dicD_r {e : Eta} {p : Addr} : dicD e (.ref p) = dicO (e p) := rfl
theorem dic_at {K : PySem.W.Frag} {Z : Addr → Prop} {e : Eta} {H : Hp} (h : HRel K Z e H) {x : V} {d : D} {kvs : List (Key × D)} (r : Rep K Z e H x d) (q : dicD e d = some kvs) : ∃ a vs, x = .ref a ∧ H a = some (.dK vs) ∧ RepK K Z e H vs kvs := by
  cases r with
  | ref p =>
    obtain ⟨vs, g1, g2⟩ := h.cell _ _ (dicO_ex q)
    exact ⟨_, vs, rfl, g1, g2⟩
  | dic f n r => cases q; exact ⟨_, _, rfl, f.2.2, RepK.of n r⟩
  | _ => cases q
/-- dict(d), a cell -/
@[simp] def rDictC : RC := fun xs e Q => one xs fun x => onSome (dicD e x) fun kvs => ∀ p, e p = none → Q (.ref p) (e.put p (.dic kvs))
theorem ad_dictC {K : PySem.W.Frag} : AdC K (fun xs H Q => ∃ (a : Addr) (kvs : List (Key × V)), xs = [.ref a] ∧ Rd H a (.dK kvs) ∧ ∀ p, H p = none → Q (.ref p) (upd H p (.dK kvs))) rDictC :=
  ad_one (R := fun x e Q => onSome (dicD e x) fun kvs => ∀ p, e p = none → Q (.ref p) (e.put p (.dic kvs))) fun Z e H x d Qd Q h r q k => by
    obtain ⟨kvs, hk, q⟩ := onSome_ex q
    obtain ⟨a, vs, rfl, g1, g2⟩ := dic_at h r hk
    refine ⟨a, vs, rfl, .inl g1, fun p hp => ?_⟩
    obtain ⟨x1, h1⟩ := Rep.new_dic h hp g2
    exact k _ _ _ _ x1 (.ref p) h1 (q p (h.free hp).1)
theorem d_dictC (hg : Gl X "dict") (hm : X.mg "dict" = none) (ha : DA X [a] T) (he : starEach [a] X.env = (false, eval a X.env) :: starEach [] X.env := by rfl) : DE X (.Call (.Name "dict" p) [a] [] pos) (dCall rDictC T) :=
  d_callT call_dictD ad_dictC hg hm PyProof.Rows.boot_dict ha (he := he)
/-- {'k': v, ..} -/
structure DKs (X : Cy) (pos : Pos) (keys : List (Option Expr)) (values : List Expr) (ks : List Str) (T : TDs) : Prop where
  pps : ∃ trs, PPs X pos keys values trs ∧ ∀ (sg : L2.St) (H : Hp) (Q : List (V × V) → Hp → Prop), lows X.Y T sg H (fun vs H' => vs.length = ks.length → Q ((ks.map V.str).zip vs) H') → tPairs trs sg H Q
theorem dks_nil : DKs X pos [] [] [] dNil := ⟨[], pps_nil, fun sg H Q ⟨Z, dl, e, Qd, s, t, k⟩ => k [] H [] e .refl .nil s.rel t rfl⟩
theorem dks_cons {keys : List (Option Expr)} {values : List Expr} {ks : List Str} {j : Nat} (hv : DE X a A) (hr : DKs X pos keys values ks T) : DKs X pos (some (.Constant (.str x) j p) :: keys) (a :: values) (x :: ks) (dCons A T) := by
  obtain ⟨trs, h1, h2⟩ := hr
  refine ⟨_, pps_cons pe_str hv h1, ?_⟩
  rintro sg H Q ⟨Z, dl, e, Qd, s, t, k⟩
  show low X.Y A sg H _
  refine low.use s t fun v H1 d e1 x1 r1 h1' q1 => h2 _ _ _ (lows.use (s.ext x1 h1') q1 fun vs H2 ds e2 x2 r2 h2' q2 hl => ?_)
  exact k (v :: vs) H2 (d :: ds) e2 (x1.trans x2) (.cons (r1.ext x2) r2) h2' q2 (by rw [List.length_cons, List.length_cons, hl])
def kvsOf (ks : List Str) (ds : List D) : List (Key × D) := (ks.map Sum.inr).zip ds
@[simp] def dDisp (ks : List Str) (T : TDs) (dl : Sd) (e : Eta) (Q : D → Eta → Prop) : Prop := T dl e fun ds e1 => ds.length = ks.length ∧ ∀ p, e1 p = none → Q (.ref p) (e1.put p (.dic (mergeD [] (kvsOf ks ds))))
theorem RepK.zip {K : PySem.W.Frag} {Z : Addr → Prop} {e : Eta} {H : Hp} {κ : Type} : ∀ {ks : List κ} {vs : List V} {ds : List D}, RepL K Z e H vs ds → RepK K Z e H (ks.zip vs) (ks.zip ds)
  | [], _, _, _ => .nil
  | _ :: _, _, _, .nil => .nil
  | _ :: _, _, _, .cons a r => .cons a (RepK.zip r)
theorem d_disp {keys : List (Option Expr)} {values : List Expr} {ks : List Str} (h : DKs X pos keys values ks T) (h1 : keys.all (·.isSome) = true := by rfl) (h2 : keys.length = values.length := by rfl) (h3 : keys ≠ [] := by simp) (h4 : keys.length ≤ 15 := by decide) (h5 : ks.length ≤ 15 := by decide) :
    DE X (.Dict keys values pos) (dDisp ks T) := by
  obtain ⟨trs, hp, ht⟩ := h
  refine pe_imp (pe_disp hp h1 h2 h3 h4) ?_
  rintro sg H Q ⟨Z, dl, e, Qd, s, t, k⟩
  intro p hp
  obtain ⟨mv, hr, ep, nz⟩ := s.rel.hide (.dK []) hp
  have x0 : Ext e H e (upd H p (.dK [])) := fun a o q n => ⟨by rw [upd_ne (ne_of_none q hp)]; exact q, n⟩
  have s' : SRel X.Y (fun a => Z a ∨ a = p) e (upd H p (.dK [])) dl sg := ⟨s.toSR0.mv mv hr, s.exc.hide x0 fun _ => .inl⟩
  refine ht _ _ _ (lows.use s' t fun vs H1 ds e1 x1 r1 h1 q1 hl => ?_)
  have g := x1 p _ upd_same ep
  refine ⟨g.1, (ks.map Sum.inr).zip vs, ?_, by rw [List.length_zip, List.length_map, hl, Nat.min_self]; exact h5, ?_⟩
  · have : ∀ (ks : List Str) (vs : List V), (ks.map V.str).zip vs = ((ks.map (Sum.inr : Str → Key)).zip vs).map fun kv => (kV kv.1, kv.2) := by
      intro ks
      induction ks with
      | nil => intro vs; rfl
      | cons z ks ih =>
        intro vs
        cases vs with
        | nil => rfl
        | cons v vs =>
          show (V.str z, v) :: (ks.map V.str).zip vs = _
          rw [ih vs]; rfl
    exact this ks vs
  · obtain ⟨mv2, h3⟩ := h1.showc nz (o := .dic (mergeD [] (kvsOf ks ds))) (u := .dK (mergeK [] ((ks.map Sum.inr).zip vs))) fun m => ⟨_, upd_same, by rw [mergeK_eq]; exact (RepK.zip r1).merge (.nil) |>.move m⟩
    refine k _ _ _ _ (fun a o q n => ?_) (.ref p) h3 (q1.2 p g.2)
    have na : a ≠ p := fun z => by subst z; rw [hp] at q; cases q
    obtain ⟨c1, c2⟩ := x1 a o (by rw [upd_ne na]; exact q) n
    exact ⟨by rw [upd_ne na]; exact c1, by rw [put_ne na]; exact c2⟩
/-! ### a dict that stands still while it is walked -/
@[simp] def dLock (T : TD) (dl : Sd) (e : Eta) (Q : D → Eta → Prop) : Prop := ∃ p kvs, e p = some (.dic kvs) ∧ ∀ od vs, T dl (e.put p (.lck od vs kvs)) fun d e1 => e1 p = some (.lck od vs kvs) ∧ Q d (e1.put p (.dic kvs))
theorem d_lock {ex : Expr} {T : TD} (h : DE X ex T) : DE X ex (dLock T) := pe_imp (pe_lock h) (by
  rintro sg H Q ⟨Z, dl, e, Qd, s, ⟨p, kvs, ep, t⟩, k⟩
  obtain ⟨vs, g1, g2⟩ := s.rel.cell _ _ ep
  refine ⟨p, .dK vs, g1, trivial, fun od => ?_⟩
  obtain ⟨y1, y2⟩ := s.rel.write (o := .lck od vs kvs) (u := .frz od (.dK vs)) ep fun x => ⟨upd_same, g2.ext x⟩
  refine low.use (s.ext y1 y2) (t od vs) fun v H1 d e1 x1 r1 h1 ⟨e1p, q⟩ => ?_
  obtain ⟨c1, c2⟩ := h1.cell _ _ e1p
  obtain ⟨z1, z2⟩ := h1.write (o := .dic kvs) (u := .dK vs) e1p fun x => ⟨vs, upd_same, c2.ext x⟩
  exact ⟨c1, k v _ d _ (y1.trans (x1.trans z1)) (r1.ext z1) z2 q⟩)
def lckO : Option O → Option (List (Key × D))
  | some (.lck _ _ kvs) => some kvs
  | _ => none
@[simp] theorem lckO_k {od : Obj} {vs : List (Key × V)} {kvs : List (Key × D)} : lckO (some (.lck od vs kvs)) = some kvs := rfl
@[simp] def iKeysL (A : TD) (dl : Sd) (e : Eta) (Q : List D → (Eta → Prop) → Eta → Prop) : Prop := A dl e fun x e1 => onR x fun p => ∃ od vs kvs, e1 p = some (.lck od vs kvs) ∧ Q (kvs.map fun kv => keyT kv.1) (fun e' => e' p = some (.lck od vs kvs)) e1
theorem di_keysL {tg : Expr} (ha : DE X a A) : DI X tg a (iKeysL A) := pi_imp (pi_keys ha) (by
  rintro sg H R ⟨Z, dl, e, Qd, s, t, k⟩
  refine low.use s t fun v H1 d e1 x1 r1 h1 q => ?_
  obtain ⟨p, rfl, od, vs, kvs, hp, q⟩ := onR_ex q
  obtain ⟨g1, g2⟩ := h1.cell _ _ hp
  cases r1
  refine ⟨p, od, rfl, .inl ⟨vs, g1, k _ H1 _ _ e1 x1 h1 ⟨fun i Z' e' H' hi m hr c => ?_, fun i Z' e' H' y H2 hi m hr c yy => ?_, fun i Z' e' H' hi m hr c => ?_⟩ q⟩⟩
  · obtain ⟨c1, c2⟩ := hr.cell _ _ c
    rw [List.length_map] at hi
    exact ⟨c1, by rw [c2.length]; exact hi⟩
  · obtain ⟨rfl, key, w, hkv, rfl⟩ := yy
    obtain ⟨c1, c2⟩ := hr.cell _ _ c
    obtain ⟨d, hd⟩ := c2.at hkv
    exact ⟨keyT key, by rw [List.getElem?_map, hd]; rfl, .refl, rep_key key, hr⟩
  · obtain ⟨c1, c2⟩ := hr.cell _ _ c
    rw [List.length_map] at hi
    exact ⟨c1, by rw [c2.length]; exact hi⟩)
/-- .. a statement -/
@[simp] def dLockS (T : TSD) (E : EndsD) (dl : Sd) (e : Eta) : Prop := ∃ p kvs, e p = some (.dic kvs) ∧ ∀ od vs, T { nx := fun dl' e' => e' p = some (.lck od vs kvs) ∧ E.nx dl' (e'.put p (.dic kvs)), rt := fun d e' => e' p = some (.lck od vs kvs) ∧ E.rt d (e'.put p (.dic kvs)), bk := fun dl' e' => e' p = some (.lck od vs kvs) ∧ E.bk dl' (e'.put p (.dic kvs)), ct := fun dl' e' => e' p = some (.lck od vs kvs) ∧ E.ct dl' (e'.put p (.dic kvs)) } dl (e.put p (.lck od vs kvs))
theorem ds_lock {st : Stmt} {T : TSD} (h : DS X st T) : DS X st (dLockS T) := ps_imp (ps_lock h) (by
  rintro F sg H ⟨Z, dl, e, E, s, ⟨p, kvs, ep, t⟩, k⟩
  obtain ⟨vs, g1, g2⟩ := s.rel.cell _ _ ep
  refine ⟨p, .dK vs, g1, trivial, fun od => ?_⟩
  obtain ⟨y1, y2⟩ := s.rel.write (o := .lck od vs kvs) (u := .frz od (.dK vs)) ep fun x => ⟨upd_same, g2.ext x⟩
  have back : ∀ {e1 : Eta} {H1 : Hp}, HRel X.K Z e1 H1 → e1 p = some (.lck od vs kvs) → H1 p = some (.frz od (.dK vs)) ∧ Ext e1 H1 (e1.put p (.dic kvs)) (upd H1 p (.dK vs)) ∧ HRel X.K Z (e1.put p (.dic kvs)) (upd H1 p (.dK vs)) := fun h1 e1p => by
    obtain ⟨c1, c2⟩ := h1.cell _ _ e1p
    obtain ⟨z1, z2⟩ := h1.write (o := .dic kvs) (u := .dK vs) e1p fun x => ⟨vs, upd_same, c2.ext x⟩
    exact ⟨c1, z1, z2⟩
  refine ⟨Z, dl, _, _, s.ext y1 y2, t od vs, ⟨fun dl1 e1 sg1 H1 x1 s1 ⟨e1p, q⟩ => ?_, fun d e1 v H1 x1 r1 h1 ⟨e1p, q⟩ => ?_, fun dl1 e1 sg1 H1 x1 s1 ⟨e1p, q⟩ => ?_, fun dl1 e1 sg1 H1 x1 s1 ⟨e1p, q⟩ => ?_⟩⟩
  · obtain ⟨c1, z1, z2⟩ := back s1.rel e1p
    exact ⟨c1, k.nx dl1 _ sg1 _ (y1.trans (x1.trans z1)) (s1.ext z1 z2) q⟩
  · obtain ⟨c1, z1, z2⟩ := back h1 e1p
    exact ⟨c1, k.rt d _ v _ (y1.trans (x1.trans z1)) (r1.ext z1) z2 q⟩
  · obtain ⟨c1, z1, z2⟩ := back s1.rel e1p
    exact ⟨c1, k.bk dl1 _ sg1 _ (y1.trans (x1.trans z1)) (s1.ext z1 z2) q⟩
  · obtain ⟨c1, z1, z2⟩ := back s1.rel e1p
    exact ⟨c1, k.ct dl1 _ sg1 _ (y1.trans (x1.trans z1)) (s1.ext z1 z2) q⟩)
end
end FL

set_option Elab.async false
set_option linter.all false
set_option maxRecDepth 100000
set_option maxHeartbeats 4000000
/-! Texts walked sign by sign; a sign in a text. -/
namespace FL
open PySem PySem.Spec PyProof.Rows L2
def signs (z : Str) : List D := z.cps.toList.map fun c => .str ⟨#[c]⟩
@[simp] def iStrD (A : TD) (dl : Sd) (e : Eta) (Q : List D → (Eta → Prop) → Eta → Prop) : Prop := A dl e fun x e1 => onS x fun z => Q (signs z) (fun _ => True) e1
section
variable {X : Cy} {tg a : Expr} {A : TD}
theorem di_str (ha : DE X a A) : DI X tg a (iStrD A) := pi_imp (pi_str ha) (by
  rintro sg H R ⟨Z, dl, e, Qd, s, t, k⟩
  refine low.use s t fun v H1 d e1 x1 r1 h1 q => ?_
  obtain ⟨z, rfl, q⟩ := onS_ex q
  cases r1
  have len : (signs z).length = z.cps.size := by unfold signs; rw [List.length_map, Array.length_toList]
  refine ⟨z, rfl, k _ H1 _ _ e1 x1 h1 ⟨fun i Z' e' H' hi m hr c => ?_, fun i Z' e' H' y H2 hi m hr c yy => ?_, fun i Z' e' H' hi m hr c => ?_⟩ q⟩
  · show i < z.cps.size
    omega
  · obtain ⟨rfl, c, hc, rfl⟩ := yy
    refine ⟨.str ⟨#[c]⟩, ?_, .refl, .str _, hr⟩
    unfold signs
    rw [List.getElem?_map, Array.getElem?_toList, hc]; rfl
  · show z.cps.size ≤ i
    omega)
end
theorem sign_in (z : Str) (c : Nat) : (!(Builtin.Str.occurrences z ⟨#[c]⟩ 0 z.length 1).isEmpty) = decide (c ∈ z.cps.toList) := PySem.StrLaws.found_one z c
@[simp] theorem okD_str (x : Str) : okD (.str x) = PyData.strOk x := by unfold okD; simp [nrD, pyD, SeqAt.shaped, PyData.canLay0, PyData.depth]
end FL

set_option Elab.async false
set_option linter.all false
set_option maxRecDepth 100000
set_option maxHeartbeats 4000000
/-! A fen, plainly: how it stands, its deeds. -/
namespace FL
open PySem PySem.Spec PyProof.Rows L2
/-! ### names -/
def letters : Str := "abcdefghijklmnopqrstuvwxyz"
def isName (x : Str) : Bool := decide (1 ≤ x.length) && (decide (x.length ≤ 8) && x.cps.toList.all fun c => decide (c ∈ letters.cps.toList))
theorem letters_lt : ∀ c ∈ letters.cps.toList, c < 128 := by decide +kernel
theorem isName.ok {x : Str} (h : isName x = true) : PyData.strOk x = true := by
  unfold isName at h
  simp only [Bool.and_eq_true] at h
  unfold PyData.strOk
  rw [← Array.all_toList, List.all_eq_true]
  intro c hc
  have := letters_lt c (of_decide_eq_true (List.all_eq_true.mp h.2.2 c hc))
  exact decide_eq_true (by omega)
theorem isName.len {x : Str} (h : isName x = true) : 1 ≤ x.length ∧ x.length ≤ 8 := by
  unfold isName at h
  simp only [Bool.and_eq_true, decide_eq_true_eq] at h
  exact ⟨h.1, h.2.1⟩
/-! ### how it stands -/
structure Row where
  num : Int
  one : Int
  other : Int
  rise : Int
  hand : Str
structure SM where
  places : List (Str × Int)
  heeded : List (Str × Bool)
  rows : List Row
  entered : Int
  many : Int
def SM.new : SM := ⟨[], [], [], 0, 0⟩
def turnsL (l : List (Str × Int)) (n : Str) : Nat := (l.filter fun p => decide (p.1 = n)).length
abbrev SM.turns (S : SM) (n : Str) : Nat := turnsL S.places n
/-- the first place of a thing -/
def ixA {α : Type} [DecidableEq α] (l : List α) (a : α) : Nat := l.findIdx fun x => decide (x = a)
def SM.place (S : SM) (n : Str) : Int := (ixA S.places (n, (S.turns n : Int)) : Nat)
def SM.marks (S : SM) : List Str := (S.places.filter fun p => decide (p.2 = 1)).map (·.1)
def SM.hands (S : SM) : List Str := S.heeded.map (·.1)
/-- heeded or not; true where there is none -/
def hdOf (l : List (Str × Bool)) (h : Str) : Bool := (l.lookup h).getD true
def setH (l : List (Str × Bool)) (h : Str) (b : Bool) : List (Str × Bool) := if h ∈ l.map (·.1) then l.map fun q => if q.1 = h then (q.1, b) else q else l ++ [(h, b)]
def SM.counted (S : SM) : List Row := S.rows.filter fun r => hdOf S.heeded r.hand
inductive Deed where
  | mark (n : Str) | hand (n : Str) | run (one other : Str) (rise : Int) (hand : Str) | strike (k : Int) | mend (k rise : Int) | settle (n : Str) | aside (h : Str) | heed (h : Str) | allow (k : Int)
def okRise (r : Int) : Bool := decide (-1000000000 ≤ r) && decide (r ≤ 1000000000)
/-- what is refused, in order -/
def SM.no (S : SM) : Deed → Option Str
  | .mark n => if isName n = false then some "BadName" else if S.turns n > 0 then some "Taken" else if S.places.length ≥ 12 then some "Full" else none
  | .hand n => if isName n = false then some "BadName" else if n ∈ S.hands then some "Taken" else if S.heeded.length ≥ 10 then some "Full" else none
  | .run a b r h => if S.turns a = 0 then some "NoMark" else if S.turns b = 0 then some "NoMark" else if a = b then some "Same" else if h ∉ S.hands then some "NoHand" else if okRise r = false then some "BadRise" else if S.rows.length ≥ 40 then some "Full" else none
  | .strike k => if k ∈ S.rows.map (·.num) then none else some "NoRun"
  | .mend k r => if k ∈ S.rows.map (·.num) then (if okRise r = false then some "BadRise" else none) else some "NoRun"
  | .settle n => if S.turns n = 0 then some "NoMark" else if S.places.length ≥ 12 then some "Full" else none
  | .aside h => if h ∉ S.hands then some "NoHand" else if hdOf S.heeded h = false then some "Aside" else none
  | .heed h => if h ∉ S.hands then some "NoHand" else if hdOf S.heeded h = true then some "NotAside" else none
  | .allow k => if 0 ≤ k ∧ k ≤ 3 then none else some "BadNumber"
def mendR (k r : Int) (x : Row) : Row := if x.num = k then { x with rise := r } else x
/-- a deed that isn't refused -/
def SM.did (S : SM) : Deed → SM
  | .mark n => { S with places := S.places ++ [(n, (S.turns n : Int) + 1)] }
  | .settle n => { S with places := S.places ++ [(n, (S.turns n : Int) + 1)] }
  | .hand n => { S with heeded := setH S.heeded n true }
  | .aside n => { S with heeded := setH S.heeded n false }
  | .heed n => { S with heeded := setH S.heeded n true }
  | .run a b r h => { S with entered := S.entered + 1, rows := S.rows ++ [⟨S.entered + 1, S.place a, S.place b, r, h⟩] }
  | .strike k => { S with rows := S.rows.filter fun x => decide (x.num ≠ k) }
  | .mend k r => { S with rows := S.rows.map (mendR k r) }
  | .allow k => { S with many := k }
/-- what a deed tells -/
def SM.tells (S : SM) : Deed → Option Int
  | .run .. => some (S.entered + 1)
  | _ => none
structure SM.Good (S : SM) : Prop where
  pl : ∀ (a b : List (Str × Int)) (p : Str × Int), S.places = a ++ p :: b → p.2 = (turnsL a p.1 : Int) + 1
  plNm : ∀ p ∈ S.places, isName p.1 = true
  plLen : S.places.length ≤ 12
  hdNd : S.hands.Nodup
  hdNm : ∀ h ∈ S.hands, isName h = true
  hdLen : S.heeded.length ≤ 10
  rwLen : S.rows.length ≤ 40
  rwNum : (S.rows.map (·.num)).Pairwise (· < ·)
  rwE : ∀ r ∈ S.rows, 1 ≤ r.num ∧ r.num ≤ S.entered
  rwAt : ∀ r ∈ S.rows, (0 ≤ r.one ∧ r.one < S.places.length) ∧ (0 ≤ r.other ∧ r.other < S.places.length) ∧ r.one ≠ r.other
  rwRise : ∀ r ∈ S.rows, okRise r.rise = true
  rwHand : ∀ r ∈ S.rows, r.hand ∈ S.hands
  ent : 0 ≤ S.entered
  many : 0 ≤ S.many ∧ S.many ≤ 3
theorem SM.Good.new : SM.new.Good := by
  refine ⟨fun a b p h => ?_, ?_, ?_, ?_, ?_, ?_, ?_, ?_, ?_, ?_, ?_, ?_, ?_, ?_⟩ <;> first | (simp [SM.new, SM.hands] at *; done) | skip
section
variable {α : Type} [DecidableEq α]
theorem ixA_lt {l : List α} {a : α} (h : a ∈ l) : ixA l a < l.length := List.findIdx_lt_length_of_exists ⟨a, h, by simp⟩
theorem ixA_get {l : List α} {a : α} (h : a ∈ l) : l[ixA l a]? = some a := by
  have := List.findIdx_getElem (w := ixA_lt h)
  rw [List.getElem?_eq_getElem (ixA_lt h)]
  exact congrArg some (of_decide_eq_true this)
theorem ixA_no {l : List α} {a x : α} {m : Nat} (hm : m < ixA l a) (hx : l[m]? = some x) : x ≠ a := by
  intro e
  subst e
  have hl : m < l.length := (List.getElem?_eq_some_iff.mp hx).1
  have := List.not_of_lt_findIdx hm
  rw [List.getElem?_eq_getElem hl] at hx
  rw [Option.some.inj hx] at this
  simp at this
theorem ixA_inj {l : List α} {a b : α} (ha : a ∈ l) (hb : b ∈ l) (h : ixA l a = ixA l b) : a = b := by
  have h1 := ixA_get ha
  rw [h, ixA_get hb] at h1
  exact (Option.some.inj h1).symm
end
theorem turnsL_append (a b : List (Str × Int)) (n : Str) : turnsL (a ++ b) n = turnsL a n + turnsL b n := by unfold turnsL; rw [List.filter_append, List.length_append]
theorem turnsL_cons (p : Str × Int) (b : List (Str × Int)) (n : Str) : turnsL (p :: b) n = (if p.1 = n then 1 else 0) + turnsL b n := by
  unfold turnsL
  rw [List.filter_cons]
  by_cases h : p.1 = n
  · simp [h]; omega
  · simp [h]
theorem turnsL_pos {l : List (Str × Int)} {n : Str} (h : turnsL l n ≠ 0) : ∃ a p b, l = a ++ p :: b ∧ p.1 = n ∧ turnsL b n = 0 := by
  induction l with
  | nil => exact (h rfl).elim
  | cons q l ih =>
    by_cases hl : turnsL l n = 0
    · rw [turnsL_cons, hl] at h
      by_cases hq : q.1 = n
      · exact ⟨[], q, l, rfl, hq, hl⟩
      · simp [hq] at h
    · obtain ⟨a, p, b, e, h1, h2⟩ := ih hl
      exact ⟨q :: a, p, b, by rw [e]; rfl, h1, h2⟩
/-- a mark's last stand stands -/
theorem SM.Good.at {S : SM} (g : S.Good) {n : Str} (h : S.turns n ≠ 0) : (n, (S.turns n : Int)) ∈ S.places := by
  obtain ⟨a, p, b, e, h1, h2⟩ := turnsL_pos h
  have hp := g.pl a b p e
  have : S.turns n = turnsL a n + 1 := by
    show turnsL S.places n = _
    rw [e, turnsL_append, turnsL_cons, if_pos h1, h2]
  rw [e]
  refine List.mem_append.mpr (.inr ?_)
  rw [List.mem_cons]
  left
  refine Prod.ext h1.symm ?_
  show (S.turns n : Int) = p.2
  rw [hp, h1, this]; simp
theorem SM.Good.place_lt {S : SM} (g : S.Good) {n : Str} (h : S.turns n ≠ 0) : 0 ≤ S.place n ∧ S.place n < S.places.length := by
  have := ixA_lt (g.at h)
  unfold SM.place
  omega
theorem SM.Good.place_ne {S : SM} (g : S.Good) {n m : Str} (h1 : S.turns n ≠ 0) (h2 : S.turns m ≠ 0) (ne : n ≠ m) : S.place n ≠ S.place m := by
  intro e
  have e : ixA S.places (n, (S.turns n : Int)) = ixA S.places (m, (S.turns m : Int)) := by unfold SM.place at e; omega
  exact ne (congrArg Prod.fst (ixA_inj (g.at h1) (g.at h2) e))
theorem turnsL_le (l : List (Str × Int)) (n : Str) : turnsL l n ≤ l.length := List.length_filter_le ..
theorem turnsL_mem {l : List (Str × Int)} {p : Str × Int} (h : p ∈ l) : turnsL l p.1 ≠ 0 := by
  obtain ⟨a, b, rfl⟩ := List.append_of_mem h
  rw [turnsL_append, turnsL_cons, if_pos rfl]; omega
/-- each stand once -/
theorem places_nodup' : ∀ (l pre : List (Str × Int)), (∀ (a b : List (Str × Int)) (p : Str × Int), l = a ++ p :: b → p.2 = (turnsL (pre ++ a) p.1 : Int) + 1) → l.Nodup
  | [], _, _ => .nil
  | q :: l, pre, h => by
    refine List.nodup_cons.mpr ⟨fun hm => ?_, places_nodup' l (pre ++ [q]) fun a b p e => ?_⟩
    · obtain ⟨a, b, e⟩ := List.append_of_mem hm
      have h1 := h [] l q rfl
      have h2 := h (q :: a) b q (by rw [e]; rfl)
      rw [List.append_nil] at h1
      rw [turnsL_append, turnsL_cons, if_pos rfl] at h2
      omega
    · rw [List.append_assoc]
      exact h (q :: a) b p (by rw [e]; rfl)
theorem SM.Good.places_nodup {S : SM} (g : S.Good) : S.places.Nodup := places_nodup' S.places [] fun a b p e => by rw [List.nil_append]; exact g.pl a b p e
theorem mem_setH {l : List (Str × Bool)} {h k : Str} {b : Bool} : k ∈ (setH l h b).map (·.1) ↔ k = h ∨ k ∈ l.map (·.1) := by
  unfold setH
  split
  · rename_i hm
    have : (l.map fun q => if q.1 = h then (q.1, b) else q).map (·.1) = l.map (·.1) := by
      rw [List.map_map]
      apply List.map_congr_left
      intro q _
      show (if q.1 = h then (q.1, b) else q).1 = q.1
      split <;> rfl
    rw [this]
    exact ⟨.inr, fun z => z.elim (fun e => e ▸ hm) id⟩
  · rw [List.map_append, List.mem_append, List.map_singleton, List.mem_singleton]
    exact or_comm
theorem setH_keys {l : List (Str × Bool)} {h : Str} {b : Bool} (hm : h ∈ l.map (·.1)) : (setH l h b).map (·.1) = l.map (·.1) := by
  unfold setH
  rw [if_pos hm, List.map_map]
  apply List.map_congr_left
  intro q _
  show (if q.1 = h then (q.1, b) else q).1 = q.1
  split <;> rfl
theorem setH_new {l : List (Str × Bool)} {h : Str} {b : Bool} (hm : h ∉ l.map (·.1)) : setH l h b = l ++ [(h, b)] := by unfold setH; rw [if_neg hm]
theorem SM.Good.hands_set {S : SM} (g : S.Good) {h : Str} {b : Bool} (hm : h ∈ S.hands) : ({ S with heeded := setH S.heeded h b } : SM).Good := by
  have e : ({ S with heeded := setH S.heeded h b } : SM).hands = S.hands := setH_keys hm
  refine ⟨g.pl, g.plNm, g.plLen, by rw [e]; exact g.hdNd, by rw [e]; exact g.hdNm, ?_, g.rwLen, g.rwNum, g.rwE, g.rwAt, g.rwRise, by rw [e]; exact g.rwHand, g.ent, g.many⟩
  have := congrArg List.length e
  simp only [SM.hands, List.length_map] at this
  rw [this]; exact g.hdLen
theorem pl_snoc {l : List (Str × Int)} (h : ∀ (a b : List (Str × Int)) (p : Str × Int), l = a ++ p :: b → p.2 = (turnsL a p.1 : Int) + 1) (n : Str) :
    ∀ (a b : List (Str × Int)) (p : Str × Int), l ++ [(n, (turnsL l n : Int) + 1)] = a ++ p :: b → p.2 = (turnsL a p.1 : Int) + 1 := by
  intro a b p e
  rcases List.append_eq_append_iff.mp e with ⟨c, h1, h2⟩ | ⟨c, h1, h2⟩
  · cases c with
    | nil =>
      rw [List.append_nil] at h1
      have h2 : [(n, (turnsL l n : Int) + 1)] = p :: b := by simpa using h2
      cases h2
      rw [h1]
    | cons q c =>
      have : q :: c ++ p :: b = [(n, (turnsL l n : Int) + 1)] := h2.symm
      cases c <;> simp at this
  · cases c with
    | nil =>
      rw [List.append_nil] at h1
      have h2 : p :: b = [(n, (turnsL l n : Int) + 1)] := by simpa using h2
      cases h2
      rw [h1]
    | cons q c =>
      have h2 : p :: b = q :: (c ++ [(n, (turnsL l n : Int) + 1)]) := h2
      cases h2
      exact h a c p h1
theorem SM.Good.place_snoc {S : SM} (g : S.Good) {n : Str} (nm : isName n = true) (hl : S.places.length < 12) : ({ S with places := S.places ++ [(n, (S.turns n : Int) + 1)] } : SM).Good := by
  refine ⟨pl_snoc g.pl n, fun p hp => ?_, by simp; omega, g.hdNd, g.hdNm, g.hdLen, g.rwLen, g.rwNum, g.rwE, fun r hr => ?_, g.rwRise, g.rwHand, g.ent, g.many⟩
  · rcases List.mem_append.mp hp with h | h
    · exact g.plNm p h
    · rw [List.mem_singleton] at h; rw [h]; exact nm
  · obtain ⟨h1, h2, h3⟩ := g.rwAt r hr
    simp only [List.length_append, List.length_singleton]
    exact ⟨⟨h1.1, by omega⟩, ⟨h2.1, by omega⟩, h3⟩
theorem SM.Good.did {S : SM} (g : S.Good) {d : Deed} (h : S.no d = none) : (S.did d).Good := by
  cases d with
  | mark n =>
    simp only [SM.no] at h
    split at h
    · cases h
    · rename_i h1
      split at h
      · cases h
      · split at h
        · cases h
        · exact g.place_snoc (by simpa using h1) (by omega)
  | settle n =>
    simp only [SM.no] at h
    split at h
    · cases h
    · rename_i h1
      split at h
      · cases h
      · have := g.plNm _ (g.at h1)
        exact g.place_snoc this (by omega)
  | hand n =>
    simp only [SM.no] at h
    split at h
    · cases h
    · rename_i h1
      split at h
      · cases h
      · rename_i h2
        split at h
        · cases h
        · have e : setH S.heeded n true = S.heeded ++ [(n, true)] := setH_new h2
          have e2 : ({ S with heeded := setH S.heeded n true } : SM).hands = S.hands ++ [n] := by unfold SM.hands; rw [e]; simp
          refine ⟨g.pl, g.plNm, g.plLen, ?_, ?_, ?_, g.rwLen, g.rwNum, g.rwE, g.rwAt, g.rwRise, fun r hr => ?_, g.ent, g.many⟩
          · show List.Nodup (SM.hands { S with heeded := setH S.heeded n true })
            rw [e2, List.nodup_append]
            exact ⟨g.hdNd, by simp, fun x hx y hy e' => by rw [List.mem_singleton] at hy; rw [e', hy] at hx; exact h2 hx⟩
          · show ∀ x ∈ SM.hands { S with heeded := setH S.heeded n true }, isName x = true
            rw [e2]
            intro x hx
            rcases List.mem_append.mp hx with z | z
            · exact g.hdNm x z
            · rw [List.mem_singleton] at z; rw [z]; simpa using h1
          · show (setH S.heeded n true).length ≤ 10
            rw [e]; simp; omega
          · show r.hand ∈ SM.hands { S with heeded := setH S.heeded n true }
            rw [e2]; exact List.mem_append.mpr (.inl (g.rwHand r hr))
  | aside n =>
    simp only [SM.no] at h
    split at h
    · cases h
    · rename_i h1; exact g.hands_set (by simpa using h1)
  | heed n =>
    simp only [SM.no] at h
    split at h
    · cases h
    · rename_i h1; exact g.hands_set (by simpa using h1)
  | run a b r hd =>
    simp only [SM.no] at h
    split at h
    · cases h
    · rename_i h1
      split at h
      · cases h
      · rename_i h2
        split at h
        · cases h
        · rename_i h3
          split at h
          · cases h
          · rename_i h4
            split at h
            · cases h
            · rename_i h5
              split at h
              · cases h
              · have e := g.ent
                refine ⟨g.pl, g.plNm, g.plLen, g.hdNd, g.hdNm, g.hdLen, by show (S.rows ++ [_]).length ≤ 40; simp; omega, ?_, fun x hx => ?_, fun x hx => ?_, fun x hx => ?_, fun x hx => ?_, by show 0 ≤ S.entered + 1; omega, g.many⟩
                · show ((S.rows ++ [_]).map Row.num).Pairwise (· < ·)
                  rw [List.map_append, List.pairwise_append]
                  refine ⟨g.rwNum, by simp, fun x hx y hy => ?_⟩
                  simp only [List.map_cons, List.map_nil, List.mem_singleton] at hy
                  obtain ⟨r0, hr0, rfl⟩ := List.mem_map.mp hx
                  have := (g.rwE r0 hr0).2
                  omega
                · rcases List.mem_append.mp hx with z | z
                  · have := g.rwE x z
                    show 1 ≤ x.num ∧ x.num ≤ S.entered + 1
                    omega
                  · rw [List.mem_singleton] at z; subst z
                    show 1 ≤ S.entered + 1 ∧ S.entered + 1 ≤ S.entered + 1
                    omega
                · rcases List.mem_append.mp hx with z | z
                  · exact g.rwAt x z
                  · rw [List.mem_singleton] at z; subst z
                    exact ⟨g.place_lt h1, g.place_lt h2, g.place_ne h1 h2 h3⟩
                · rcases List.mem_append.mp hx with z | z
                  · exact g.rwRise x z
                  · rw [List.mem_singleton] at z; subst z; simpa using h5
                · rcases List.mem_append.mp hx with z | z
                  · exact g.rwHand x z
                  · rw [List.mem_singleton] at z; subst z; exact Decidable.of_not_not h4
  | strike k =>
    have sub : ∀ x ∈ (S.did (.strike k)).rows, x ∈ S.rows := fun x hx => (List.mem_filter.mp hx).1
    refine ⟨g.pl, g.plNm, g.plLen, g.hdNd, g.hdNm, g.hdLen, Nat.le_trans (List.length_filter_le ..) g.rwLen, ?_, fun x hx => g.rwE x (sub x hx), fun x hx => g.rwAt x (sub x hx), fun x hx => g.rwRise x (sub x hx), fun x hx => g.rwHand x (sub x hx), g.ent, g.many⟩
    exact g.rwNum.sublist ((List.filter_sublist (l := S.rows)).map _)
  | mend k r =>
    simp only [SM.no] at h
    split at h
    · split at h
      · cases h
      · rename_i h2
        have fix : ∀ x ∈ (S.did (.mend k r)).rows, ∃ y ∈ S.rows, x.num = y.num ∧ x.one = y.one ∧ x.other = y.other ∧ x.hand = y.hand ∧ (x.rise = y.rise ∨ x.rise = r) := fun x hx => by
          obtain ⟨y, hy, rfl⟩ := List.mem_map.mp hx
          refine ⟨y, hy, ?_⟩
          unfold mendR
          split
          · exact ⟨rfl, rfl, rfl, rfl, .inr rfl⟩
          · exact ⟨rfl, rfl, rfl, rfl, .inl rfl⟩
        refine ⟨g.pl, g.plNm, g.plLen, g.hdNd, g.hdNm, g.hdLen, by show (S.rows.map _).length ≤ 40; rw [List.length_map]; exact g.rwLen, ?_, fun x hx => ?_, fun x hx => ?_, fun x hx => ?_, fun x hx => ?_, g.ent, g.many⟩
        · have : (S.did (.mend k r)).rows.map (·.num) = S.rows.map (·.num) := by
            show (S.rows.map (mendR k r)).map (·.num) = _
            rw [List.map_map]
            apply List.map_congr_left
            intro x _
            show (mendR k r x).num = x.num
            unfold mendR; split <;> rfl
          rw [this]; exact g.rwNum
        · obtain ⟨y, hy, e1, e2, e3, e4, e5⟩ := fix x hx
          rw [e1]; exact g.rwE y hy
        · obtain ⟨y, hy, e1, e2, e3, e4, e5⟩ := fix x hx
          rw [e2, e3]; exact g.rwAt y hy
        · obtain ⟨y, hy, e1, e2, e3, e4, e5⟩ := fix x hx
          rcases e5 with e5 | e5
          · rw [e5]; exact g.rwRise y hy
          · rw [e5]; simpa using h2
        · obtain ⟨y, hy, e1, e2, e3, e4, e5⟩ := fix x hx
          rw [e4]; exact g.rwHand y hy
    · cases h
  | allow k =>
    simp only [SM.no] at h
    split at h
    · rename_i h1
      exact ⟨g.pl, g.plNm, g.plLen, g.hdNd, g.hdNm, g.hdLen, g.rwLen, g.rwNum, g.rwE, g.rwAt, g.rwRise, g.rwHand, g.ent, h1⟩
    · cases h
end FL

set_option Elab.async false
set_option linter.all false
set_option maxRecDepth 100000
set_option maxHeartbeats 4000000
/-! The readings of a stand's methods. -/
namespace FL
open PySem PySem.Spec PyProof.Rows L2
/-! ### what lies in memory -/
def encPl (p : Str × Int) : D := .tup [.str p.1, .int p.2]
def encRow (r : Row) : D := .tup [.int r.num, .int r.one, .int r.other, .int r.rise, .str r.hand]
def encH (l : List (Str × Bool)) : List (Key × D) := l.map fun q => (Sum.inr q.1, .bl q.2)
def standF (a b c d m : D) : List (Str × D) := [("places", a), ("heeded", b), ("rows", c), ("entered", d), ("many", m)]
section
variable {a b c d m x : D}
@[simp] theorem standF_1 : (standF a b c d m).lookup ("places" : Str) = some a := rfl
@[simp] theorem standF_2 : (standF a b c d m).lookup ("heeded" : Str) = some b := rfl
@[simp] theorem standF_3 : (standF a b c d m).lookup ("rows" : Str) = some c := rfl
@[simp] theorem standF_4 : (standF a b c d m).lookup ("entered" : Str) = some d := rfl
@[simp] theorem standF_5 : (standF a b c d m).lookup ("many" : Str) = some m := rfl
@[simp] theorem standF_s1 : setF "places" x (standF a b c d m) = standF x b c d m := rfl
@[simp] theorem standF_s2 : setF "heeded" x (standF a b c d m) = standF a x c d m := rfl
@[simp] theorem standF_s3 : setF "rows" x (standF a b c d m) = standF a b x d m := rfl
@[simp] theorem standF_s4 : setF "entered" x (standF a b c d m) = standF a b c x m := rfl
@[simp] theorem standF_s5 : setF "many" x (standF a b c d m) = standF a b c d x := rfl
@[simp] theorem standF_l : (standF a b c d m).length = 5 := rfl
theorem standF_new : setF "many" m (setF "entered" d (setF "rows" c (setF "heeded" b (setF "places" a [])))) = standF a b c d m := rfl
@[simp] theorem standF_n0 : NoF "__init__" (standF a b c d m) := rfl
@[simp] theorem standF_n1 : NoF "like" (standF a b c d m) := rfl
@[simp] theorem standF_n2 : NoF "turns_of" (standF a b c d m) := rfl
@[simp] theorem standF_n3 : NoF "place_of" (standF a b c d m) := rfl
@[simp] theorem standF_n4 : NoF "mark_names" (standF a b c d m) := rfl
@[simp] theorem standF_n5 : NoF "check_hand" (standF a b c d m) := rfl
@[simp] theorem standF_n6 : NoF "put_mark" (standF a b c d m) := rfl
@[simp] theorem standF_n7 : NoF "put_hand" (standF a b c d m) := rfl
@[simp] theorem standF_n8 : NoF "put_run" (standF a b c d m) := rfl
@[simp] theorem standF_n9 : NoF "row_at" (standF a b c d m) := rfl
@[simp] theorem standF_n10 : NoF "end_run" (standF a b c d m) := rfl
@[simp] theorem standF_n11 : NoF "mend_run" (standF a b c d m) := rfl
@[simp] theorem standF_n12 : NoF "settle" (standF a b c d m) := rfl
@[simp] theorem standF_n13 : NoF "put_aside" (standF a b c d m) := rfl
@[simp] theorem standF_n14 : NoF "heed" (standF a b c d m) := rfl
@[simp] theorem standF_n15 : NoF "allow" (standF a b c d m) := rfl
@[simp] theorem standF_n16 : NoF "hand_names" (standF a b c d m) := rfl
@[simp] theorem standF_n17 : NoF "counted" (standF a b c d m) := rfl
@[simp] theorem standF_n18 : NoF "runs" (standF a b c d m) := rfl
@[simp] theorem standF_n19 : NoF "named_hands" (standF a b c d m) := rfl
@[simp] theorem standF_n20 : NoF "named_reading" (standF a b c d m) := rfl
@[simp] theorem standF_n21 : NoF "named_paper" (standF a b c d m) := rfl
@[simp] theorem standF_n22 : NoF "told_of" (standF a b c d m) := rfl
@[simp] theorem standF_n23 : NoF "told_between" (standF a b c d m) := rfl
@[simp] theorem standF_n24 : NoF "told_sunk" (standF a b c d m) := rfl
@[simp] theorem standF_n25 : NoF "false_names" (standF a b c d m) := rfl
@[simp] theorem standF_n26 : NoF "least_false" (standF a b c d m) := rfl
@[simp] theorem standF_n27 : NoF "sure_names" (standF a b c d m) := rfl
@[simp] theorem standF_n28 : NoF "parting_names" (standF a b c d m) := rfl
@[simp] theorem standF_n29 : NoF "foe_of" (standF a b c d m) := rfl
end
def standD (S : SM) : D := .obj "Stand" (standF (.lst (S.places.map encPl)) (.dic (encH S.heeded)) (.lst (S.rows.map encRow)) (.int S.entered) (.int S.many))
/-- a stand, a cell or a tree -/
structure StandV (e : Eta) (x a b c : D) (S : SM) : Prop where
  ins : insD e "Stand" x = some (standF a b c (.int S.entered) (.int S.many))
  pl : lstD e a = some (S.places.map encPl)
  hd : dicD e b = some (encH S.heeded)
  rw_ : lstD e c = some (S.rows.map encRow)
def StandAt (e : Eta) (x : D) (S : SM) : Prop := ∃ a b c, StandV e x a b c S
theorem StandAt.tree {e : Eta} {S : SM} : StandAt e (standD S) S := ⟨_, _, _, insD_o, rfl, rfl, rfl⟩
/-- .. a cell -/
structure StandC (e : Eta) (p a b c : Addr) (S : SM) : Prop where
  ins : e p = some (.ins "Stand" (standF (.ref a) (.ref b) (.ref c) (.int S.entered) (.int S.many)))
  pl : e a = some (.lst (S.places.map encPl))
  hd : e b = some (.dic (encH S.heeded))
  rw_ : e c = some (.lst (S.rows.map encRow))
  ne : a ≠ c
theorem StandC.at {e : Eta} {p a b c : Addr} {S : SM} (h : StandC e p a b c S) : StandAt e (.ref p) S := ⟨.ref a, .ref b, .ref c, by rw [insD_r, h.ins, insO_i], by rw [lstD_r, h.pl]; rfl, by rw [dicD_r, h.hd]; rfl, by rw [lstD_r, h.rw_]; rfl⟩
theorem StandAt.put {e : Eta} {x : D} {S : SM} {p : Addr} {o : O} (h : StandAt e x S) (hp : e p = none) : StandAt (e.put p o) x S := by
  obtain ⟨a, b, c, h1, h2, h3, h4⟩ := h
  have nn : ∀ {q : Addr} {u : O}, e q = some u → (e.put p o) q = some u := fun h => by rw [put_ne (ne_cell hp h)]; exact h
  refine ⟨a, b, c, ?_, lstD_put h2 hp, ?_, lstD_put h4 hp⟩
  · cases x with
    | ref q => rw [insD_r] at h1 ⊢; rw [nn (insO_ex h1), insO_i]
    | obj C fs => exact h1
    | _ => cases h1
  · cases b with
    | ref q => rw [dicD_r] at h3 ⊢; rw [nn (dicO_ex h3)]; rfl
    | dic kvs => exact h3
    | _ => cases h3
/-! ### equality of stands -/
theorem eqD_pl (p q : Str × Int) : eqD (encPl p) (encPl q) = decide (p = q) := by
  obtain ⟨a, i⟩ := p
  obtain ⟨b, j⟩ := q
  unfold eqD encPl
  simp only [pyD, pyDs, PyData.eqv, PyData.eqvAll, Bool.and_true]
  rw [Bool.eq_iff_iff]
  simp
theorem sh_pl {n : Nat} {p : Str × Int} (h : PyData.strOk p.1 = true) : shD (n + 1) (encPl p) = true := by unfold encPl; rw [shD_tup]; simp [h]
theorem sh_pls {n : Nat} {l : List (Str × Int)} (h : ∀ p ∈ l, PyData.strOk p.1 = true) (hl : l.length ≤ 4096) : shD (n + 2) (.lst (l.map encPl)) = true := by
  rw [shD_lst, List.length_map, decide_eq_true hl, Bool.true_and, List.all_map, List.all_eq_true]
  exact fun p hp => sh_pl (h p hp)
theorem enc_val (l : List (Str × Bool)) (h : Str) : vD (encH l) (Sum.inr h) = (l.lookup h).map D.bl := by
  induction l with
  | nil => rfl
  | cons q l ih =>
    obtain ⟨k, b⟩ := q
    have ih : vD (encH l) (Sum.inr h) = (l.lookup h).map D.bl := ih
    unfold vD encH at ih ⊢
    rw [List.map_cons, List.find?_cons, List.lookup_cons]
    by_cases e : k = h
    · subst e; simp
    · have e2 : (h == k) = false := by simpa using Ne.symm e
      rw [e2]
      have e3 : decide ((Sum.inr k : Key) = Sum.inr h) = false := by simpa using e
      simp only [e3]
      exact ih
theorem lookup_mem {l : List (Str × Bool)} {h : Str} : (l.lookup h).isSome = decide (h ∈ l.map (·.1)) := by
  induction l with
  | nil => rfl
  | cons q l ih =>
    obtain ⟨k, b⟩ := q
    rw [List.lookup_cons, List.map_cons]
    by_cases e : h = k
    · subst e; simp
    · have e2 : (h == k) = false := by simpa using e
      rw [e2]
      simp only [ih]
      simp [e]
theorem enc_in (l : List (Str × Bool)) (h : Str) : (vD (encH l) (Sum.inr h)).isSome = decide (h ∈ l.map (·.1)) := by rw [enc_val, ← lookup_mem]; cases l.lookup h <;> rfl
theorem enc_at {l : List (Str × Bool)} {h : Str} (hm : h ∈ l.map (·.1)) : vD (encH l) (Sum.inr h) = some (.bl (hdOf l h)) := by
  have := lookup_mem (l := l) (h := h)
  rw [decide_eq_true hm] at this
  obtain ⟨b, hb⟩ := Option.isSome_iff_exists.mp this
  rw [enc_val, hb]
  unfold hdOf
  rw [hb]; rfl
theorem enc_put (l : List (Str × Bool)) (h : Str) (b : Bool) : putD (encH l) (Sum.inr h) (.bl b) = encH (setH l h b) := by
  unfold putD setH
  have e1 : ((encH l).any fun kv => decide (kv.1 = Sum.inr h)) = decide (h ∈ l.map (·.1)) := by
    unfold encH
    rw [List.any_map, Bool.eq_iff_iff]
    simp only [List.any_eq_true, Function.comp_apply, decide_eq_true_eq, List.mem_map, Sum.inr.injEq]
  rw [e1]
  by_cases hm : h ∈ l.map (·.1)
  · rw [decide_eq_true hm, if_pos rfl, if_pos hm]
    unfold encH
    rw [List.map_map, List.map_map]
    apply List.map_congr_left
    intro q _
    show (if (Sum.inr q.1 : Key) = Sum.inr h then ((Sum.inr q.1 : Key), D.bl b) else ((Sum.inr q.1 : Key), D.bl q.2)) = ((Sum.inr (if q.1 = h then (q.1, b) else q).1 : Key), D.bl (if q.1 = h then (q.1, b) else q).2)
    by_cases e : q.1 = h
    · rw [if_pos e, if_pos (by rw [e])]
    · rw [if_neg e, if_neg (fun z => e (Sum.inr.inj z))]
  · rw [decide_eq_false hm, if_neg Bool.false_ne_true, if_neg hm]
    unfold encH
    rw [List.map_append]; rfl
theorem keys_encH (l : List (Str × Bool)) : (encH l).map (fun kv => keyT kv.1) = (l.map (·.1)).map D.str := by unfold encH; rw [List.map_map, List.map_map]; rfl
theorem sH_len (l : List (Str × Bool)) : (encH l).length = l.length := by unfold encH; rw [List.length_map]
/-! ### names -/
def sp_is_name : SpD := fun ds e Q => ∃ z : Str, ds = [.str z] ∧ z.length ≤ 4096 ∧ Q (.bl (isName z)) e
abbrev nm_is_name : List Str := ["word", "sign"]
def t_is_name : TSD :=
 (dSeq (dIfS (dNot (dTest (dChain cLe cLe (dC (.int 1)) (dCall rLen' (dCons (dVar 0) dNil)) (dC (.int 8))))) (dRet (dC (.bl false)))
 dNx)
 (dRet (dCall (rAllD false) (dCons (dComp false (iStrD (dVar 0)) (.one 1) dYes (dOp (rInA false) (dVar 1) (dC (.str ("abcdefghijklmnopqrstuvwxyz" : Str)))) [1]) dNil))))

theorem rd_is_name (ds : List D) (e : Eta) (Q : D → Eta → Prop) (h : sp_is_name ds e Q) : t_is_name (endsD Q) (startD nm_is_name ds) e := by
  obtain ⟨z, rfl, hl, k⟩ := h
  have k := outD.self k
  have hz : z.length ≤ sizeLine := by rw [sizeLine_eq]; omega
  simp [t_is_name, hz]
  by_cases h1 : 1 ≤ z.length ∧ z.length ≤ 8
  · have i1 : (1 : Int) ≤ (z.length : Int) := by omega
    have i2 : (z.length : Int) ≤ 8 := by omega
    simp [i1, i2]
    refine ⟨by rw [sizeLine_eq]; unfold signs; rw [List.length_map, Array.length_toList]; show z.cps.size ≤ _; have : z.cps.size = z.length := rfl; omega, ?_⟩
    unfold signs
    refine comp_pure (p := fun _ => true) (h := fun c : Nat => .bl (decide (c ∈ letters.cps.toList))) trivial z.cps.toList [] (fun c hc => ?_) ?_
    · simp
      intro K q
      have q2 : K (D.bl (!(Builtin.Str.occurrences letters ⟨#[c]⟩ 0 letters.length 1).isEmpty)) e := by rw [sign_in]; simpa using q
      exact q2
    · rw [List.filter_eq_self.mpr (fun _ _ => rfl), List.nil_append]
      simp
      have : isName z = z.cps.toList.all fun c => decide (c ∈ letters.cps.toList) := by
        unfold isName; rw [decide_eq_true h1.1, decide_eq_true h1.2]; rfl
      rw [this] at k
      simpa [List.all_map, Function.comp_def] using k
  · have : isName z = false := by
      unfold isName
      by_cases a : 1 ≤ z.length
      · rw [decide_eq_true a, decide_eq_false (fun b => h1 ⟨a, b⟩)]; rfl
      · rw [decide_eq_false a]; rfl
    rw [this] at k
    by_cases i1 : (1 : Int) ≤ (z.length : Int)
    · have i2 : ¬ (z.length : Int) ≤ 8 := by omega
      simp [i1, i2]; exact k
    · simp [i1]; exact k
theorem use_is_name {z : Str} {e : Eta} {Q : D → Eta → Prop} (hl : z.length ≤ 4096) (k : Q (.bl (isName z)) e) : sp_is_name [.str z] e Q := ⟨z, rfl, hl, k⟩
theorem len_is_name (ds : List D) (e : Eta) (Q : D → Eta → Prop) (h : sp_is_name ds e Q) : ds.length = 1 := by obtain ⟨_, rfl, _⟩ := h; rfl
/-- an exception's fields -/
abbrev wd (C : Str) : List (Str × V) := [("word", .str C)]
def spx_look_at_name : SpX := fun ds e Q E => ∃ z : Str, ds = [.str z] ∧ z.length ≤ 4096 ∧ if isName z = true then Q .non e else E "BadName" (wd "BadName") e
abbrev nm_look_at_name : List Str := ["word"]
def t_look_at_name (xc : XD) : TSD :=
 (dIfS (dNot (dTru (dCall sp_is_name (dCons (dVar 0) dNil)))) (dRaise xc "BadName")
 dNx)

theorem rdx_look_at_name (ds : List D) (e : Eta) (Q : D → Eta → Prop) (E : XP) (h : spx_look_at_name ds e Q E) : t_look_at_name (outX E) (endsD Q) (startD nm_look_at_name ds) e := by
  obtain ⟨z, rfl, hl, k⟩ := h
  simp [t_look_at_name]
  refine use_is_name hl ?_
  by_cases hz : isName z = true
  · rw [if_pos hz] at k
    simp [hz]
    exact outD.self k
  · rw [if_neg hz] at k
    simp [hz]
    exact outX.self k
end FL

set_option Elab.async false
set_option linter.all false
set_option maxRecDepth 100000
set_option maxHeartbeats 4000000
/-! The readings of a stand's methods that look marks and hands up. -/
namespace FL
open PySem PySem.Spec PyProof.Rows L2
theorem Good_ok {S : SM} (g : S.Good) : ∀ p ∈ S.places, PyData.strOk p.1 = true := fun p hp => isName.ok (g.plNm p hp)
theorem Good_hd {S : SM} (g : S.Good) : ∀ h ∈ S.hands, PyData.strOk h = true := fun p hp => isName.ok (g.hdNm p hp)
theorem atI_pl0 (p : Str × Int) {e : Eta} : idxD e (encPl p) (.int 0) = some (.str p.1) := by unfold encPl; simp
theorem atI_pl1 (p : Str × Int) {e : Eta} : idxD e (encPl p) (.int 1) = some (.int p.2) := by unfold encPl; simp
theorem seqD_of {e : Eta} {a : D} {ds : List D} (h : lstD e a = some ds) : seqD e a = some ds := seqD_lst h
/-! ### turns_of, place_of -/
def sp_Stand_turns_of : SpD := fun ds e Q => ∃ (x : D) (n : Str) (S : SM), ds = [x, .str n] ∧ StandAt e x S ∧ S.Good ∧ PyData.strOk n = true ∧ Q (.int (S.turns n : Nat)) e
abbrev nm_Stand_turns_of : List Str := ["self", "name", "place"]
def t_Stand_turns_of : TSD :=
 (dRet (dCall rLen' (dCons (dComp false (iSeq (dFld "Stand" "places" (dVar 0))) (.one 2) (dTest (dOp (rEq2 false) (dOp rIdx (dVar 2) (dC (.int 0))) (dVar 1))) (dVar 2) [2]) dNil)))

theorem rd_Stand_turns_of (ds : List D) (e : Eta) (Q : D → Eta → Prop) (h : sp_Stand_turns_of ds e Q) : t_Stand_turns_of (endsD Q) (startD nm_Stand_turns_of ds) e := by
  obtain ⟨x, n, S, rfl, ⟨a, b, c, h1, h2, h3, h4⟩, g, hn, k⟩ := h
  have k := outD.self k
  have l12 := g.plLen
  simp [t_Stand_turns_of, h1, seqD_of h2]
  refine ⟨leL (by omega), comp_pure (p := fun q : Str × Int => decide (q.1 = n)) (h := encPl) (stay_lst h2) S.places [] (fun q hq => ?_) ?_⟩
  · have o1 := Good_ok g q hq
    simp [atI_pl0, o1, hn]
  · simp
    exact k
theorem use_turns_of {x : D} {n : Str} {S : SM} {e : Eta} {Q : D → Eta → Prop} (h : StandAt e x S) (g : S.Good) (hn : PyData.strOk n = true) (k : Q (.int (S.turns n : Nat)) e) : sp_Stand_turns_of [x, .str n] e Q := ⟨x, n, S, rfl, h, g, hn, k⟩
theorem len_Stand_turns_of (ds : List D) (e : Eta) (Q : D → Eta → Prop) (h : sp_Stand_turns_of ds e Q) : ds.length = 2 := by obtain ⟨_, _, _, rfl, _⟩ := h; rfl
/-- the index of a stand that stands -/
theorem ix_pl {S : SM} (g : S.Good) {q : Str × Int} (hq : q ∈ S.places) {e : Eta} {a : D} (h2 : lstD e a = some (S.places.map encPl)) {Q : D → Eta → Prop} (k : Q (.int (ixA S.places q : Nat)) e) :
    rIndexDp a [encPl q] e Q := by
  have l12 := g.plLen
  simp only [rIndexDp, one_o, h2, onSome_s]
  refine ⟨⟨okD_sh (n := 2) (sh_pls (Good_ok g) (by omega)), okD_sh (n := 1) (sh_pl (Good_ok g q hq))⟩, ixA S.places q, encPl q, by rw [List.getElem?_map, ixA_get hq]; rfl, by rw [eqD_pl]; simp, fun m z' hm hz => ?_, k⟩
  rw [List.getElem?_map] at hz
  obtain ⟨r, hr, rfl⟩ := Option.map_eq_some_iff.mp hz
  rw [eqD_pl]
  exact decide_eq_false (ixA_no hm hr)
def spx_Stand_place_of : SpX := fun ds e Q E => ∃ (x : D) (n : Str) (S : SM), ds = [x, .str n] ∧ StandAt e x S ∧ S.Good ∧ PyData.strOk n = true ∧ if S.turns n = 0 then E "NoMark" (wd "NoMark") e else Q (.int (S.place n)) e
abbrev nm_Stand_place_of : List Str := ["self", "name", "turn"]
def t_Stand_place_of (xc : XD) : TSD :=
 (dSeq (dAsg (dMeth "Stand" "turns_of" sp_Stand_turns_of (dVar 0) (dCons (dVar 1) dNil)) (.one 2))
 (dSeq (dIfS (dTest (dOp (rEq2 false) (dVar 2) (dC (.int 0)))) (dRaise xc "NoMark")
 dNx)
 (dRet (dMth rIndexDp (dFld "Stand" "places" (dVar 0)) (dCons (dTup (dCons (dVar 1) (dCons (dVar 2) dNil))) dNil)))))

theorem rdx_Stand_place_of (ds : List D) (e : Eta) (Q : D → Eta → Prop) (E : XP) (h : spx_Stand_place_of ds e Q E) : t_Stand_place_of (outX E) (endsD Q) (startD nm_Stand_place_of ds) e := by
  obtain ⟨x, n, S, rfl, hS, g, hn, k⟩ := h
  obtain ⟨a, b, c, h1, h2, h3, h4⟩ := id hS
  simp [t_Stand_place_of, h1, -rIndexDp]
  refine use_turns_of hS g hn ?_
  by_cases h0 : S.turns n = 0
  · rw [if_pos h0] at k
    simp [h0]
    exact outX.self k
  · rw [if_neg h0] at k
    have hi : ¬ ((S.turns n : Nat) : Int) = 0 := by omega
    simp [hi, h0, h1, h2, -rIndexDp]
    refine ⟨by rw [sizeLine_eq]; omega, ?_⟩
    exact ix_pl g (g.at h0) h2 (outD.self k)
theorem usex_place_of {x : D} {n : Str} {S : SM} {e : Eta} {Q : D → Eta → Prop} {E : XP} (h : StandAt e x S) (g : S.Good) (hn : PyData.strOk n = true) (k0 : S.turns n = 0 → E "NoMark" (wd "NoMark") e) (k : S.turns n ≠ 0 → Q (.int (S.place n)) e) : spx_Stand_place_of [x, .str n] e Q E := by
  refine ⟨x, n, S, rfl, h, g, hn, ?_⟩
  by_cases h0 : S.turns n = 0
  · rw [if_pos h0]; exact k0 h0
  · rw [if_neg h0]; exact k h0
theorem lenx_Stand_place_of (ds : List D) (e : Eta) (Q : D → Eta → Prop) (E : XP) (h : spx_Stand_place_of ds e Q E) : ds.length = 2 := by obtain ⟨_, _, _, rfl, _⟩ := h; rfl
theorem lenx_look_at_name (ds : List D) (e : Eta) (Q : D → Eta → Prop) (E : XP) (h : spx_look_at_name ds e Q E) : ds.length = 1 := by obtain ⟨_, rfl, _⟩ := h; rfl
theorem usex_look {z : Str} {e : Eta} {Q : D → Eta → Prop} {E : XP} (hl : z.length ≤ 4096) (k0 : isName z = false → E "BadName" (wd "BadName") e) (k : isName z = true → Q .non e) : spx_look_at_name [.str z] e Q E := by
  refine ⟨z, rfl, hl, ?_⟩
  by_cases h : isName z = true
  · rw [if_pos h]; exact k h
  · rw [if_neg h]; exact k0 (by simpa using h)
/-! ### check_hand, hand_names, mark_names -/
def spx_Stand_check_hand : SpX := fun ds e Q E => ∃ (x : D) (n : Str) (S : SM), ds = [x, .str n] ∧ StandAt e x S ∧ if n ∈ S.hands then Q .non e else E "NoHand" (wd "NoHand") e
theorem in_hd {e : Eta} {b : D} {l : List (Str × Bool)} {n : Str} {neg : Bool} {Q : D → Eta → Prop} (h : dicD e b = some (encH l)) (k : Q (.bl (if neg = true then !decide (n ∈ l.map (·.1)) else decide (n ∈ l.map (·.1)))) e) : inY neg (.str n) e Q b := by
  rw [← enc_in] at k
  cases b with
  | ref p => rw [dicD_r] at h; rw [inY_r, dicO_ex h, inC_d]; simpa using k
  | dic kvs => cases h; rw [inY_d]; simpa using k
  | _ => cases h
abbrev nm_Stand_check_hand : List Str := ["self", "name"]
def t_Stand_check_hand (xc : XD) : TSD :=
 (dIfS (dTest (dOp (rInA true) (dVar 1) (dFld "Stand" "heeded" (dVar 0)))) (dRaise xc "NoHand")
 dNx)

theorem rdx_Stand_check_hand (ds : List D) (e : Eta) (Q : D → Eta → Prop) (E : XP) (h : spx_Stand_check_hand ds e Q E) : t_Stand_check_hand (outX E) (endsD Q) (startD nm_Stand_check_hand ds) e := by
  obtain ⟨x, n, S, rfl, ⟨a, b, c, h1, h2, h3, h4⟩, k⟩ := h
  simp [t_Stand_check_hand, h1]
  refine in_hd h3 ?_
  by_cases hn : n ∈ S.hands
  · rw [if_pos hn] at k
    have hn' : n ∈ S.heeded.map (·.1) := hn
    simp only [decide_eq_true hn']
    simp
    exact outD.self k
  · rw [if_neg hn] at k
    have hn' : n ∉ S.heeded.map (·.1) := hn
    simp only [decide_eq_false hn']
    simp
    exact outX.self k
theorem usex_check_hand {x : D} {n : Str} {S : SM} {e : Eta} {Q : D → Eta → Prop} {E : XP} (h : StandAt e x S) (k0 : n ∉ S.hands → E "NoHand" (wd "NoHand") e) (k : n ∈ S.hands → Q .non e) : spx_Stand_check_hand [x, .str n] e Q E := by
  refine ⟨x, n, S, rfl, h, ?_⟩
  by_cases hn : n ∈ S.hands
  · rw [if_pos hn]; exact k hn
  · rw [if_neg hn]; exact k0 hn
theorem lenx_Stand_check_hand (ds : List D) (e : Eta) (Q : D → Eta → Prop) (E : XP) (h : spx_Stand_check_hand ds e Q E) : ds.length = 2 := by obtain ⟨_, _, _, rfl, _⟩ := h; rfl
theorem itm_dic {e : Eta} {b : D} {kvs : List (Key × D)} (h : dicD e b = some kvs) : itmD e b = some (kvs.map fun kv => keyT kv.1) := by
  cases b with
  | ref p => rw [dicD_r] at h; rw [itmD_r, dicO_ex h]; rfl
  | dic kvs => cases h; rfl
  | _ => cases h
theorem len_dic {e : Eta} {b : D} {kvs : List (Key × D)} (h : dicD e b = some kvs) : lenD e b = some kvs.length := by
  cases b with
  | ref p => rw [dicD_r] at h; rw [lenD_r, dicO_ex h]; rfl
  | dic kvs => cases h; rfl
  | _ => cases h
theorem idx_hd {e : Eta} {b : D} {l : List (Str × Bool)} {n : Str} (h : dicD e b = some (encH l)) (hn : n ∈ l.map (·.1)) : idxD e b (.str n) = some (.bl (hdOf l n)) := by
  cases b with
  | ref p => rw [dicD_r] at h; rw [idxD_r, dicO_ex h, idxC_d, keyD_s]; exact enc_at hn
  | dic kvs => cases h; rw [idxD_d, keyD_s]; exact enc_at hn
  | _ => cases h
/-- as a tree -/
def sp_Stand_hand_names : SpD := fun ds e Q => ∃ (x : D) (S : SM), ds = [x] ∧ StandAt e x S ∧ Q (.lst (S.hands.map D.str)) e
def spc_Stand_hand_names : SpD := fun ds e Q => ∃ (x : D) (S : SM), ds = [x] ∧ StandAt e x S ∧ ∀ p, e p = none → Q (.ref p) (e.put p (.lst (S.hands.map D.str)))
abbrev nm_Stand_hand_names : List Str := ["self"]
def t_Stand_hand_names : TSD :=
 (dRet (dCall (rList true) (dCons (dFld "Stand" "heeded" (dVar 0)) dNil)))

theorem rd_Stand_hand_names (ds : List D) (e : Eta) (Q : D → Eta → Prop) (h : spc_Stand_hand_names ds e Q) : t_Stand_hand_names (endsD Q) (startD nm_Stand_hand_names ds) e := by
  obtain ⟨x, S, rfl, ⟨a, b, c, h1, h2, h3, h4⟩, k⟩ := h
  simp [t_Stand_hand_names, h1, itm_dic h3]
  intro p hp
  have := k p hp
  rw [show S.hands.map D.str = (encH S.heeded).map (fun kv => keyT kv.1) from (keys_encH S.heeded).symm] at this
  exact outD.self this
theorem tree_Stand_hand_names : ∀ ds e Q, sp_Stand_hand_names ds e Q → spc_Stand_hand_names ds e (outD Q) := by
  rintro ds e Q ⟨x, S, rfl, h, k⟩
  exact ⟨x, S, rfl, h, fun p hp => out_cell put_same hp (Sub.put hp) k⟩
theorem len_Stand_hand_names (ds : List D) (e : Eta) (Q : D → Eta → Prop) (h : spc_Stand_hand_names ds e Q) : ds.length = 1 := by obtain ⟨_, _, rfl, _⟩ := h; rfl
end FL

set_option Elab.async false
set_option linter.all false
set_option maxRecDepth 100000
set_option maxHeartbeats 4000000
/-! The readings of a stand's methods that change it. -/
namespace FL
open PySem PySem.Spec PyProof.Rows L2
/-- all cells but these stay -/
def Keep (l : List Addr) (e e' : Eta) : Prop := ∀ q o, q ∉ l → e q = some o → e' q = some o
theorem Keep.refl {l : List Addr} {e : Eta} : Keep l e e := fun _ _ _ h => h
theorem Keep.put {l : List Addr} {e e' : Eta} {p : Addr} {o : O} (h : Keep l e e') (hp : p ∈ l) : Keep l e (e'.put p o) := fun q u hq hu => by rw [put_ne (fun z => hq (by rw [z]; exact hp))]; exact h q u hq hu
theorem Keep.new {l : List Addr} {e e' : Eta} {p : Addr} {o : O} (h : Keep l e e') (hp : e p = none) : Keep l e (e'.put p o) := fun q u hq hu => by rw [put_ne (ne_cell hp hu)]; exact h q u hq hu
theorem Keep.trans {l : List Addr} {e e1 e2 : Eta} (h : Keep l e e1) (g : Keep l e1 e2) : Keep l e e2 := fun q o hq hu => g q o hq (h q o hq hu)
theorem Keep.mono {l m : List Addr} {e e1 : Eta} (h : Keep l e e1) (hl : ∀ q ∈ l, q ∈ m) : Keep m e e1 := fun q o hq hu => h q o (fun z => hq (hl q z)) hu
/-- .. cells that weren't there -/
theorem Keep.drop {l : List Addr} {e e1 : Eta} (h : Keep l e e1) (hl : ∀ q ∈ l, e q = none) : Keep [] e e1 := fun q o _ hu => h q o (fun z => by rw [hl q z] at hu; cases hu) hu
section
variable {e : Eta} {p a b c : Addr} {S : SM}
theorem StandC.pa (h : StandC e p a b c S) : p ≠ a := fun z => by have := h.ins; rw [z, h.pl] at this; cases this
theorem StandC.pb (h : StandC e p a b c S) : p ≠ b := fun z => by have := h.ins; rw [z, h.hd] at this; cases this
theorem StandC.pc (h : StandC e p a b c S) : p ≠ c := fun z => by have := h.ins; rw [z, h.rw_] at this; cases this
theorem StandC.ab (h : StandC e p a b c S) : a ≠ b := fun z => by have := h.pl; rw [z, h.hd] at this; cases this
theorem StandC.bc (h : StandC e p a b c S) : b ≠ c := fun z => by have := h.hd; rw [z, h.rw_] at this; cases this
theorem StandC.setA (h : StandC e p a b c S) {l : List (Str × Int)} {S' : SM} (hs : S' = { S with places := l }) : StandC (e.put a (.lst (l.map encPl))) p a b c S' := by
  subst hs
  exact ⟨by rw [put_ne h.pa]; exact h.ins, put_same, by rw [put_ne h.ab.symm]; exact h.hd, by rw [put_ne h.ne.symm]; exact h.rw_, h.ne⟩
theorem StandC.setB (h : StandC e p a b c S) {l : List (Str × Bool)} {S' : SM} (hs : S' = { S with heeded := l }) : StandC (e.put b (.dic (encH l))) p a b c S' := by
  subst hs
  exact ⟨by rw [put_ne h.pb]; exact h.ins, by rw [put_ne h.ab]; exact h.pl, put_same, by rw [put_ne h.bc.symm]; exact h.rw_, h.ne⟩
theorem StandC.setC (h : StandC e p a b c S) {l : List Row} {S' : SM} (hs : S' = { S with rows := l }) : StandC (e.put c (.lst (l.map encRow))) p a b c S' := by
  subst hs
  exact ⟨by rw [put_ne h.pc]; exact h.ins, by rw [put_ne h.ne]; exact h.pl, by rw [put_ne h.bc]; exact h.hd, put_same, h.ne⟩
theorem StandC.setP (h : StandC e p a b c S) {x y : Int} {S' : SM} (hs : S' = { S with entered := x, many := y }) : StandC (e.put p (.ins "Stand" (standF (.ref a) (.ref b) (.ref c) (.int x) (.int y)))) p a b c S' := by
  subst hs
  exact ⟨put_same, by rw [put_ne h.pa.symm]; exact h.pl, by rw [put_ne h.pb.symm]; exact h.hd, by rw [put_ne h.pc.symm]; exact h.rw_, h.ne⟩
end
theorem setF_le {α : Type} (f : Str) (v : α) : ∀ fs : List (Str × α), (setF f v fs).length ≤ fs.length + 1
  | [] => by simp [setF]
  | (g, x) :: r => by
    have := setF_le f v r
    unfold setF
    split <;> simp <;> omega
/-! ### a new one, a copy -/
def sp_Stand___init__ : SpD := fun ds e Q => ∃ p, ds = [.ref p] ∧ e p = some (.ins "Stand" []) ∧ ∀ a b c e', e a = none → e b = none → e c = none → StandC e' p a b c SM.new → Keep [p] e e' → Q .non e'
abbrev nm_Stand___init__ : List Str := ["self"]
def t_Stand___init__ : TSD :=
 (dSeq (dSetF "Stand" "places" (dVar 0) (dLstC dNil))
 (dSeq (dSetF "Stand" "heeded" (dVar 0) dDicC)
 (dSeq (dSetF "Stand" "rows" (dVar 0) (dLstC dNil))
 (dSeq (dSetF "Stand" "entered" (dVar 0) (dC (.int 0)))
 (dSetF "Stand" "many" (dVar 0) (dC (.int 0)))))))

theorem rd_Stand___init__ (ds : List D) (e : Eta) (Q : D → Eta → Prop) (h : sp_Stand___init__ ds e Q) : t_Stand___init__ (endsD Q) (startD nm_Stand___init__ ds) e := by
  obtain ⟨p, rfl, hp, k⟩ := h
  simp [t_Stand___init__]
  intro a ha
  have pa : p ≠ a := fun z => by rw [z, ha] at hp; cases hp
  simp [put_ne pa, hp, setF]
  intro b hb
  have bp : b ≠ p := fun z => by rw [z, put_same] at hb; cases hb
  rw [put_ne bp] at hb
  have ba : b ≠ a := fun z => by rw [z, put_same] at hb; cases hb
  rw [put_ne ba] at hb
  simp [put_ne bp.symm]
  intro c hc
  have cp : c ≠ p := fun z => by rw [z, put_same] at hc; cases hc
  rw [put_ne cp] at hc
  have cb : c ≠ b := fun z => by rw [z, put_same] at hc; cases hc
  rw [put_ne cb, put_ne cp] at hc
  have ca : c ≠ a := fun z => by rw [z, put_same] at hc; cases hc
  rw [put_ne ca] at hc
  simp [put_ne cp.symm]
  have l1 := setF_le ("heeded" : Str) (D.ref b) [(("places" : Str), D.ref a)]
  have l2 := setF_le ("rows" : Str) (D.ref c) (setF "heeded" (D.ref b) [(("places" : Str), D.ref a)])
  have l3 := setF_le ("entered" : Str) (D.int 0) (setF "rows" (D.ref c) (setF "heeded" (D.ref b) [(("places" : Str), D.ref a)]))
  simp only [List.length_cons, List.length_nil] at l1
  refine ⟨by omega, by omega, by omega, outD.self (k a b c _ ha hb hc ⟨?_, ?_, ?_, ?_, ca.symm⟩ ?_)⟩
  · rw [put_same]; rfl
  · rw [put_ne pa.symm, put_ne ca.symm, put_ne pa.symm, put_ne ba.symm, put_ne pa.symm, put_same]; rfl
  · rw [put_ne bp, put_ne cb.symm, put_ne bp, put_same]; rfl
  · rw [put_ne cp, put_same]; rfl
  · exact .put (.new (.put (.new (.put (.new .refl ha) (by simp)) hb) (by simp)) hc) (by simp)
theorem use_new {p : Addr} {e : Eta} {Q : D → Eta → Prop} (hp : e p = some (.ins "Stand" [])) (k : ∀ a b c e', e a = none → e b = none → e c = none → StandC e' p a b c SM.new → Keep [p] e e' → Q .non e') : sp_Stand___init__ [.ref p] e Q := ⟨p, rfl, hp, k⟩
theorem len_Stand___init__ (ds : List D) (e : Eta) (Q : D → Eta → Prop) (h : sp_Stand___init__ ds e Q) : ds.length = 1 := by obtain ⟨_, rfl, _⟩ := h; rfl
theorem Keep.v {e e' : Eta} {x a b c : D} {S : SM} (k : Keep [] e e') (h : StandV e x a b c S) : StandV e' x a b c S := by
  obtain ⟨h1, h2, h3, h4⟩ := h
  have lst : ∀ {a : D} {ds : List D}, lstD e a = some ds → lstD e' a = some ds := fun {a ds} h => by
    rcases lstD_cases h with rfl | ⟨q, rfl, h'⟩
    · rfl
    · rw [lstD_r, k q _ (by simp) h']; rfl
  refine ⟨?_, lst h2, ?_, lst h4⟩
  · cases x with
    | ref q => rw [insD_r] at h1 ⊢; rw [k q _ (by simp) (insO_ex h1), insO_i]
    | obj C fs => exact h1
    | _ => cases h1
  · cases b with
    | ref q => rw [dicD_r] at h3 ⊢; rw [k q _ (by simp) (dicO_ex h3)]; rfl
    | dic kvs => exact h3
    | _ => cases h3
theorem Keep.stand {e e' : Eta} {x : D} {S : SM} (k : Keep [] e e') (h : StandAt e x S) : StandAt e' x S := let ⟨a, b, c, v⟩ := h; ⟨a, b, c, k.v v⟩
def sp_Stand_like : SpD := fun ds e Q => ∃ (x : D) (S : SM), ds = [x] ∧ StandAt e x S ∧ ∀ p a b c e', e p = none → e a = none → e b = none → e c = none → StandC e' p a b c S → Keep [] e e' → Q (.ref p) e'
abbrev nm_Stand_like : List Str := ["self", "other"]
def t_Stand_like : TSD :=
 (dSeq (dAsg (dMake "Stand" sp_Stand___init__ dNil) (.one 1))
 (dSeq (dSetF "Stand" "places" (dVar 1) (dCall (rList true) (dCons (dFld "Stand" "places" (dVar 0)) dNil)))
 (dSeq (dSetF "Stand" "heeded" (dVar 1) (dCall rDictC (dCons (dFld "Stand" "heeded" (dVar 0)) dNil)))
 (dSeq (dSetF "Stand" "rows" (dVar 1) (dCall (rList true) (dCons (dFld "Stand" "rows" (dVar 0)) dNil)))
 (dSeq (dSetF "Stand" "entered" (dVar 1) (dFld "Stand" "entered" (dVar 0)))
 (dSeq (dSetF "Stand" "many" (dVar 1) (dFld "Stand" "many" (dVar 0)))
 (dRet (dVar 1))))))))

theorem rd_Stand_like (ds : List D) (e : Eta) (Q : D → Eta → Prop) (h : sp_Stand_like ds e Q) : t_Stand_like (endsD Q) (startD nm_Stand_like ds) e := by
  obtain ⟨x, S, rfl, hS, k⟩ := h
  simp [t_Stand_like]
  intro p hp
  refine use_new put_same fun a0 b0 c0 e1 na nb nc hN K1 => ?_
  have K0 : Keep [] e e1 := (Keep.trans ((Keep.new (l := []) .refl hp).mono (by simp)) K1).drop (by simpa using hp)
  obtain ⟨xa, xb, xc, v⟩ := hS
  have v1 := K0.v v
  refine ⟨rfl, ?_⟩
  simp [v1.ins, itmD_lst v1.pl]
  intro a ha
  have pa : p ≠ a := fun z => by rw [← z, hN.ins] at ha; cases ha
  have K2 : Keep [] e (e1.put a (.lst (S.places.map encPl))) := K0.trans (.new .refl ha)
  rw [put_ne pa, hN.ins]
  simp
  have K3 := K2.new (o := .ins "Stand" (standF (.ref a) (.ref b0) (.ref c0) (.int SM.new.entered) (.int SM.new.many))) hp
  generalize hE : (e1.put a (.lst (S.places.map encPl))).put p (.ins "Stand" (standF (.ref a) (.ref b0) (.ref c0) (.int SM.new.entered) (.int SM.new.many))) = e3 at K3 ⊢
  have p3 : e3 p = some (.ins "Stand" (standF (.ref a) (.ref b0) (.ref c0) (.int SM.new.entered) (.int SM.new.many))) := by rw [← hE, put_same]
  have a3 : e3 a = some (.lst (S.places.map encPl)) := by rw [← hE, put_ne pa.symm, put_same]
  have na' : e a = none := by cases q : e a with | none => rfl | some o => rw [K0 a o (by simp) q] at ha; cases ha
  clear hE K2 ha
  have v3 := K3.v v
  simp [v3.ins, v3.hd]
  intro b hb
  have pb : p ≠ b := fun z => by rw [← z, p3] at hb; cases hb
  have ab : a ≠ b := fun z => by rw [← z, a3] at hb; cases hb
  have nb' : e b = none := by cases q : e b with | none => rfl | some o => rw [K3 b o (by simp) q] at hb; cases hb
  rw [put_ne pb, p3]
  simp
  have K5 := (K3.trans (.new (o := .dic (encH S.heeded)) .refl hb)).new (o := .ins "Stand" (standF (.ref a) (.ref b) (.ref c0) (.int SM.new.entered) (.int SM.new.many))) hp
  generalize hE : (e3.put b (.dic (encH S.heeded))).put p (.ins "Stand" (standF (.ref a) (.ref b) (.ref c0) (.int SM.new.entered) (.int SM.new.many))) = e5 at K5 ⊢
  have p5 : e5 p = some (.ins "Stand" (standF (.ref a) (.ref b) (.ref c0) (.int SM.new.entered) (.int SM.new.many))) := by rw [← hE, put_same]
  have a5 : e5 a = some (.lst (S.places.map encPl)) := by rw [← hE, put_ne pa.symm, put_ne ab, a3]
  have b5 : e5 b = some (.dic (encH S.heeded)) := by rw [← hE, put_ne pb.symm, put_same]
  clear hE hb p3 a3
  have v5 := K5.v v
  simp [v5.ins, itmD_lst v5.rw_]
  intro c hc
  have pc : p ≠ c := fun z => by rw [← z, p5] at hc; cases hc
  have ac : a ≠ c := fun z => by rw [← z, a5] at hc; cases hc
  have bc : b ≠ c := fun z => by rw [← z, b5] at hc; cases hc
  have nc' : e c = none := by cases q : e c with | none => rfl | some o => rw [K5 c o (by simp) q] at hc; cases hc
  rw [put_ne pc, p5]
  simp
  have K7 := (K5.trans (.new (o := .lst (S.rows.map encRow)) .refl hc)).new (o := .ins "Stand" (standF (.ref a) (.ref b) (.ref c) (.int SM.new.entered) (.int SM.new.many))) hp
  have v7 := K7.v v
  simp [v7.ins]
  have K8 := (K5.trans (.new (o := .lst (S.rows.map encRow)) .refl hc)).new (o := .ins "Stand" (standF (.ref a) (.ref b) (.ref c) (.int S.entered) (.int SM.new.many))) hp
  have v8 := K8.v v
  simp [v8.ins]
  refine outD.self (k p a b c _ hp na' nb' nc' ⟨put_same, ?_, ?_, ?_, ac⟩ ((K5.trans (.new (o := .lst (S.rows.map encRow)) .refl hc)).new hp))
  · rw [put_ne pa.symm, put_ne ac, a5]
  · rw [put_ne pb.symm, put_ne bc, b5]
  · rw [put_ne pc.symm, put_same]
theorem use_like {x : D} {S : SM} {e : Eta} {Q : D → Eta → Prop} (h : StandAt e x S) (k : ∀ p a b c e', e p = none → e a = none → e b = none → e c = none → StandC e' p a b c S → Keep [] e e' → Q (.ref p) e') : sp_Stand_like [x] e Q := ⟨x, S, rfl, h, k⟩
theorem len_Stand_like (ds : List D) (e : Eta) (Q : D → Eta → Prop) (h : sp_Stand_like ds e Q) : ds.length = 1 := by obtain ⟨_, _, rfl, _⟩ := h; rfl
end FL

set_option Elab.async false
set_option linter.all false
set_option maxRecDepth 100000
set_option maxHeartbeats 4000000
/-! The readings of the deeds. -/
namespace FL
open PySem PySem.Spec PyProof.Rows L2
def TOk (n : Str) : Prop := PyData.strOk n = true ∧ n.length ≤ 4096
def toldD : Option Int → D
  | none => .non
  | some i => .int i
def stepQ (S : SM) (d : Deed) (p a b c : Addr) (e : Eta) (Q : D → Eta → Prop) (E : XP) : Prop := match S.no d with
  | some w => E w (wd w) e
  | none => ∀ e', StandC e' p a b c (S.did d) → Keep [p, a, b, c] e e' → Q (toldD (S.tells d)) e'
section
variable {S : SM} {d : Deed} {p a b c : Addr} {e : Eta} {Q : D → Eta → Prop} {E : XP} {w : Str} {dl : Sd}
theorem stepQ.bad (k : stepQ S d p a b c e Q E) (h : S.no d = some w) : outX E w (wd w) dl e := by
  unfold stepQ at k
  rw [h] at k
  exact outX.self k
theorem stepQ.good (k : stepQ S d p a b c e Q E) (h : S.no d = none) {e' : Eta} (hS : StandC e' p a b c (S.did d)) (K : Keep [p, a, b, c] e e') : outD Q (toldD (S.tells d)) e' := by
  unfold stepQ at k
  rw [h] at k
  exact outD.self (k e' hS K)
end
theorem inPl {e : Eta} {p a b c : Addr} {S : SM} (h : StandC e p a b c S) : insO "Stand" (e p) = some (standF (.ref a) (.ref b) (.ref c) (.int S.entered) (.int S.many)) := by rw [h.ins, insO_i]
def spx_Stand_put_mark : SpX := fun ds e Q E => ∃ p a b c S n, ds = [.ref p, .str n] ∧ StandC e p a b c S ∧ S.Good ∧ TOk n ∧ stepQ S (.mark n) p a b c e Q E
abbrev nm_Stand_put_mark : List Str := ["self", "name"]
def t_Stand_put_mark (xc : XD) : TSD :=
 (dSeq (dExp (dCallX xc spx_look_at_name (dCons (dVar 1) dNil)))
 (dSeq (dIfS (dTest (dOp rGtD (dMeth "Stand" "turns_of" sp_Stand_turns_of (dVar 0) (dCons (dVar 1) dNil)) (dC (.int 0)))) (dRaise xc "Taken")
 dNx)
 (dSeq (dIfS (dTest (dOp rGeD (dCall rLen' (dCons (dFld "Stand" "places" (dVar 0)) dNil)) (dC (.int 12)))) (dRaise xc "Full")
 dNx)
 (dExp (dMth rAppD (dFld "Stand" "places" (dVar 0)) (dCons (dTup (dCons (dVar 1) (dCons (dC (.int 1)) dNil))) dNil))))))

theorem rdx_Stand_put_mark (ds : List D) (e : Eta) (Q : D → Eta → Prop) (E : XP) (h : spx_Stand_put_mark ds e Q E) : t_Stand_put_mark (outX E) (endsD Q) (startD nm_Stand_put_mark ds) e := by
  obtain ⟨p, a, b, c, S, n, rfl, hS, g, hn, k⟩ := h
  have l12 := g.plLen
  simp [t_Stand_put_mark]
  refine usex_look hn.2 (fun h0 => k.bad (w := "BadName") (by simp [SM.no, h0])) fun h1 => ?_
  simp [inPl hS]
  refine use_turns_of hS.at g hn.1 ?_
  by_cases h2 : S.turns n > 0
  · have : 0 < S.turns n := by omega
    simp [this]
    exact k.bad (w := "Taken") (by simp only [SM.no, h1]; simp [h2])
  · have : ¬ (0 : Int) < ((S.turns n : Nat) : Int) := by omega
    have h0 : S.turns n = 0 := by omega
    simp [this, h0, inPl hS, hS.pl]
    by_cases h3 : S.places.length ≥ 12
    · have : (12 : Int) ≤ (S.places.length : Int) := by omega
      simp [this]
      exact k.bad (w := "Full") (by simp only [SM.no, h1]; simp [h0]; omega)
    · have : ¬ (12 : Int) ≤ (S.places.length : Int) := by omega
      simp [this, inPl hS, hS.pl]
      refine ⟨by rw [sizeLine_eq]; omega, ltL (by omega), ?_⟩
      have := k.good (by simp only [SM.no, h1]; simp [h0]; omega) (hS.setA (l := S.places ++ [(n, (S.turns n : Int) + 1)]) rfl) (Keep.put .refl (by simp))
      rw [List.map_append] at this
      simpa [h0, encPl, toldD, SM.tells] using this
theorem lenx_Stand_put_mark (ds : List D) (e : Eta) (Q : D → Eta → Prop) (E : XP) (h : spx_Stand_put_mark ds e Q E) : ds.length = 2 := by obtain ⟨_, _, _, _, _, _, rfl, _⟩ := h; rfl
def spx_Stand_put_hand : SpX := fun ds e Q E => ∃ p a b c S n, ds = [.ref p, .str n] ∧ StandC e p a b c S ∧ S.Good ∧ TOk n ∧ stepQ S (.hand n) p a b c e Q E
abbrev nm_Stand_put_hand : List Str := ["self", "name"]
def t_Stand_put_hand (xc : XD) : TSD :=
 (dSeq (dExp (dCallX xc spx_look_at_name (dCons (dVar 1) dNil)))
 (dSeq (dIfS (dTest (dOp (rInA false) (dVar 1) (dFld "Stand" "heeded" (dVar 0)))) (dRaise xc "Taken")
 dNx)
 (dSeq (dIfS (dTest (dOp rGeD (dCall rLen' (dCons (dFld "Stand" "heeded" (dVar 0)) dNil)) (dC (.int 10)))) (dRaise xc "Full")
 dNx)
 (dSto (dFld "Stand" "heeded" (dVar 0)) (dVar 1) (dC (.bl true))))))

theorem rdx_Stand_put_hand (ds : List D) (e : Eta) (Q : D → Eta → Prop) (E : XP) (h : spx_Stand_put_hand ds e Q E) : t_Stand_put_hand (outX E) (endsD Q) (startD nm_Stand_put_hand ds) e := by
  obtain ⟨p, a, b, c, S, n, rfl, hS, g, hn, k⟩ := h
  have l10 := g.hdLen
  simp [t_Stand_put_hand]
  refine usex_look hn.2 (fun h0 => k.bad (w := "BadName") (by simp [SM.no, h0])) fun h1 => ?_
  simp [inPl hS, -inY_r]
  refine in_hd (b := .ref b) (by rw [dicD_r, hS.hd]; rfl) ?_
  by_cases h2 : n ∈ S.heeded.map (·.1)
  · simp only [decide_eq_true h2]
    simp
    exact k.bad (w := "Taken") (by simp only [SM.no, h1, SM.hands]; simp only [h2]; simp)
  · simp only [decide_eq_false h2]
    simp [inPl hS, hS.hd, sH_len]
    by_cases h3 : S.heeded.length ≥ 10
    · have : (10 : Int) ≤ (S.heeded.length : Int) := by omega
      simp [this]
      exact k.bad (w := "Full") (by simp only [SM.no, h1, SM.hands, if_neg h2, if_pos h3]; simp)
    · have : ¬ (10 : Int) ≤ (S.heeded.length : Int) := by omega
      simp [this, inPl hS, hS.hd, sH_len, ltL (show S.heeded.length < 8192 by omega), enc_put]
      exact k.good (by simp only [SM.no, h1, SM.hands, if_neg h2, if_neg h3]; simp) (hS.setB rfl) (Keep.put .refl (by simp))
theorem lenx_Stand_put_hand (ds : List D) (e : Eta) (Q : D → Eta → Prop) (E : XP) (h : spx_Stand_put_hand ds e Q E) : ds.length = 2 := by obtain ⟨_, _, _, _, _, _, rfl, _⟩ := h; rfl
def spx_Stand_settle : SpX := fun ds e Q E => ∃ p a b c S n, ds = [.ref p, .str n] ∧ StandC e p a b c S ∧ S.Good ∧ TOk n ∧ stepQ S (.settle n) p a b c e Q E
abbrev nm_Stand_settle : List Str := ["self", "name"]
def t_Stand_settle (xc : XD) : TSD :=
 (dSeq (dExp (dMethX xc "Stand" "place_of" spx_Stand_place_of (dVar 0) (dCons (dVar 1) dNil)))
 (dSeq (dIfS (dTest (dOp rGeD (dCall rLen' (dCons (dFld "Stand" "places" (dVar 0)) dNil)) (dC (.int 12)))) (dRaise xc "Full")
 dNx)
 (dExp (dMth rAppD (dFld "Stand" "places" (dVar 0)) (dCons (dTup (dCons (dVar 1) (dCons (dOp rPlus (dMeth "Stand" "turns_of" sp_Stand_turns_of (dVar 0) (dCons (dVar 1) dNil)) (dC (.int 1))) dNil))) dNil)))))

theorem rdx_Stand_settle (ds : List D) (e : Eta) (Q : D → Eta → Prop) (E : XP) (h : spx_Stand_settle ds e Q E) : t_Stand_settle (outX E) (endsD Q) (startD nm_Stand_settle ds) e := by
  obtain ⟨p, a, b, c, S, n, rfl, hS, g, hn, k⟩ := h
  have l12 := g.plLen
  simp [t_Stand_settle, inPl hS]
  refine usex_place_of hS.at g hn.1 (fun h0 => k.bad (w := "NoMark") (by simp [SM.no, h0])) fun h1 => ?_
  simp [inPl hS, hS.pl]
  by_cases h3 : S.places.length ≥ 12
  · have : (12 : Int) ≤ (S.places.length : Int) := by omega
    simp [this]
    exact k.bad (w := "Full") (by simp only [SM.no, if_neg h1, if_pos h3])
  · have : ¬ (12 : Int) ≤ (S.places.length : Int) := by omega
    simp [this, inPl hS, hS.pl]
    refine use_turns_of hS.at g hn.1 ?_
    simp [hS.pl]
    refine ⟨by rw [sizeLine_eq]; omega, ltL (by omega), ?_⟩
    have := k.good (by simp only [SM.no, if_neg h1, if_neg h3]) (hS.setA (l := S.places ++ [(n, (S.turns n : Int) + 1)]) rfl) (Keep.put .refl (by simp))
    rw [List.map_append] at this
    simpa [encPl, toldD, SM.tells] using this
theorem lenx_Stand_settle (ds : List D) (e : Eta) (Q : D → Eta → Prop) (E : XP) (h : spx_Stand_settle ds e Q E) : ds.length = 2 := by obtain ⟨_, _, _, _, _, _, rfl, _⟩ := h; rfl
def spx_Stand_put_aside : SpX := fun ds e Q E => ∃ p a b c S n, ds = [.ref p, .str n] ∧ StandC e p a b c S ∧ S.Good ∧ stepQ S (.aside n) p a b c e Q E
abbrev nm_Stand_put_aside : List Str := ["self", "hand"]
def t_Stand_put_aside (xc : XD) : TSD :=
 (dSeq (dExp (dMethX xc "Stand" "check_hand" spx_Stand_check_hand (dVar 0) (dCons (dVar 1) dNil)))
 (dSeq (dIfS (dNot (dTru (dOp rIdx (dFld "Stand" "heeded" (dVar 0)) (dVar 1)))) (dRaise xc "Aside")
 dNx)
 (dSto (dFld "Stand" "heeded" (dVar 0)) (dVar 1) (dC (.bl false)))))

theorem rdx_Stand_put_aside (ds : List D) (e : Eta) (Q : D → Eta → Prop) (E : XP) (h : spx_Stand_put_aside ds e Q E) : t_Stand_put_aside (outX E) (endsD Q) (startD nm_Stand_put_aside ds) e := by
  obtain ⟨p, a, b, c, S, n, rfl, hS, g, k⟩ := h
  have l10 := g.hdLen
  simp [t_Stand_put_aside, inPl hS]
  refine usex_check_hand hS.at (fun h0 => k.bad (w := "NoHand") (by simp [SM.no, h0])) fun h1 => ?_
  simp [inPl hS, hS.hd, enc_at (show n ∈ S.heeded.map (·.1) from h1)]
  by_cases h2 : hdOf S.heeded n = false
  · simp [h2]
    exact k.bad (w := "Aside") (by simp [SM.no, h1, h2])
  · have h2' : hdOf S.heeded n = true := by simpa using h2
    simp [h2', inPl hS, hS.hd, sH_len, ltL (show S.heeded.length < 8192 by omega), enc_put]
    exact k.good (by simp [SM.no, h1, h2']) (hS.setB rfl) (Keep.put .refl (by simp))
theorem lenx_Stand_put_aside (ds : List D) (e : Eta) (Q : D → Eta → Prop) (E : XP) (h : spx_Stand_put_aside ds e Q E) : ds.length = 2 := by obtain ⟨_, _, _, _, _, _, rfl, _⟩ := h; rfl
def spx_Stand_heed : SpX := fun ds e Q E => ∃ p a b c S n, ds = [.ref p, .str n] ∧ StandC e p a b c S ∧ S.Good ∧ stepQ S (.heed n) p a b c e Q E
abbrev nm_Stand_heed : List Str := ["self", "hand"]
def t_Stand_heed (xc : XD) : TSD :=
 (dSeq (dExp (dMethX xc "Stand" "check_hand" spx_Stand_check_hand (dVar 0) (dCons (dVar 1) dNil)))
 (dSeq (dIfS (dTru (dOp rIdx (dFld "Stand" "heeded" (dVar 0)) (dVar 1))) (dRaise xc "NotAside")
 dNx)
 (dSto (dFld "Stand" "heeded" (dVar 0)) (dVar 1) (dC (.bl true)))))

theorem rdx_Stand_heed (ds : List D) (e : Eta) (Q : D → Eta → Prop) (E : XP) (h : spx_Stand_heed ds e Q E) : t_Stand_heed (outX E) (endsD Q) (startD nm_Stand_heed ds) e := by
  obtain ⟨p, a, b, c, S, n, rfl, hS, g, k⟩ := h
  have l10 := g.hdLen
  simp [t_Stand_heed, inPl hS]
  refine usex_check_hand hS.at (fun h0 => k.bad (w := "NoHand") (by simp [SM.no, h0])) fun h1 => ?_
  simp [inPl hS, hS.hd, enc_at (show n ∈ S.heeded.map (·.1) from h1)]
  by_cases h2 : hdOf S.heeded n = true
  · simp [h2]
    exact k.bad (w := "NotAside") (by simp [SM.no, h1, h2])
  · have h2' : hdOf S.heeded n = false := by simpa using h2
    simp [h2', inPl hS, hS.hd, sH_len, ltL (show S.heeded.length < 8192 by omega), enc_put]
    exact k.good (by simp [SM.no, h1, h2']) (hS.setB rfl) (Keep.put .refl (by simp))
theorem lenx_Stand_heed (ds : List D) (e : Eta) (Q : D → Eta → Prop) (E : XP) (h : spx_Stand_heed ds e Q E) : ds.length = 2 := by obtain ⟨_, _, _, _, _, _, rfl, _⟩ := h; rfl
def spx_Stand_allow : SpX := fun ds e Q E => ∃ p a b c S i, ds = [.ref p, .int i] ∧ StandC e p a b c S ∧ stepQ S (.allow i) p a b c e Q E
abbrev nm_Stand_allow : List Str := ["self", "many"]
def t_Stand_allow (xc : XD) : TSD :=
 (dSeq (dIfS (dNot (dTest (dChain cLe cLe (dC (.int 0)) (dVar 1) (dC (.int 3))))) (dRaise xc "BadNumber")
 dNx)
 (dSetF "Stand" "many" (dVar 0) (dVar 1)))

theorem rdx_Stand_allow (ds : List D) (e : Eta) (Q : D → Eta → Prop) (E : XP) (h : spx_Stand_allow ds e Q E) : t_Stand_allow (outX E) (endsD Q) (startD nm_Stand_allow ds) e := by
  obtain ⟨p, a, b, c, S, i, rfl, hS, k⟩ := h
  simp [t_Stand_allow]
  by_cases h1 : 0 ≤ i
  · by_cases h2 : i ≤ 3
    · simp [h1, h2, inPl hS]
      exact k.good (by simp [SM.no, h1, h2]) (hS.setP rfl) (Keep.put .refl (by simp))
    · simp [h1, h2]
      exact k.bad (w := "BadNumber") (by simp [SM.no]; omega)
  · simp [h1]
    exact k.bad (w := "BadNumber") (by simp [SM.no]; omega)
theorem lenx_Stand_allow (ds : List D) (e : Eta) (Q : D → Eta → Prop) (E : XP) (h : spx_Stand_allow ds e Q E) : ds.length = 2 := by obtain ⟨_, _, _, _, _, _, rfl, _⟩ := h; rfl
end FL

set_option Elab.async false
set_option linter.all false
set_option maxRecDepth 100000
set_option maxHeartbeats 4000000
/-! The readings of the deeds with runs. -/
namespace FL
open PySem PySem.Spec PyProof.Rows L2
def ixR (l : List Row) (k : Int) : Nat := l.findIdx fun r => decide (r.num = k)
theorem ixR_lt {l : List Row} {k : Int} (h : k ∈ l.map (·.num)) : ixR l k < l.length := by
  obtain ⟨r, hr, e⟩ := List.mem_map.mp h
  exact List.findIdx_lt_length_of_exists ⟨r, hr, by simpa using e⟩
theorem ixR_get {l : List Row} {k : Int} (h : k ∈ l.map (·.num)) : ∃ r, l[ixR l k]? = some r ∧ r.num = k := by
  refine ⟨l[ixR l k]'(ixR_lt h), List.getElem?_eq_getElem (ixR_lt h), ?_⟩
  have := List.findIdx_getElem (w := ixR_lt h)
  exact of_decide_eq_true this
theorem row_split {l : List Row} {k : Int} (nd : (l.map Row.num).Pairwise (· < ·)) (h : k ∈ l.map (·.num)) : ∃ a r b, l = a ++ r :: b ∧ r.num = k ∧ ixR l k = a.length ∧ (∀ x ∈ a, x.num ≠ k) ∧ ∀ x ∈ b, x.num ≠ k := by
  induction l with
  | nil => cases h
  | cons q l ih =>
    rw [List.map_cons, List.pairwise_cons] at nd
    by_cases hq : q.num = k
    · refine ⟨[], q, l, rfl, hq, by unfold ixR; rw [List.findIdx_cons]; simp [hq], by simp, fun x hx e => ?_⟩
      have := nd.1 x.num (List.mem_map.mpr ⟨x, hx, rfl⟩)
      omega
    · have hk : k ∈ l.map (·.num) := by
        rcases List.mem_cons.mp h with z | z
        · exact (hq z.symm).elim
        · exact z
      obtain ⟨a, r, b, e, h1, h2, h3, h4⟩ := ih nd.2 hk
      refine ⟨q :: a, r, b, by rw [e]; rfl, h1, ?_, fun x hx => ?_, h4⟩
      · unfold ixR at h2 ⊢
        rw [List.findIdx_cons, h2]
        simp [hq]
      · rcases List.mem_cons.mp hx with z | z
        · rw [z]; exact hq
        · exact h3 x z
theorem erase_row {l : List Row} {k : Int} (nd : (l.map Row.num).Pairwise (· < ·)) (h : k ∈ l.map (·.num)) : l.eraseIdx (ixR l k) = l.filter fun x => decide (x.num ≠ k) := by
  obtain ⟨a, r, b, rfl, h1, h2, h3, h4⟩ := row_split nd h
  have fa : ∀ l : List Row, (∀ x ∈ l, x.num ≠ k) → l.filter (fun x => decide (x.num ≠ k)) = l := fun l h => List.filter_eq_self.mpr fun x hx => by simpa using h x hx
  rw [h2, List.eraseIdx_append_of_length_le (Nat.le_refl _), Nat.sub_self, List.eraseIdx_cons_zero, List.filter_append, List.filter_cons, fa a h3, fa b h4]
  simp [h1]
theorem set_row {l : List Row} {k r0 : Int} (nd : (l.map Row.num).Pairwise (· < ·)) (h : k ∈ l.map (·.num)) {r : Row} (hr : l[ixR l k]? = some r) : l.set (ixR l k) { r with rise := r0 } = l.map (mendR k r0) := by
  obtain ⟨a, q, b, rfl, h1, h2, h3, h4⟩ := row_split nd h
  rw [h2, List.getElem?_append_right (Nat.le_refl _), Nat.sub_self] at hr
  have hr : some q = some r := hr
  cases hr
  have fa : ∀ l : List Row, (∀ x ∈ l, x.num ≠ k) → l.map (mendR k r0) = l := fun l h => by
    have : l.map (mendR k r0) = l.map id := List.map_congr_left fun x hx => by unfold mendR; rw [if_neg (h x hx)]; rfl
    rw [this, List.map_id]
  rw [h2, List.set_append_right _ _ (Nat.le_refl _), Nat.sub_self, List.set_cons_zero, List.map_append, List.map_cons, fa a h3, fa b h4]
  unfold mendR
  rw [if_pos h1]
theorem enum_row {α : Type} {f : α → D} {l : List α} {i : Nat} {x : D} (h : (enumD 0 (l.map f))[i]? = some x) : ∃ r, l[i]? = some r ∧ x = .tup [.int (i : Int), f r] := by
  rw [enumD_get, List.getElem?_map, Option.map_map] at h
  obtain ⟨r, hr, rfl⟩ := Option.map_eq_some_iff.mp h
  exact ⟨r, hr, by simp⟩
theorem row0 {r : Row} {e : Eta} : idxD e (encRow r) (.int 0) = some (.int r.num) := by unfold encRow; simp
def spx_Stand_row_at : SpX := fun ds e Q E => ∃ (x : D) (k : Int) (S : SM), ds = [x, .int k] ∧ StandAt e x S ∧ if k ∈ S.rows.map (·.num) then Q (.int (ixR S.rows k : Nat)) e else E "NoRun" (wd "NoRun") e
abbrev nm_Stand_row_at : List Str := ["self", "number", "at", "row"]
def t_Stand_row_at (xc : XD) : TSD :=
 (dSeq (dFor (iEnumD (dFld "Stand" "rows" (dVar 0))) (.many [2, 3])
 (dIfS (dTest (dOp (rEq2 false) (dOp rIdx (dVar 3) (dC (.int 0))) (dVar 1))) (dRet (dVar 2))
 dNx))
 (dRaise xc "NoRun"))

theorem rdx_Stand_row_at (ds : List D) (e : Eta) (Q : D → Eta → Prop) (E : XP) (h : spx_Stand_row_at ds e Q E) : t_Stand_row_at (outX E) (endsD Q) (startD nm_Stand_row_at ds) e := by
  obtain ⟨x, k, S, rfl, ⟨a, b, c, v⟩, q⟩ := h
  simp [t_Stand_row_at, v.ins, v.rw_]
  refine for_inv (fun i dl e' => e' = e ∧ (∀ r ∈ S.rows.take i, r.num ≠ k) ∧ ∃ s1 s2, dl = [some x, some (.int k), s1, s2]) (fun _ _ _ h => by rw [h.1]; exact stay_lst v.rw_) ⟨rfl, by simp, _, _, rfl⟩ ?_ ?_
  · rintro i y dl e' N hy ⟨rfl, hno, s1, s2, rfl⟩ hN
    obtain ⟨r, hr, rfl⟩ := enum_row hy
    simp [row0]
    by_cases hk : r.num = k
    · simp [hk]
      have hm : k ∈ S.rows.map (·.num) := List.mem_map.mpr ⟨r, List.mem_of_getElem? hr, hk⟩
      rw [if_pos hm] at q
      have : ixR S.rows k = i := by
        have hl : i < S.rows.length := (List.getElem?_eq_some_iff.mp hr).1
        refine (List.findIdx_eq hl).mpr ⟨?_, fun j hj => ?_⟩
        · rw [List.getElem?_eq_getElem hl] at hr
          rw [Option.some.inj hr]; simpa using hk
        · have := hno S.rows[j] (List.mem_take_iff_getElem.mpr ⟨j, by omega, rfl⟩)
          simpa using this
      rw [this] at q
      exact outD.self q
    · simp [hk]
      refine hN _ _ ⟨rfl, fun r' h' => ?_, _, _, rfl⟩
      rw [List.take_add_one, hr] at h'
      rcases List.mem_append.mp h' with z | z
      · exact hno r' z
      · simp at z; rw [z]; exact hk
  · rintro dl e' ⟨rfl, hno, s1, s2, rfl⟩
    rw [enumD_length, List.length_map, List.take_length] at hno
    have hm : k ∉ S.rows.map (·.num) := fun h => by
      obtain ⟨r, hr, e⟩ := List.mem_map.mp h
      exact hno r hr e
    rw [if_neg hm] at q
    simp
    exact outX.self q
theorem usex_row_at {x : D} {k : Int} {S : SM} {e : Eta} {Q : D → Eta → Prop} {E : XP} (h : StandAt e x S) (k0 : k ∉ S.rows.map (·.num) → E "NoRun" (wd "NoRun") e) (k1 : k ∈ S.rows.map (·.num) → Q (.int (ixR S.rows k : Nat)) e) : spx_Stand_row_at [x, .int k] e Q E := by
  refine ⟨x, k, S, rfl, h, ?_⟩
  by_cases hm : k ∈ S.rows.map (·.num)
  · rw [if_pos hm]; exact k1 hm
  · rw [if_neg hm]; exact k0 hm
theorem lenx_Stand_row_at (ds : List D) (e : Eta) (Q : D → Eta → Prop) (E : XP) (h : spx_Stand_row_at ds e Q E) : ds.length = 2 := by obtain ⟨_, _, _, rfl, _⟩ := h; rfl
def spx_Stand_end_run : SpX := fun ds e Q E => ∃ p a b c S k, ds = [.ref p, .int k] ∧ StandC e p a b c S ∧ S.Good ∧ stepQ S (.strike k) p a b c e Q E
abbrev nm_Stand_end_run : List Str := ["self", "number"]
def t_Stand_end_run (xc : XD) : TSD :=
 (dExp (dMth rPopI (dFld "Stand" "rows" (dVar 0)) (dCons (dMethX xc "Stand" "row_at" spx_Stand_row_at (dVar 0) (dCons (dVar 1) dNil)) dNil)))

theorem map_erase {α : Type} (f : α → D) (l : List α) (i : Nat) : (l.map f).eraseIdx i = (l.eraseIdx i).map f := by
  induction l generalizing i with
  | nil => rfl
  | cons x l ih => cases i with
    | zero => rfl
    | succ i => simp [ih]
theorem rdx_Stand_end_run (ds : List D) (e : Eta) (Q : D → Eta → Prop) (E : XP) (h : spx_Stand_end_run ds e Q E) : t_Stand_end_run (outX E) (endsD Q) (startD nm_Stand_end_run ds) e := by
  obtain ⟨p, a, b, c, S, i, rfl, hS, g, k⟩ := h
  have l40 := g.rwLen
  simp [t_Stand_end_run, inPl hS, hS.rw_]
  refine usex_row_at hS.at (fun h0 => k.bad (w := "NoRun") (by simp only [SM.no, if_neg h0])) fun h1 => ?_
  have lt := ixR_lt h1
  obtain ⟨r, hr, hk⟩ := ixR_get h1
  simp [hS.rw_, hr]
  refine ⟨by omega, ?_⟩
  rw [map_erase, erase_row g.rwNum h1]
  have := k.good (by simp only [SM.no, if_pos h1]) (hS.setC (l := S.rows.filter fun x => decide (x.num ≠ i)) rfl) (Keep.put .refl (by simp))
  exact this
theorem lenx_Stand_end_run (ds : List D) (e : Eta) (Q : D → Eta → Prop) (E : XP) (h : spx_Stand_end_run ds e Q E) : ds.length = 2 := by obtain ⟨_, _, _, _, _, _, rfl, _⟩ := h; rfl
theorem rise_ok {r : Int} (h : okRise r = true) : -1000000000 ≤ r ∧ r ≤ 1000000000 := by simpa [okRise] using h
theorem rise_no {r : Int} (h : okRise r = false) : ¬ (-1000000000 ≤ r ∧ r ≤ 1000000000) := by
  intro z
  unfold okRise at h
  rw [decide_eq_true z.1, decide_eq_true z.2] at h
  cases h
def spx_Stand_mend_run : SpX := fun ds e Q E => ∃ p a b c S k r, ds = [.ref p, .int k, .int r] ∧ StandC e p a b c S ∧ S.Good ∧ stepQ S (.mend k r) p a b c e Q E
abbrev nm_Stand_mend_run : List Str := ["self", "number", "rise", "at", "row"]
def t_Stand_mend_run (xc : XD) : TSD :=
 (dSeq (dAsg (dMethX xc "Stand" "row_at" spx_Stand_row_at (dVar 0) (dCons (dVar 1) dNil)) (.one 3))
 (dSeq (dIfS (dNot (dTest (dChain cLe cLe (dNeg (dC (.int 1000000000))) (dVar 2) (dC (.int 1000000000))))) (dRaise xc "BadRise")
 dNx)
 (dSeq (dAsg (dOp rIdx (dFld "Stand" "rows" (dVar 0)) (dVar 3)) (.one 4))
 (dSto (dFld "Stand" "rows" (dVar 0)) (dVar 3) (dOp rPlus (dCut false (dVar 4) dNo (dSome (dC (.int 3)))) (dTup (dCons (dVar 2) (dCons (dOp rIdx (dVar 4) (dC (.int 4))) dNil))))))))

theorem rdx_Stand_mend_run (ds : List D) (e : Eta) (Q : D → Eta → Prop) (E : XP) (h : spx_Stand_mend_run ds e Q E) : t_Stand_mend_run (outX E) (endsD Q) (startD nm_Stand_mend_run ds) e := by
  obtain ⟨p, a, b, c, S, i, r0, rfl, hS, g, k⟩ := h
  have l40 := g.rwLen
  simp [t_Stand_mend_run, inPl hS, hS.rw_]
  refine usex_row_at hS.at (fun h0 => k.bad (w := "NoRun") (by simp only [SM.no, if_neg h0])) fun h1 => ?_
  have lt := ixR_lt h1
  obtain ⟨r, hr, hk⟩ := ixR_get h1
  cases h2 : okRise r0 with
  | true =>
    obtain ⟨h3, h4⟩ := rise_ok h2
    have cut : cutD [D.int r.num, .int r.one, .int r.other, .int r.rise, .str r.hand] none (some 3) = [.int r.num, .int r.one, .int r.other] := by rfl
    simp [h3, h4, inPl hS, hS.rw_, hr]
    rw [atI_nat (j := ixR S.rows i) (v := encRow r) (by rw [List.getElem?_map, hr]; rfl), onSome_s]
    unfold encRow
    rw [rCut_t, cut]
    simp [inPl hS, stoD, hS.rw_, stoC, stoL, ixN, lt]
    refine ⟨by rw [sizeLine_eq]; omega, by rw [sizeLine_eq]; omega, ?_⟩
    have : (S.rows.map encRow).set (ixR S.rows i) (D.tup [D.int r.num, D.int r.one, D.int r.other, D.int r0, D.str r.hand]) = (S.rows.map (mendR i r0)).map encRow := by
      rw [← set_row g.rwNum h1 hr, List.map_set]; rfl
    rw [this]
    exact k.good (by simp only [SM.no, if_pos h1, h2]; rfl) (hS.setC rfl) (Keep.put .refl (by simp))
  | false =>
    have h3 := rise_no h2
    by_cases h4 : -1000000000 ≤ r0
    · have h5 : ¬ r0 ≤ 1000000000 := fun z => h3 ⟨h4, z⟩
      simp [h4, h5]
      exact k.bad (w := "BadRise") (by simp only [SM.no, if_pos h1, h2]; rfl)
    · simp [h4]
      exact k.bad (w := "BadRise") (by simp only [SM.no, if_pos h1, h2]; rfl)
def spx_Stand_put_run : SpX := fun ds e Q E => ∃ p a b c S x y r h, ds = [.ref p, .str x, .str y, .int r, .str h] ∧ StandC e p a b c S ∧ S.Good ∧ PyData.strOk x = true ∧ PyData.strOk y = true ∧ stepQ S (.run x y r h) p a b c e Q E
abbrev nm_Stand_put_run : List Str := ["self", "one", "other", "rise", "hand", "here", "there"]
def t_Stand_put_run (xc : XD) : TSD :=
 (dSeq (dAsg (dMethX xc "Stand" "place_of" spx_Stand_place_of (dVar 0) (dCons (dVar 1) dNil)) (.one 5))
 (dSeq (dAsg (dMethX xc "Stand" "place_of" spx_Stand_place_of (dVar 0) (dCons (dVar 2) dNil)) (.one 6))
 (dSeq (dIfS (dTest (dOp (rEq2 false) (dVar 1) (dVar 2))) (dRaise xc "Same")
 dNx)
 (dSeq (dExp (dMethX xc "Stand" "check_hand" spx_Stand_check_hand (dVar 0) (dCons (dVar 4) dNil)))
 (dSeq (dIfS (dNot (dTest (dChain cLe cLe (dNeg (dC (.int 1000000000))) (dVar 3) (dC (.int 1000000000))))) (dRaise xc "BadRise")
 dNx)
 (dSeq (dIfS (dTest (dOp rGeD (dCall rLen' (dCons (dFld "Stand" "rows" (dVar 0)) dNil)) (dC (.int 40)))) (dRaise xc "Full")
 dNx)
 (dSeq (dAugF "Stand" "entered" (dVar 0) (dC (.int 1)))
 (dSeq (dExp (dMth rAppD (dFld "Stand" "rows" (dVar 0)) (dCons (dTup (dCons (dFld "Stand" "entered" (dVar 0)) (dCons (dVar 5) (dCons (dVar 6) (dCons (dVar 3) (dCons (dVar 4) dNil)))))) dNil)))
 (dRet (dFld "Stand" "entered" (dVar 0)))))))))))

theorem rdx_Stand_put_run (ds : List D) (e : Eta) (Q : D → Eta → Prop) (E : XP) (h : spx_Stand_put_run ds e Q E) : t_Stand_put_run (outX E) (endsD Q) (startD nm_Stand_put_run ds) e := by
  obtain ⟨p, a, b, c, S, x, y, r0, hd, rfl, hS, g, ox, oy, k⟩ := h
  have l40 := g.rwLen
  simp [t_Stand_put_run, inPl hS, hS.rw_]
  refine usex_place_of hS.at g ox (fun h0 => k.bad (w := "NoMark") (by simp [SM.no, h0])) fun h1 => ?_
  simp [inPl hS]
  refine usex_place_of hS.at g oy (fun h0 => k.bad (w := "NoMark") (by simp only [SM.no, if_neg h1, if_pos h0])) fun h2 => ?_
  simp [ox, oy]
  by_cases h3 : x = y
  · simp [h3]
    exact k.bad (w := "Same") (by simp only [SM.no, if_neg h1, if_neg h2, if_pos h3])
  simp [h3, inPl hS]
  refine usex_check_hand hS.at (fun h0 => k.bad (w := "NoHand") (by simp only [SM.no, if_neg h1, if_neg h2, if_neg h3, if_pos h0])) fun h4 => ?_
  cases h5 : okRise r0 with
  | false =>
    have h6 := rise_no h5
    have no : S.no (.run x y r0 hd) = some "BadRise" := by simp only [SM.no, if_neg h1, if_neg h2, if_neg h3, if_neg (not_not_intro h4), h5]; rfl
    by_cases h7 : -1000000000 ≤ r0
    · have h8 : ¬ r0 ≤ 1000000000 := fun z => h6 ⟨h7, z⟩
      simp [h7, h8]
      exact k.bad (w := "BadRise") no
    · simp [h7]
      exact k.bad (w := "BadRise") no
  | true =>
    obtain ⟨h6, h7⟩ := rise_ok h5
    simp [h6, h7, inPl hS, hS.rw_]
    by_cases h8 : S.rows.length ≥ 40
    · have : (40 : Int) ≤ (S.rows.length : Int) := by omega
      simp [this]
      exact k.bad (w := "Full") (by simp only [SM.no, if_neg h1, if_neg h2, if_neg h3, if_neg (not_not_intro h4), h5, if_pos h8]; rfl)
    · have : ¬ (40 : Int) ≤ (S.rows.length : Int) := by omega
      have st := hS.setP (x := S.entered + 1) (y := S.many) rfl
      simp [this, inPl hS, hS.rw_]
      rw [put_ne hS.pc.symm, hS.rw_, lstO_l, onSome_s]
      have st2 := st.setC (l := S.rows ++ [⟨S.entered + 1, S.place x, S.place y, r0, hd⟩]) rfl
      rw [List.map_append] at st2
      have i2 := inPl st2
      simp only [List.map_cons, List.map_nil, encRow] at i2 st2
      refine ⟨rfl, by rw [sizeLine_eq]; omega, ltL (by rw [List.length_map]; omega), ?_⟩
      rw [put_ne hS.pc, put_same, insO_i]
      simp
      exact k.good (by simp only [SM.no, if_neg h1, if_neg h2, if_neg h3, if_neg (not_not_intro h4), h5, if_neg h8]; rfl) st2 ((Keep.put .refl (by simp)).put (by simp))
theorem lenx_Stand_mend_run (ds : List D) (e : Eta) (Q : D → Eta → Prop) (E : XP) (h : spx_Stand_mend_run ds e Q E) : ds.length = 3 := by obtain ⟨_, _, _, _, _, _, _, rfl, _⟩ := h; rfl
theorem lenx_Stand_put_run (ds : List D) (e : Eta) (Q : D → Eta → Prop) (E : XP) (h : spx_Stand_put_run ds e Q E) : ds.length = 5 := by obtain ⟨_, _, _, _, _, _, _, _, _, rfl, _⟩ := h; rfl
/-! ### a deed by its tuple -/
@[simp] theorem okW_mark : PyData.strOk ("mark" : Str) = true := by decide +kernel
@[simp] theorem okW_hand : PyData.strOk ("hand" : Str) = true := by decide +kernel
@[simp] theorem okW_run : PyData.strOk ("run" : Str) = true := by decide +kernel
@[simp] theorem okW_strike : PyData.strOk ("strike" : Str) = true := by decide +kernel
@[simp] theorem okW_mend : PyData.strOk ("mend" : Str) = true := by decide +kernel
@[simp] theorem okW_settle : PyData.strOk ("settle" : Str) = true := by decide +kernel
@[simp] theorem okW_aside : PyData.strOk ("aside" : Str) = true := by decide +kernel
@[simp] theorem okW_heed : PyData.strOk ("heed" : Str) = true := by decide +kernel
@[simp] theorem okW_allow : PyData.strOk ("allow" : Str) = true := by decide +kernel
def encDeed : Deed → D
  | .mark n => .tup [.str "mark", .str n]
  | .hand n => .tup [.str "hand", .str n]
  | .run a b r h => .tup [.str "run", .str a, .str b, .int r, .str h]
  | .strike k => .tup [.str "strike", .int k]
  | .mend k r => .tup [.str "mend", .int k, .int r]
  | .settle n => .tup [.str "settle", .str n]
  | .aside h => .tup [.str "aside", .str h]
  | .heed h => .tup [.str "heed", .str h]
  | .allow k => .tup [.str "allow", .int k]
def Deed.Ok : Deed → Prop
  | .mark n => TOk n
  | .hand n => TOk n
  | .run a b _ h => PyData.strOk a = true ∧ PyData.strOk b = true ∧ PyData.strOk h = true
  | .settle n => TOk n
  | .aside h => PyData.strOk h = true
  | .heed h => PyData.strOk h = true
  | _ => True
theorem sh_deed {n : Nat} {d : Deed} (h : d.Ok) : shD (n + 1) (encDeed d) = true := by
  cases d <;> unfold encDeed <;> rw [shD_tup] <;> simp_all [Deed.Ok, TOk]
def spx_done_by : SpX := fun ds e Q E => ∃ p a b c S d, ds = [.ref p, encDeed d] ∧ StandC e p a b c S ∧ S.Good ∧ d.Ok ∧ stepQ S d p a b c e Q E
abbrev nm_done_by : List Str := ["stand", "row", "word"]
def t_done_by (xc : XD) : TSD :=
 (dSeq (dAsg (dOp rIdx (dVar 1) (dC (.int 0))) (.one 2))
 (dSeq (dIfS (dTest (dOp (rEq2 false) (dVar 2) (dC (.str ("mark" : Str))))) (dRet (dMethX xc "Stand" "put_mark" spx_Stand_put_mark (dVar 0) (dCons (dOp rIdx (dVar 1) (dC (.int 1))) dNil)))
 dNx)
 (dSeq (dIfS (dTest (dOp (rEq2 false) (dVar 2) (dC (.str ("hand" : Str))))) (dRet (dMethX xc "Stand" "put_hand" spx_Stand_put_hand (dVar 0) (dCons (dOp rIdx (dVar 1) (dC (.int 1))) dNil)))
 dNx)
 (dSeq (dIfS (dTest (dOp (rEq2 false) (dVar 2) (dC (.str ("run" : Str))))) (dRet (dMethX xc "Stand" "put_run" spx_Stand_put_run (dVar 0) (dCons (dOp rIdx (dVar 1) (dC (.int 1))) (dCons (dOp rIdx (dVar 1) (dC (.int 2))) (dCons (dOp rIdx (dVar 1) (dC (.int 3))) (dCons (dOp rIdx (dVar 1) (dC (.int 4))) dNil))))))
 dNx)
 (dSeq (dIfS (dTest (dOp (rEq2 false) (dVar 2) (dC (.str ("strike" : Str))))) (dRet (dMethX xc "Stand" "end_run" spx_Stand_end_run (dVar 0) (dCons (dOp rIdx (dVar 1) (dC (.int 1))) dNil)))
 dNx)
 (dSeq (dIfS (dTest (dOp (rEq2 false) (dVar 2) (dC (.str ("mend" : Str))))) (dRet (dMethX xc "Stand" "mend_run" spx_Stand_mend_run (dVar 0) (dCons (dOp rIdx (dVar 1) (dC (.int 1))) (dCons (dOp rIdx (dVar 1) (dC (.int 2))) dNil))))
 dNx)
 (dSeq (dIfS (dTest (dOp (rEq2 false) (dVar 2) (dC (.str ("settle" : Str))))) (dRet (dMethX xc "Stand" "settle" spx_Stand_settle (dVar 0) (dCons (dOp rIdx (dVar 1) (dC (.int 1))) dNil)))
 dNx)
 (dSeq (dIfS (dTest (dOp (rEq2 false) (dVar 2) (dC (.str ("aside" : Str))))) (dRet (dMethX xc "Stand" "put_aside" spx_Stand_put_aside (dVar 0) (dCons (dOp rIdx (dVar 1) (dC (.int 1))) dNil)))
 dNx)
 (dSeq (dIfS (dTest (dOp (rEq2 false) (dVar 2) (dC (.str ("heed" : Str))))) (dRet (dMethX xc "Stand" "heed" spx_Stand_heed (dVar 0) (dCons (dOp rIdx (dVar 1) (dC (.int 1))) dNil)))
 dNx)
 (dRet (dMethX xc "Stand" "allow" spx_Stand_allow (dVar 0) (dCons (dOp rIdx (dVar 1) (dC (.int 1))) dNil))))))))))))

theorem stepQ.out {S : SM} {d : Deed} {p a b c : Addr} {e : Eta} {Q : D → Eta → Prop} {E : XP} {dl : Sd} (k : stepQ S d p a b c e Q E) : stepQ S d p a b c e (outD Q) fun C fs e' => outX E C fs dl e' := by
  unfold stepQ at k ⊢
  split
  · rename_i w hw; rw [hw] at k; exact outX.self k
  · rename_i hw; rw [hw] at k; exact fun e' h1 h2 => outD.self (k e' h1 h2)
theorem rdx_done_by (ds : List D) (e : Eta) (Q : D → Eta → Prop) (E : XP) (h : spx_done_by ds e Q E) : t_done_by (outX E) (endsD Q) (startD nm_done_by ds) e := by
  obtain ⟨p, a, b, c, S, d, rfl, hS, g, ok, k⟩ := h
  cases d with
  | mark n => 
    simp [t_done_by, encDeed, inPl hS]
    exact ⟨p, a, b, c, S, _, rfl, hS, g, ok, k.out⟩
  | hand n => 
    simp [t_done_by, encDeed, inPl hS]
    exact ⟨p, a, b, c, S, _, rfl, hS, g, ok, k.out⟩
  | run x y r h => 
    simp [t_done_by, encDeed, inPl hS]
    exact ⟨p, a, b, c, S, _, _, _, _, rfl, hS, g, ok.1, ok.2.1, k.out⟩
  | strike n => 
    simp [t_done_by, encDeed, inPl hS]
    exact ⟨p, a, b, c, S, _, rfl, hS, g, k.out⟩
  | mend n r => 
    simp [t_done_by, encDeed, inPl hS]
    exact ⟨p, a, b, c, S, _, _, rfl, hS, g, k.out⟩
  | settle n => 
    simp [t_done_by, encDeed, inPl hS]
    exact ⟨p, a, b, c, S, _, rfl, hS, g, ok, k.out⟩
  | aside n => 
    simp [t_done_by, encDeed, inPl hS]
    exact ⟨p, a, b, c, S, _, rfl, hS, g, k.out⟩
  | heed n => 
    simp [t_done_by, encDeed, inPl hS]
    exact ⟨p, a, b, c, S, _, rfl, hS, g, k.out⟩
  | allow n => 
    simp [t_done_by, encDeed, inPl hS]
    exact ⟨p, a, b, c, S, _, rfl, hS, k.out⟩
theorem lenx_done_by (ds : List D) (e : Eta) (Q : D → Eta → Prop) (E : XP) (h : spx_done_by ds e Q E) : ds.length = 2 := by obtain ⟨_, _, _, _, _, _, rfl, _⟩ := h; rfl
end FL

set_option Elab.async false
set_option linter.all false
set_option maxRecDepth 100000
set_option maxHeartbeats 4000000
/-! The readings of a fen's own methods. -/
namespace FL
open PySem PySem.Spec PyProof.Rows L2
/-! ### the rest of a stand's looks -/
def sp_Stand_counted : SpD := fun ds e Q => ∃ (x : D) (S : SM), ds = [x] ∧ StandAt e x S ∧ S.Good ∧ Q (.lst (S.counted.map encRow)) e
abbrev nm_Stand_counted : List Str := ["self", "row"]
def t_Stand_counted : TSD :=
 (dRet (dComp false (iSeq (dFld "Stand" "rows" (dVar 0))) (.one 1) (dTru (dOp rIdx (dFld "Stand" "heeded" (dVar 0)) (dOp rIdx (dVar 1) (dC (.int 4))))) (dVar 1) [1]))

theorem row4 {r : Row} {e : Eta} : idxD e (encRow r) (.int 4) = some (.str r.hand) := by unfold encRow; simp
theorem row1 {r : Row} {e : Eta} : idxD e (encRow r) (.int 1) = some (.int r.one) := by unfold encRow; simp
theorem row2 {r : Row} {e : Eta} : idxD e (encRow r) (.int 2) = some (.int r.other) := by unfold encRow; simp
theorem row3 {r : Row} {e : Eta} : idxD e (encRow r) (.int 3) = some (.int r.rise) := by unfold encRow; simp
theorem rd_Stand_counted (ds : List D) (e : Eta) (Q : D → Eta → Prop) (h : sp_Stand_counted ds e Q) : t_Stand_counted (endsD Q) (startD nm_Stand_counted ds) e := by
  obtain ⟨x, S, rfl, ⟨a, b, c, h1, h2, h3, h4⟩, g, k⟩ := h
  have l40 := g.rwLen
  simp [t_Stand_counted, h1, seqD_of h4]
  refine ⟨leL (by omega), comp_pure (p := fun r : Row => hdOf S.heeded r.hand) (h := encRow) (stay_lst h4) S.rows [] (fun r hr => ?_) ?_⟩
  · simp [h1, row4, idx_hd h3 (g.rwHand r hr)]
  · simp
    exact outD.self k
theorem use_counted {x : D} {S : SM} {e : Eta} {Q : D → Eta → Prop} (h : StandAt e x S) (g : S.Good) (k : Q (.lst (S.counted.map encRow)) e) : sp_Stand_counted [x] e Q := ⟨x, S, rfl, h, g, k⟩
theorem len_Stand_counted (ds : List D) (e : Eta) (Q : D → Eta → Prop) (h : sp_Stand_counted ds e Q) : ds.length = 1 := by obtain ⟨_, _, rfl, _⟩ := h; rfl
def sp_Stand_mark_names : SpD := fun ds e Q => ∃ (x : D) (S : SM), ds = [x] ∧ StandAt e x S ∧ S.Good ∧ Q (.lst (S.marks.map D.str)) e
abbrev nm_Stand_mark_names : List Str := ["self", "name", "turn"]
def t_Stand_mark_names : TSD :=
 (dRet (dComp false (iSeq (dFld "Stand" "places" (dVar 0))) (.many [1, 2]) (dTest (dOp (rEq2 false) (dVar 2) (dC (.int 1)))) (dVar 1) [1, 2]))

theorem rd_Stand_mark_names (ds : List D) (e : Eta) (Q : D → Eta → Prop) (h : sp_Stand_mark_names ds e Q) : t_Stand_mark_names (endsD Q) (startD nm_Stand_mark_names ds) e := by
  obtain ⟨x, S, rfl, ⟨a, b, c, h1, h2, h3, h4⟩, g, k⟩ := h
  have l12 := g.plLen
  simp [t_Stand_mark_names, h1, seqD_of h2]
  refine ⟨leL (by omega), comp_pure (p := fun r : Str × Int => decide (r.2 = 1)) (h := fun r => .str r.1) (stay_lst h2) S.places [] (fun r hr => ?_) ?_⟩
  · simp [encPl]
  · simp
    unfold SM.marks at k
    rw [List.map_map] at k
    exact outD.self k
theorem use_mark_names {x : D} {S : SM} {e : Eta} {Q : D → Eta → Prop} (h : StandAt e x S) (g : S.Good) (k : Q (.lst (S.marks.map D.str)) e) : sp_Stand_mark_names [x] e Q := ⟨x, S, rfl, h, g, k⟩
theorem len_Stand_mark_names (ds : List D) (e : Eta) (Q : D → Eta → Prop) (h : sp_Stand_mark_names ds e Q) : ds.length = 1 := by obtain ⟨_, _, rfl, _⟩ := h; rfl
theorem use_hand_names {x : D} {S : SM} {e : Eta} {Q : D → Eta → Prop} (h : StandAt e x S) (k : Q (.lst (S.hands.map D.str)) e) : sp_Stand_hand_names [x] e Q := ⟨x, S, rfl, h, k⟩
/-! ### a fen -/
structure FM where
  kept : List SM
  done : List Deed
  undone : List (Deed × SM)
def fenF (a b c : D) : List (Str × D) := [("kept", a), ("done", b), ("undone", c)]
section
variable {a b c x : D}
@[simp] theorem fenF_1 : (fenF a b c).lookup ("kept" : Str) = some a := rfl
@[simp] theorem fenF_2 : (fenF a b c).lookup ("done" : Str) = some b := rfl
@[simp] theorem fenF_3 : (fenF a b c).lookup ("undone" : Str) = some c := rfl
@[simp] theorem fenF_s1 : setF "kept" x (fenF a b c) = fenF x b c := rfl
@[simp] theorem fenF_s2 : setF "done" x (fenF a b c) = fenF a x c := rfl
@[simp] theorem fenF_s3 : setF "undone" x (fenF a b c) = fenF a b x := rfl
@[simp] theorem fenF_l : (fenF a b c).length = 3 := rfl
@[simp] theorem fenF_n0 : NoF "now" (fenF a b c) := rfl
@[simp] theorem fenF_n1 : NoF "deed" (fenF a b c) := rfl
@[simp] theorem fenF_n2 : NoF "mark" (fenF a b c) := rfl
@[simp] theorem fenF_n3 : NoF "hand" (fenF a b c) := rfl
@[simp] theorem fenF_n4 : NoF "run" (fenF a b c) := rfl
@[simp] theorem fenF_n5 : NoF "strike" (fenF a b c) := rfl
@[simp] theorem fenF_n6 : NoF "mend" (fenF a b c) := rfl
@[simp] theorem fenF_n7 : NoF "settle" (fenF a b c) := rfl
@[simp] theorem fenF_n8 : NoF "aside" (fenF a b c) := rfl
@[simp] theorem fenF_n9 : NoF "heed" (fenF a b c) := rfl
@[simp] theorem fenF_n10 : NoF "allow" (fenF a b c) := rfl
@[simp] theorem fenF_n11 : NoF "back" (fenF a b c) := rfl
@[simp] theorem fenF_n12 : NoF "again" (fenF a b c) := rfl
@[simp] theorem fenF_n13 : NoF "deeds" (fenF a b c) := rfl
@[simp] theorem fenF_n14 : NoF "twin" (fenF a b c) := rfl
@[simp] theorem fenF_n15 : NoF "marks" (fenF a b c) := rfl
@[simp] theorem fenF_n16 : NoF "hands" (fenF a b c) := rfl
@[simp] theorem fenF_n17 : NoF "asides" (fenF a b c) := rfl
@[simp] theorem fenF_n18 : NoF "stands" (fenF a b c) := rfl
@[simp] theorem fenF_n19 : NoF "allowed" (fenF a b c) := rfl
@[simp] theorem fenF_n20 : NoF "runs" (fenF a b c) := rfl
@[simp] theorem fenF_n21 : NoF "counting" (fenF a b c) := rfl
@[simp] theorem fenF_n22 : NoF "height" (fenF a b c) := rfl
@[simp] theorem fenF_n23 : NoF "paper" (fenF a b c) := rfl
@[simp] theorem fenF_n24 : NoF "readings" (fenF a b c) := rfl
@[simp] theorem fenF_n25 : NoF "sank" (fenF a b c) := rfl
@[simp] theorem fenF_n26 : NoF "false_sets" (fenF a b c) := rfl
@[simp] theorem fenF_n27 : NoF "least" (fenF a b c) := rfl
@[simp] theorem fenF_n28 : NoF "groups" (fenF a b c) := rfl
@[simp] theorem fenF_n29 : NoF "parting" (fenF a b c) := rfl
@[simp] theorem fenF_n30 : NoF "foe" (fenF a b c) := rfl
@[simp] theorem fenF_n31 : NoF "__init__" (fenF a b c) := rfl
end
def encUn (q : Deed × SM) : D := .tup [encDeed q.1, standD q.2]
structure FenC (e : Eta) (p a b c : Addr) (F : FM) : Prop where
  ins : e p = some (.ins "Fen" (fenF (.ref a) (.ref b) (.ref c)))
  kp : e a = some (.lst (F.kept.map standD))
  dn : e b = some (.lst (F.done.map encDeed))
  un : e c = some (.lst (F.undone.map encUn))
  ab : a ≠ b
  ac : a ≠ c
  bc : b ≠ c
def FM.now (F : FM) : SM := F.kept.getLast?.getD SM.new
def FM.new : FM := ⟨[SM.new], [], []⟩
structure FM.Good (F : FM) : Prop where
  len : F.kept.length = F.done.length + 1
  kp : ∀ S ∈ F.kept, S.Good
  un : ∀ q ∈ F.undone, q.2.Good
  ok : ∀ d ∈ F.done, d.Ok
  okU : ∀ q ∈ F.undone, q.1.Ok
def FM.did (F : FM) (d : Deed) : FM := ⟨F.kept ++ [F.now.did d], F.done ++ [d], []⟩
theorem FM.Good.last {F : FM} (g : F.Good) : ∃ l, F.kept = l ++ [F.now] := by
  have : F.kept ≠ [] := fun z => by have := g.len; rw [z] at this; simp at this
  refine ⟨F.kept.dropLast, ?_⟩
  unfold FM.now
  rw [List.getLast?_eq_some_getLast this]
  exact (List.dropLast_concat_getLast this).symm
theorem FM.Good.now {F : FM} (g : F.Good) : F.now.Good := by
  obtain ⟨l, h⟩ := g.last
  exact g.kp _ (by rw [h]; simp)
theorem FM.Good.new : FM.new.Good := ⟨rfl, fun S h => by rw [List.mem_singleton.mp h]; exact SM.Good.new, by simp [FM.new], by simp [FM.new], by simp [FM.new]⟩
theorem FM.Good.did {F : FM} (g : F.Good) {d : Deed} (h : F.now.no d = none) (ok : d.Ok) : (F.did d).Good := by
  refine ⟨?_, fun S hS => ?_, ?_, fun x hx => ?_, ?_⟩
  · show (F.kept ++ _).length = (F.done ++ _).length + 1
    simp [g.len]
  · rcases List.mem_append.mp hS with z | z
    · exact g.kp S z
    · rw [List.mem_singleton.mp z]; exact g.now.did h
  · intro q hq; cases hq
  · rcases List.mem_append.mp hx with z | z
    · exact g.ok x z
    · rw [List.mem_singleton.mp z]; exact ok
  · intro q hq; cases hq
@[simp] theorem FM.did_now {F : FM} {d : Deed} : (F.did d).now = F.now.did d := by unfold FM.did FM.now; simp
section
variable {e e' : Eta} {p a b c : Addr} {F : FM}
theorem FenC.i (h : FenC e p a b c F) : insO "Fen" (e p) = some (fenF (.ref a) (.ref b) (.ref c)) := by rw [h.ins, insO_i]
theorem FenC.pa (h : FenC e p a b c F) : p ≠ a := fun z => by have := h.ins; rw [z, h.kp] at this; cases this
theorem FenC.pb (h : FenC e p a b c F) : p ≠ b := fun z => by have := h.ins; rw [z, h.dn] at this; cases this
theorem FenC.pc (h : FenC e p a b c F) : p ≠ c := fun z => by have := h.ins; rw [z, h.un] at this; cases this
theorem Keep.fen (k : Keep [] e e') (h : FenC e p a b c F) : FenC e' p a b c F := ⟨k _ _ (by simp) h.ins, k _ _ (by simp) h.kp, k _ _ (by simp) h.dn, k _ _ (by simp) h.un, h.ab, h.ac, h.bc⟩
end
def sp_Fen_now : SpD := fun ds e Q => ∃ p a b c F, ds = [.ref p] ∧ FenC e p a b c F ∧ F.Good ∧ Q (standD F.now) e
abbrev nm_Fen_now : List Str := ["self"]
def t_Fen_now : TSD :=
 (dRet (dOp rIdx (dFld "Fen" "kept" (dVar 0)) (dNeg (dC (.int 1)))))

theorem rd_Fen_now (ds : List D) (e : Eta) (Q : D → Eta → Prop) (h : sp_Fen_now ds e Q) : t_Fen_now (endsD Q) (startD nm_Fen_now ds) e := by
  obtain ⟨p, a, b, c, F, rfl, h, g, k⟩ := h
  obtain ⟨l, hl⟩ := g.last
  simp [t_Fen_now, h.i, h.kp]
  rw [hl, List.map_append]
  simp [atI_last]
  exact outD.self k
theorem use_now {e : Eta} {p a b c : Addr} {F : FM} {Q : D → Eta → Prop} (h : FenC e p a b c F) (g : F.Good) (k : Q (standD F.now) e) : sp_Fen_now [.ref p] e Q := ⟨p, a, b, c, F, rfl, h, g, k⟩
theorem len_Fen_now (ds : List D) (e : Eta) (Q : D → Eta → Prop) (h : sp_Fen_now ds e Q) : ds.length = 1 := by obtain ⟨_, _, _, _, _, rfl, _⟩ := h; rfl
/-! ### freezing a stand -/
def hideE (e : Eta) (l : List Addr) : Eta := fun q => if q ∈ l then none else e q
theorem hide_in {e : Eta} {l : List Addr} {q : Addr} (h : q ∈ l) : hideE e l q = none := if_pos h
theorem hide_out {e : Eta} {l : List Addr} {q : Addr} (h : q ∉ l) : hideE e l q = e q := if_neg h
theorem hide_sub {e : Eta} {l : List Addr} : Sub (hideE e l) e := fun q o h => by
  unfold hideE at h
  split at h
  · cases h
  · exact h
theorem StandC.freeze {e : Eta} {p a b c : Addr} {S : SM} (h : StandC e p a b c S) : Vw e (hideE e [p, a, b, c]) (.ref p) (standD S) := by
  refine .icell h.ins (hide_in (by simp)) rfl ?_
  refine .cons (.cell h.pl (hide_in (by simp)) (.refl _)) (.cons (.dcell h.hd (hide_in (by simp)) rfl (.refl _)) (.cons (.cell h.rw_ (hide_in (by simp)) (.refl _)) (.cons (.refl _) (.cons (.refl _) .nil))))
theorem Keep.hide {l m : List Addr} {e e' : Eta} (h : Keep l e e') (hm : ∀ q ∈ m, e q = none) : Keep l e (hideE e' m) := fun q o hq hu => by
  rw [hide_out (fun z => by rw [hm q z] at hu; cases hu)]
  exact h q o hq hu
end FL

set_option Elab.async false
set_option linter.all false
set_option maxRecDepth 100000
set_option maxHeartbeats 4000000
/-! The readings of a fen's deeds. -/
namespace FL
open PySem PySem.Spec PyProof.Rows L2
def sp_Fen___init__ : SpD := fun ds e Q => ∃ p, ds = [.ref p] ∧ e p = some (.ins "Fen" []) ∧ ∀ a b c e', e a = none → e b = none → e c = none → FenC e' p a b c FM.new → Keep [p] e e' → Q .non e'
abbrev nm_Fen___init__ : List Str := ["self"]
def t_Fen___init__ : TSD :=
 (dSeq (dSetF "Fen" "kept" (dVar 0) (dLstC (dCons (dView (dMake "Stand" sp_Stand___init__ dNil)) dNil)))
 (dSeq (dSetF "Fen" "done" (dVar 0) (dLstC dNil))
 (dSetF "Fen" "undone" (dVar 0) (dLstC dNil))))

theorem rd_Fen___init__ (ds : List D) (e : Eta) (Q : D → Eta → Prop) (h : sp_Fen___init__ ds e Q) : t_Fen___init__ (endsD Q) (startD nm_Fen___init__ ds) e := by
  obtain ⟨p, rfl, hp, k⟩ := h
  simp [t_Fen___init__]
  intro q hq
  have pq : p ≠ q := fun z => by rw [z, hq] at hp; cases hp
  refine use_new put_same fun a0 b0 c0 e1 na nb nc hN K1 => ?_
  have K0 : Keep [] e e1 := (Keep.trans ((Keep.new (l := []) .refl hq).mono (by simp)) K1).drop (by simpa using hq)
  have nn : ∀ {x : Addr}, (e.put q (O.ins "Stand" [])) x = none → e x = none := fun {x} h => by
    by_cases z : x = q
    · rw [z]; exact hq
    · rw [put_ne z] at h; exact h
  have na := nn na
  have nb := nn nb
  have nc := nn nc
  refine ⟨rfl, _, _, hide_sub, hN.freeze, ?_⟩
  have K2 : Keep [] e (hideE e1 [q, a0, b0, c0]) := K0.hide (by simp [hq, na, nb, nc])
  generalize hideE e1 [q, a0, b0, c0] = e2 at K2
  have p2 := K2 p _ (by simp) hp
  have back : ∀ {x : Addr}, e2 x = none → e x = none := fun {x} h => by cases z : e x with | none => rfl | some o => rw [K2 x o (by simp) z] at h; cases h
  refine ⟨by rw [sizeLine_eq]; omega, ?_⟩
  intro a ha
  have pa : p ≠ a := fun z => by rw [← z, p2] at ha; cases ha
  rw [put_ne pa, p2]
  simp [setF]
  intro b hb
  have bp : b ≠ p := fun z => by rw [z, put_same] at hb; cases hb
  rw [put_ne bp] at hb
  have ba : b ≠ a := fun z => by rw [z, put_same] at hb; cases hb
  rw [put_ne ba] at hb
  simp [put_ne bp.symm]
  intro c hc
  have cp : c ≠ p := fun z => by rw [z, put_same] at hc; cases hc
  rw [put_ne cp] at hc
  have cb : c ≠ b := fun z => by rw [z, put_same] at hc; cases hc
  rw [put_ne cb, put_ne cp] at hc
  have ca : c ≠ a := fun z => by rw [z, put_same] at hc; cases hc
  rw [put_ne ca] at hc
  simp [put_ne cp.symm]
  have l1 := setF_le ("done" : Str) (D.ref b) [(("kept" : Str), D.ref a)]
  simp only [List.length_cons, List.length_nil] at l1
  refine ⟨by omega, outD.self (k a b c _ (back ha) (back hb) (back hc) ⟨?_, ?_, ?_, ?_, ba.symm, ca.symm, cb.symm⟩ ?_)⟩
  · rw [put_same]; rfl
  · rw [put_ne pa.symm, put_ne ca.symm, put_ne pa.symm, put_ne ba.symm, put_ne pa.symm, put_same]; rfl
  · rw [put_ne bp, put_ne cb.symm, put_ne bp, put_same]; rfl
  · rw [put_ne cp, put_same]; rfl
  · exact (K2.mono (by simp)).trans (.put (.new (.put (.new (.put (.new .refl ha) (by simp)) hb) (by simp)) hc) (by simp))
theorem use_fen {p : Addr} {e : Eta} {Q : D → Eta → Prop} (hp : e p = some (.ins "Fen" [])) (k : ∀ a b c e', e a = none → e b = none → e c = none → FenC e' p a b c FM.new → Keep [p] e e' → Q .non e') : sp_Fen___init__ [.ref p] e Q := ⟨p, rfl, hp, k⟩
theorem len_Fen___init__ (ds : List D) (e : Eta) (Q : D → Eta → Prop) (h : sp_Fen___init__ ds e Q) : ds.length = 1 := by obtain ⟨_, rfl, _⟩ := h; rfl
def deedQ (F : FM) (d : Deed) (p a b c : Addr) (e : Eta) (Q : D → Eta → Prop) (E : XP) : Prop := match F.now.no d with
  | some w => ∀ e', FenC e' p a b c F → Keep [] e e' → E w (wd w) e'
  | none => ∀ e' c', e c' = none → FenC e' p a b c' (F.did d) → Keep [p, a, b] e e' → Q (toldD (F.now.tells d)) e'
theorem deedQ.out {F : FM} {d : Deed} {p a b c : Addr} {e : Eta} {Q : D → Eta → Prop} {E : XP} {dl : Sd} (k : deedQ F d p a b c e Q E) : deedQ F d p a b c e (outD Q) fun C fs e' => outX E C fs dl e' := by
  unfold deedQ at k ⊢
  split
  · rename_i w hw; rw [hw] at k; exact fun e' h1 h2 => outX.self (k e' h1 h2)
  · rename_i hw; rw [hw] at k; exact fun e' c' h1 h2 h3 => outD.self (k e' c' h1 h2 h3)
def spx_Fen_deed : SpX := fun ds e Q E => ∃ p a b c F d, ds = [.ref p, encDeed d] ∧ FenC e p a b c F ∧ F.Good ∧ d.Ok ∧ F.done.length < 4000 ∧ deedQ F d p a b c e Q E
abbrev nm_Fen_deed : List Str := ["self", "row", "later", "found"]
def t_Fen_deed (xc : XD) : TSD :=
 (dSeq (dAsg (dMeth "Stand" "like" sp_Stand_like (dMeth "Fen" "now" sp_Fen_now (dVar 0) dNil) dNil) (.one 2))
 (dSeq (dAsg (dCallX xc spx_done_by (dCons (dVar 2) (dCons (dVar 1) dNil))) (.one 3))
 (dViewS (dSeq (dExp (dMth rAppD (dFld "Fen" "kept" (dVar 0)) (dCons (dVar 2) dNil)))
 (dSeq (dExp (dMth rAppD (dFld "Fen" "done" (dVar 0)) (dCons (dVar 1) dNil)))
 (dSeq (dSetF "Fen" "undone" (dVar 0) (dLstC dNil))
 (dRet (dVar 3))))))))

theorem rdx_Fen_deed (ds : List D) (e : Eta) (Q : D → Eta → Prop) (E : XP) (h : spx_Fen_deed ds e Q E) : t_Fen_deed (outX E) (endsD Q) (startD nm_Fen_deed ds) e := by
  obtain ⟨p, a, b, c, F, d, rfl, h, g, ok, hl, k⟩ := h
  simp [t_Fen_deed, h.i]
  refine use_now h g ?_
  refine ⟨rfl, use_like .tree fun q a1 b1 c1 e1 nq na nb nc hS K1 => ?_⟩
  have h1 := K1.fen h
  refine ⟨q, a1, b1, c1, _, d, rfl, hS, g.now, ok, ?_⟩
  unfold deedQ at k
  unfold stepQ
  cases hn : F.now.no d with
  | some w =>
    rw [hn] at k
    exact outX.self (k _ h1 K1)
  | none =>
    rw [hn] at k
    intro e2 hS2 K2
    have K3 : Keep [] e e2 := (Keep.trans (K1.mono (by simp)) K2).drop (by simp [nq, na, nb, nc])
    refine ⟨_, _, hide_sub, .cons (.refl _) (.cons (.refl _) (.cons hS2.freeze (.cons (.refl _) .nil))), ?_⟩
    have K4 := K3.hide (m := [q, a1, b1, c1]) (by simp [nq, na, nb, nc])
    generalize hideE e2 [q, a1, b1, c1] = e3 at K4 ⊢
    have h3 := K4.fen h
    simp [h3.i, h3.kp]
    refine ⟨ltL (by rw [g.len]; omega), ?_⟩
    rw [put_ne h.pa, h3.ins]
    simp [put_ne h.ab.symm, h3.dn]
    refine ⟨ltL (by omega), fun c' hc' => ?_⟩
    have cb : c' ≠ b := fun z => by rw [z, put_same] at hc'; cases hc'
    rw [put_ne cb] at hc'
    have ca : c' ≠ a := fun z => by rw [z, put_same] at hc'; cases hc'
    rw [put_ne ca] at hc'
    have cp : c' ≠ p := fun z => by rw [z, h3.ins] at hc'; cases hc'
    have nc' : e c' = none := by cases z : e c' with | none => rfl | some o => rw [K4 c' o (by simp) z] at hc'; cases hc'
    rw [put_ne cp.symm, put_ne h.pb, put_ne h.pa, h3.ins]
    simp
    refine outD.self (k _ c' nc' ⟨put_same, ?_, ?_, ?_, h.ab, ca.symm, cb.symm⟩ ?_)
    · rw [put_ne h.pa.symm, put_ne ca.symm, put_ne h.ab, put_same]
      simp [FM.did]
    · rw [put_ne h.pb.symm, put_ne cb.symm, put_same]
      simp [FM.did]
    · rw [put_ne cp, put_same]; rfl
    · exact ((K4.mono (by simp)).put (by simp)).put (by simp) |>.new nc' |>.put (by simp)
theorem lenx_Fen_deed (ds : List D) (e : Eta) (Q : D → Eta → Prop) (E : XP) (h : spx_Fen_deed ds e Q E) : ds.length = 2 := by obtain ⟨_, _, _, _, _, _, rfl, _⟩ := h; rfl
end FL

set_option Elab.async false
set_option linter.all false
set_option maxRecDepth 100000
set_option maxHeartbeats 4000000
/-! The readings of a fen's other methods. -/
namespace FL
open PySem PySem.Spec PyProof.Rows L2
def FM.back (F : FM) : FM := ⟨F.kept.dropLast, F.done.dropLast, F.undone ++ [(F.done.getLast?.getD (.allow 0), F.now)]⟩
@[simp] theorem okD_nilL : okD (.lst []) = true := okD_sh (n := 1) rfl
theorem eq_nilD {xs : List D} : eqD (.lst xs) (.lst []) = decide (xs = []) := by cases xs <;> rfl
theorem sh_deeds {n : Nat} {l : List Deed} (h : ∀ d ∈ l, d.Ok) (hl : l.length ≤ 4096) : shD (n + 2) (.lst (l.map encDeed)) = true := by
  rw [shD_lst, List.length_map, decide_eq_true hl, Bool.true_and, List.all_map, List.all_eq_true]
  exact fun p hp => sh_deed (h p hp)
theorem FM.Good.lastD {F : FM} (g : F.Good) (h : F.done ≠ []) : ∃ l d m, F.done = l ++ [d] ∧ F.kept = m ++ [F.now] ∧ m.length = l.length + 1 ∧ F.back = ⟨m, l, F.undone ++ [(d, F.now)]⟩ := by
  obtain ⟨m, hm⟩ := g.last
  have hd := (List.dropLast_concat_getLast h).symm
  refine ⟨_, _, m, hd, hm, ?_, ?_⟩
  · have h1 := g.len
    rw [hm] at h1
    have h2 := congrArg List.length hd
    simp at h1 h2 ⊢
    have : F.done.length ≠ 0 := by simpa using h
    omega
  · unfold FM.back
    rw [List.getLast?_eq_some_getLast h]
    congr 1
    rw [hm, List.dropLast_concat]
theorem FM.Good.back {F : FM} (g : F.Good) (h : F.done ≠ []) : F.back.Good := by
  obtain ⟨l, d, m, h1, h2, h3, h4⟩ := g.lastD h
  rw [h4]
  refine ⟨h3, fun S hS => g.kp S (by rw [h2]; exact List.mem_append.mpr (.inl hS)), fun q hq => ?_, fun x hx => g.ok x (by rw [h1]; exact List.mem_append.mpr (.inl hx)), fun q hq => ?_⟩
  · rcases List.mem_append.mp hq with z | z
    · exact g.un q z
    · rw [List.mem_singleton.mp z]; exact g.now
  · rcases List.mem_append.mp hq with z | z
    · exact g.okU q z
    · rw [List.mem_singleton.mp z]; exact g.ok d (by rw [h1]; simp)
def spx_Fen_back : SpX := fun ds e Q E => ∃ p a b c F, ds = [.ref p] ∧ FenC e p a b c F ∧ F.Good ∧ F.done.length ≤ 4000 ∧ F.undone.length < 4000 ∧ if F.done = [] then E "NothingLeft" (wd "NothingLeft") e else ∀ e', FenC e' p a b c F.back → Keep [p, a, b, c] e e' → Q .non e'
abbrev nm_Fen_back : List Str := ["self"]
def t_Fen_back (xc : XD) : TSD :=
 (dSeq (dIfS (dTest (dOp (rEq2 false) (dFld "Fen" "done" (dVar 0)) (dLst dNil))) (dRaise xc "NothingLeft")
 dNx)
 (dExp (dMth rAppD (dFld "Fen" "undone" (dVar 0)) (dCons (dTup (dCons (dMth rPopL (dFld "Fen" "done" (dVar 0)) dNil) (dCons (dMth rPopL (dFld "Fen" "kept" (dVar 0)) dNil) dNil))) dNil))))

theorem rdx_Fen_back (ds : List D) (e : Eta) (Q : D → Eta → Prop) (E : XP) (h : spx_Fen_back ds e Q E) : t_Fen_back (outX E) (endsD Q) (startD nm_Fen_back ds) e := by
  obtain ⟨p, a, b, c, F, rfl, h, g, hl, hu, k⟩ := h
  have o1 := okD_sh (sh_deeds (n := 0) g.ok (by omega))
  simp [t_Fen_back, h.i, h.dn, o1, eq_nilD]
  by_cases hd : F.done = []
  · rw [if_pos hd] at k
    simp [hd]
    exact outX.self k
  · rw [if_neg hd] at k
    obtain ⟨l, d, m, h1, h2, h3, h4⟩ := g.lastD hd
    rw [h4] at k
    simp [hd, h.i, h.un, h.dn, h1]
    rw [put_ne h.pb, h.ins]
    simp [put_ne h.ab, h.kp, h2]
    rw [put_ne h.ac.symm, put_ne h.bc.symm, h.un]
    simp
    refine ⟨by rw [sizeLine_eq]; omega, ltL (by omega), outD.self (k _ ⟨?_, ?_, ?_, ?_, h.ab, h.ac, h.bc⟩ ?_)⟩
    · rw [put_ne h.pc, put_ne h.pa, put_ne h.pb, h.ins]
    · rw [put_ne h.ac, put_same]
    · rw [put_ne h.bc, put_ne h.ab.symm, put_same]
    · rw [put_same]; simp [encUn]
    · exact ((Keep.put .refl (by simp)).put (by simp)).put (by simp)
theorem lenx_Fen_back (ds : List D) (e : Eta) (Q : D → Eta → Prop) (E : XP) (h : spx_Fen_back ds e Q E) : ds.length = 1 := by obtain ⟨_, _, _, _, _, rfl, _⟩ := h; rfl
def spx_Fen_mark : SpX := fun ds e Q E => ∃ p a b c F n, ds = [.ref p, .str n] ∧ FenC e p a b c F ∧ F.Good ∧ (Deed.mark n).Ok ∧ F.done.length < 4000 ∧ deedQ F (.mark n) p a b c e Q E
abbrev nm_Fen_mark : List Str := ["self", "name"]
def t_Fen_mark (xc : XD) : TSD :=
 (dRet (dMethX xc "Fen" "deed" spx_Fen_deed (dVar 0) (dCons (dTup (dCons (dC (.str ("mark" : Str))) (dCons (dVar 1) dNil))) dNil)))

theorem rdx_Fen_mark (ds : List D) (e : Eta) (Q : D → Eta → Prop) (E : XP) (h : spx_Fen_mark ds e Q E) : t_Fen_mark (outX E) (endsD Q) (startD nm_Fen_mark ds) e := by
  obtain ⟨p, a, b, c, F, n, rfl, h, g, ok, hl, k⟩ := h
  simp [t_Fen_mark, h.i]
  exact ⟨by rw [sizeLine_eq]; omega, p, a, b, c, F, _, rfl, h, g, ok, hl, k.out⟩
theorem lenx_Fen_mark (ds : List D) (e : Eta) (Q : D → Eta → Prop) (E : XP) (h : spx_Fen_mark ds e Q E) : ds.length = 2 := by obtain ⟨_, _, _, _, _, _, rfl, _⟩ := h; rfl
def spx_Fen_hand : SpX := fun ds e Q E => ∃ p a b c F n, ds = [.ref p, .str n] ∧ FenC e p a b c F ∧ F.Good ∧ (Deed.hand n).Ok ∧ F.done.length < 4000 ∧ deedQ F (.hand n) p a b c e Q E
abbrev nm_Fen_hand : List Str := ["self", "name"]
def t_Fen_hand (xc : XD) : TSD :=
 (dRet (dMethX xc "Fen" "deed" spx_Fen_deed (dVar 0) (dCons (dTup (dCons (dC (.str ("hand" : Str))) (dCons (dVar 1) dNil))) dNil)))

theorem rdx_Fen_hand (ds : List D) (e : Eta) (Q : D → Eta → Prop) (E : XP) (h : spx_Fen_hand ds e Q E) : t_Fen_hand (outX E) (endsD Q) (startD nm_Fen_hand ds) e := by
  obtain ⟨p, a, b, c, F, n, rfl, h, g, ok, hl, k⟩ := h
  simp [t_Fen_hand, h.i]
  exact ⟨by rw [sizeLine_eq]; omega, p, a, b, c, F, _, rfl, h, g, ok, hl, k.out⟩
theorem lenx_Fen_hand (ds : List D) (e : Eta) (Q : D → Eta → Prop) (E : XP) (h : spx_Fen_hand ds e Q E) : ds.length = 2 := by obtain ⟨_, _, _, _, _, _, rfl, _⟩ := h; rfl
def spx_Fen_run : SpX := fun ds e Q E => ∃ p a b c F x y r hd, ds = [.ref p, .str x, .str y, .int r, .str hd] ∧ FenC e p a b c F ∧ F.Good ∧ (Deed.run x y r hd).Ok ∧ F.done.length < 4000 ∧ deedQ F (.run x y r hd) p a b c e Q E
abbrev nm_Fen_run : List Str := ["self", "one", "other", "rise", "hand"]
def t_Fen_run (xc : XD) : TSD :=
 (dRet (dMethX xc "Fen" "deed" spx_Fen_deed (dVar 0) (dCons (dTup (dCons (dC (.str ("run" : Str))) (dCons (dVar 1) (dCons (dVar 2) (dCons (dVar 3) (dCons (dVar 4) dNil)))))) dNil)))

theorem rdx_Fen_run (ds : List D) (e : Eta) (Q : D → Eta → Prop) (E : XP) (h : spx_Fen_run ds e Q E) : t_Fen_run (outX E) (endsD Q) (startD nm_Fen_run ds) e := by
  obtain ⟨p, a, b, c, F, x, y, r, hd, rfl, h, g, ok, hl, k⟩ := h
  simp [t_Fen_run, h.i]
  exact ⟨by rw [sizeLine_eq]; omega, p, a, b, c, F, _, rfl, h, g, ok, hl, k.out⟩
theorem lenx_Fen_run (ds : List D) (e : Eta) (Q : D → Eta → Prop) (E : XP) (h : spx_Fen_run ds e Q E) : ds.length = 5 := by obtain ⟨_, _, _, _, _, _, _, _, _, rfl, _⟩ := h; rfl
def spx_Fen_strike : SpX := fun ds e Q E => ∃ p a b c F n, ds = [.ref p, .int n] ∧ FenC e p a b c F ∧ F.Good ∧ (Deed.strike n).Ok ∧ F.done.length < 4000 ∧ deedQ F (.strike n) p a b c e Q E
abbrev nm_Fen_strike : List Str := ["self", "number"]
def t_Fen_strike (xc : XD) : TSD :=
 (dRet (dMethX xc "Fen" "deed" spx_Fen_deed (dVar 0) (dCons (dTup (dCons (dC (.str ("strike" : Str))) (dCons (dVar 1) dNil))) dNil)))

theorem rdx_Fen_strike (ds : List D) (e : Eta) (Q : D → Eta → Prop) (E : XP) (h : spx_Fen_strike ds e Q E) : t_Fen_strike (outX E) (endsD Q) (startD nm_Fen_strike ds) e := by
  obtain ⟨p, a, b, c, F, n, rfl, h, g, ok, hl, k⟩ := h
  simp [t_Fen_strike, h.i]
  exact ⟨by rw [sizeLine_eq]; omega, p, a, b, c, F, _, rfl, h, g, ok, hl, k.out⟩
theorem lenx_Fen_strike (ds : List D) (e : Eta) (Q : D → Eta → Prop) (E : XP) (h : spx_Fen_strike ds e Q E) : ds.length = 2 := by obtain ⟨_, _, _, _, _, _, rfl, _⟩ := h; rfl
def spx_Fen_mend : SpX := fun ds e Q E => ∃ p a b c F n r, ds = [.ref p, .int n, .int r] ∧ FenC e p a b c F ∧ F.Good ∧ (Deed.mend n r).Ok ∧ F.done.length < 4000 ∧ deedQ F (.mend n r) p a b c e Q E
abbrev nm_Fen_mend : List Str := ["self", "number", "rise"]
def t_Fen_mend (xc : XD) : TSD :=
 (dRet (dMethX xc "Fen" "deed" spx_Fen_deed (dVar 0) (dCons (dTup (dCons (dC (.str ("mend" : Str))) (dCons (dVar 1) (dCons (dVar 2) dNil)))) dNil)))

theorem rdx_Fen_mend (ds : List D) (e : Eta) (Q : D → Eta → Prop) (E : XP) (h : spx_Fen_mend ds e Q E) : t_Fen_mend (outX E) (endsD Q) (startD nm_Fen_mend ds) e := by
  obtain ⟨p, a, b, c, F, n, r, rfl, h, g, ok, hl, k⟩ := h
  simp [t_Fen_mend, h.i]
  exact ⟨by rw [sizeLine_eq]; omega, p, a, b, c, F, _, rfl, h, g, ok, hl, k.out⟩
theorem lenx_Fen_mend (ds : List D) (e : Eta) (Q : D → Eta → Prop) (E : XP) (h : spx_Fen_mend ds e Q E) : ds.length = 3 := by obtain ⟨_, _, _, _, _, _, _, rfl, _⟩ := h; rfl
def spx_Fen_settle : SpX := fun ds e Q E => ∃ p a b c F n, ds = [.ref p, .str n] ∧ FenC e p a b c F ∧ F.Good ∧ (Deed.settle n).Ok ∧ F.done.length < 4000 ∧ deedQ F (.settle n) p a b c e Q E
abbrev nm_Fen_settle : List Str := ["self", "name"]
def t_Fen_settle (xc : XD) : TSD :=
 (dRet (dMethX xc "Fen" "deed" spx_Fen_deed (dVar 0) (dCons (dTup (dCons (dC (.str ("settle" : Str))) (dCons (dVar 1) dNil))) dNil)))

theorem rdx_Fen_settle (ds : List D) (e : Eta) (Q : D → Eta → Prop) (E : XP) (h : spx_Fen_settle ds e Q E) : t_Fen_settle (outX E) (endsD Q) (startD nm_Fen_settle ds) e := by
  obtain ⟨p, a, b, c, F, n, rfl, h, g, ok, hl, k⟩ := h
  simp [t_Fen_settle, h.i]
  exact ⟨by rw [sizeLine_eq]; omega, p, a, b, c, F, _, rfl, h, g, ok, hl, k.out⟩
theorem lenx_Fen_settle (ds : List D) (e : Eta) (Q : D → Eta → Prop) (E : XP) (h : spx_Fen_settle ds e Q E) : ds.length = 2 := by obtain ⟨_, _, _, _, _, _, rfl, _⟩ := h; rfl
def spx_Fen_aside : SpX := fun ds e Q E => ∃ p a b c F n, ds = [.ref p, .str n] ∧ FenC e p a b c F ∧ F.Good ∧ (Deed.aside n).Ok ∧ F.done.length < 4000 ∧ deedQ F (.aside n) p a b c e Q E
abbrev nm_Fen_aside : List Str := ["self", "hand"]
def t_Fen_aside (xc : XD) : TSD :=
 (dRet (dMethX xc "Fen" "deed" spx_Fen_deed (dVar 0) (dCons (dTup (dCons (dC (.str ("aside" : Str))) (dCons (dVar 1) dNil))) dNil)))

theorem rdx_Fen_aside (ds : List D) (e : Eta) (Q : D → Eta → Prop) (E : XP) (h : spx_Fen_aside ds e Q E) : t_Fen_aside (outX E) (endsD Q) (startD nm_Fen_aside ds) e := by
  obtain ⟨p, a, b, c, F, n, rfl, h, g, ok, hl, k⟩ := h
  simp [t_Fen_aside, h.i]
  exact ⟨by rw [sizeLine_eq]; omega, p, a, b, c, F, _, rfl, h, g, ok, hl, k.out⟩
theorem lenx_Fen_aside (ds : List D) (e : Eta) (Q : D → Eta → Prop) (E : XP) (h : spx_Fen_aside ds e Q E) : ds.length = 2 := by obtain ⟨_, _, _, _, _, _, rfl, _⟩ := h; rfl
def spx_Fen_heed : SpX := fun ds e Q E => ∃ p a b c F n, ds = [.ref p, .str n] ∧ FenC e p a b c F ∧ F.Good ∧ (Deed.heed n).Ok ∧ F.done.length < 4000 ∧ deedQ F (.heed n) p a b c e Q E
abbrev nm_Fen_heed : List Str := ["self", "hand"]
def t_Fen_heed (xc : XD) : TSD :=
 (dRet (dMethX xc "Fen" "deed" spx_Fen_deed (dVar 0) (dCons (dTup (dCons (dC (.str ("heed" : Str))) (dCons (dVar 1) dNil))) dNil)))

theorem rdx_Fen_heed (ds : List D) (e : Eta) (Q : D → Eta → Prop) (E : XP) (h : spx_Fen_heed ds e Q E) : t_Fen_heed (outX E) (endsD Q) (startD nm_Fen_heed ds) e := by
  obtain ⟨p, a, b, c, F, n, rfl, h, g, ok, hl, k⟩ := h
  simp [t_Fen_heed, h.i]
  exact ⟨by rw [sizeLine_eq]; omega, p, a, b, c, F, _, rfl, h, g, ok, hl, k.out⟩
theorem lenx_Fen_heed (ds : List D) (e : Eta) (Q : D → Eta → Prop) (E : XP) (h : spx_Fen_heed ds e Q E) : ds.length = 2 := by obtain ⟨_, _, _, _, _, _, rfl, _⟩ := h; rfl
def spx_Fen_allow : SpX := fun ds e Q E => ∃ p a b c F n, ds = [.ref p, .int n] ∧ FenC e p a b c F ∧ F.Good ∧ (Deed.allow n).Ok ∧ F.done.length < 4000 ∧ deedQ F (.allow n) p a b c e Q E
abbrev nm_Fen_allow : List Str := ["self", "many"]
def t_Fen_allow (xc : XD) : TSD :=
 (dRet (dMethX xc "Fen" "deed" spx_Fen_deed (dVar 0) (dCons (dTup (dCons (dC (.str ("allow" : Str))) (dCons (dVar 1) dNil))) dNil)))

theorem rdx_Fen_allow (ds : List D) (e : Eta) (Q : D → Eta → Prop) (E : XP) (h : spx_Fen_allow ds e Q E) : t_Fen_allow (outX E) (endsD Q) (startD nm_Fen_allow ds) e := by
  obtain ⟨p, a, b, c, F, n, rfl, h, g, ok, hl, k⟩ := h
  simp [t_Fen_allow, h.i]
  exact ⟨by rw [sizeLine_eq]; omega, p, a, b, c, F, _, rfl, h, g, ok, hl, k.out⟩
theorem lenx_Fen_allow (ds : List D) (e : Eta) (Q : D → Eta → Prop) (E : XP) (h : spx_Fen_allow ds e Q E) : ds.length = 2 := by obtain ⟨_, _, _, _, _, _, rfl, _⟩ := h; rfl
end FL

set_option Elab.async false
set_option linter.all false
set_option maxRecDepth 100000
set_option maxHeartbeats 4000000
/-! The readings of what is asked of a fen. -/
namespace FL
open PySem PySem.Spec PyProof.Rows L2
theorem filT {α : Type} (l : List α) : l.filter (fun _ => true) = l := List.filter_eq_self.mpr fun _ _ => rfl
def SM.asides (S : SM) : List Str := S.hands.filter fun h => !hdOf S.heeded h
def SM.stand (S : SM) (i : Int) : Str × Int := S.places[i.toNat]?.getD ("", 0)
theorem at_pl {S : SM} {i : Int} (h0 : 0 ≤ i) (h1 : i < S.places.length) : atI (S.places.map encPl) i = some (encPl (S.stand i)) := by
  rw [atI_eq h0, List.getElem?_map]
  unfold SM.stand
  rw [List.getElem?_eq_getElem (by omega)]; rfl
def encRun (S : SM) (r : Row) : D := .tup [.int r.num, .str (S.stand r.one).1, .int (S.stand r.one).2, .str (S.stand r.other).1, .int (S.stand r.other).2, .int r.rise, .str r.hand]
def sp_Fen_deeds : SpD := fun ds e Q => ∃ p a b c F, ds = [.ref p] ∧ FenC e p a b c F ∧ F.Good ∧ Q (.lst (F.done.map encDeed)) e
def sp_Fen_marks : SpD := fun ds e Q => ∃ p a b c F, ds = [.ref p] ∧ FenC e p a b c F ∧ F.Good ∧ Q (.lst (F.now.marks.map D.str)) e
def sp_Fen_hands : SpD := fun ds e Q => ∃ p a b c F, ds = [.ref p] ∧ FenC e p a b c F ∧ F.Good ∧ Q (.lst (F.now.hands.map D.str)) e
def sp_Fen_asides : SpD := fun ds e Q => ∃ p a b c F, ds = [.ref p] ∧ FenC e p a b c F ∧ F.Good ∧ Q (.lst (F.now.asides.map D.str)) e
def sp_Fen_stands : SpD := fun ds e Q => ∃ p a b c F, ds = [.ref p] ∧ FenC e p a b c F ∧ F.Good ∧ Q (.lst (F.now.places.map encPl)) e
def sp_Fen_allowed : SpD := fun ds e Q => ∃ p a b c F, ds = [.ref p] ∧ FenC e p a b c F ∧ F.Good ∧ Q (.int F.now.many) e
def sp_Fen_runs : SpD := fun ds e Q => ∃ p a b c F, ds = [.ref p] ∧ FenC e p a b c F ∧ F.Good ∧ Q (.lst (F.now.rows.map (encRun F.now))) e
def sp_Fen_counting : SpD := fun ds e Q => ∃ p a b c F, ds = [.ref p] ∧ FenC e p a b c F ∧ F.Good ∧ Q (.lst (F.now.counted.map fun r => D.int r.num)) e
theorem len_Fen_deeds (ds : List D) (e : Eta) (Q : D → Eta → Prop) (h : sp_Fen_deeds ds e Q) : ds.length = 1 := by obtain ⟨_, _, _, _, _, rfl, _⟩ := h; rfl
theorem len_Fen_marks (ds : List D) (e : Eta) (Q : D → Eta → Prop) (h : sp_Fen_marks ds e Q) : ds.length = 1 := by obtain ⟨_, _, _, _, _, rfl, _⟩ := h; rfl
theorem len_Fen_hands (ds : List D) (e : Eta) (Q : D → Eta → Prop) (h : sp_Fen_hands ds e Q) : ds.length = 1 := by obtain ⟨_, _, _, _, _, rfl, _⟩ := h; rfl
theorem len_Fen_asides (ds : List D) (e : Eta) (Q : D → Eta → Prop) (h : sp_Fen_asides ds e Q) : ds.length = 1 := by obtain ⟨_, _, _, _, _, rfl, _⟩ := h; rfl
theorem len_Fen_stands (ds : List D) (e : Eta) (Q : D → Eta → Prop) (h : sp_Fen_stands ds e Q) : ds.length = 1 := by obtain ⟨_, _, _, _, _, rfl, _⟩ := h; rfl
theorem len_Fen_allowed (ds : List D) (e : Eta) (Q : D → Eta → Prop) (h : sp_Fen_allowed ds e Q) : ds.length = 1 := by obtain ⟨_, _, _, _, _, rfl, _⟩ := h; rfl
theorem len_Fen_runs (ds : List D) (e : Eta) (Q : D → Eta → Prop) (h : sp_Fen_runs ds e Q) : ds.length = 1 := by obtain ⟨_, _, _, _, _, rfl, _⟩ := h; rfl
theorem len_Fen_counting (ds : List D) (e : Eta) (Q : D → Eta → Prop) (h : sp_Fen_counting ds e Q) : ds.length = 1 := by obtain ⟨_, _, _, _, _, rfl, _⟩ := h; rfl
abbrev nm_Fen_deeds : List Str := ["self"]
def t_Fen_deeds : TSD :=
 (dRet (dCall (rList false) (dCons (dFld "Fen" "done" (dVar 0)) dNil)))

theorem rd_Fen_deeds (ds : List D) (e : Eta) (Q : D → Eta → Prop) (h : sp_Fen_deeds ds e Q) : t_Fen_deeds (endsD Q) (startD nm_Fen_deeds ds) e := by
  obtain ⟨p, a, b, c, F, rfl, h, g, k⟩ := h
  simp [t_Fen_deeds, h.i, itmD_lst, h.dn]
  exact outD.self k
abbrev nm_Fen_marks : List Str := ["self"]
def t_Fen_marks : TSD :=
 (dRet (dMeth "Stand" "mark_names" sp_Stand_mark_names (dMeth "Fen" "now" sp_Fen_now (dVar 0) dNil) dNil))

theorem rd_Fen_marks (ds : List D) (e : Eta) (Q : D → Eta → Prop) (h : sp_Fen_marks ds e Q) : t_Fen_marks (endsD Q) (startD nm_Fen_marks ds) e := by
  obtain ⟨p, a, b, c, F, rfl, h, g, k⟩ := h
  simp [t_Fen_marks, h.i]
  refine use_now h g ⟨rfl, ?_⟩
  exact use_mark_names .tree g.now (outD.self k)
abbrev nm_Fen_hands : List Str := ["self"]
def t_Fen_hands : TSD :=
 (dRet (dMeth "Stand" "hand_names" sp_Stand_hand_names (dMeth "Fen" "now" sp_Fen_now (dVar 0) dNil) dNil))

theorem rd_Fen_hands (ds : List D) (e : Eta) (Q : D → Eta → Prop) (h : sp_Fen_hands ds e Q) : t_Fen_hands (endsD Q) (startD nm_Fen_hands ds) e := by
  obtain ⟨p, a, b, c, F, rfl, h, g, k⟩ := h
  simp [t_Fen_hands, h.i]
  refine use_now h g ⟨rfl, ?_⟩
  exact use_hand_names .tree (outD.self k)
abbrev nm_Fen_asides : List Str := ["self", "hand"]
def t_Fen_asides : TSD :=
 (dRet (dComp false (iSeq (dMeth "Stand" "hand_names" sp_Stand_hand_names (dMeth "Fen" "now" sp_Fen_now (dVar 0) dNil) dNil)) (.one 1) (dNot (dTru (dOp rIdx (dFld "Stand" "heeded" (dMeth "Fen" "now" sp_Fen_now (dVar 0) dNil)) (dVar 1)))) (dVar 1) [1]))

theorem rd_Fen_asides (ds : List D) (e : Eta) (Q : D → Eta → Prop) (h : sp_Fen_asides ds e Q) : t_Fen_asides (endsD Q) (startD nm_Fen_asides ds) e := by
  obtain ⟨p, a, b, c, F, rfl, h, g, k⟩ := h
  have l10 := g.now.hdLen
  simp [t_Fen_asides, h.i]
  refine use_now h g ⟨rfl, ?_⟩
  refine use_hand_names .tree ?_
  simp
  refine ⟨leL (by rw [SM.hands, List.length_map]; omega), comp_pure (p := fun n => !hdOf F.now.heeded n) (h := D.str) trivial F.now.hands [] (fun n hn => ?_) ?_⟩
  · simp [h.i]
    refine fun K q => use_now h g ?_
    simp [standD, insD_o, idx_hd (b := .dic (encH F.now.heeded)) rfl hn]
    exact q
  · simp
    exact outD.self k
abbrev nm_Fen_stands : List Str := ["self"]
def t_Fen_stands : TSD :=
 (dRet (dCall (rList false) (dCons (dFld "Stand" "places" (dMeth "Fen" "now" sp_Fen_now (dVar 0) dNil)) dNil)))

theorem rd_Fen_stands (ds : List D) (e : Eta) (Q : D → Eta → Prop) (h : sp_Fen_stands ds e Q) : t_Fen_stands (endsD Q) (startD nm_Fen_stands ds) e := by
  obtain ⟨p, a, b, c, F, rfl, h, g, k⟩ := h
  simp [t_Fen_stands, h.i]
  refine use_now h g ?_
  simp [standD, insD_o]
  exact outD.self k
abbrev nm_Fen_allowed : List Str := ["self"]
def t_Fen_allowed : TSD :=
 (dRet (dFld "Stand" "many" (dMeth "Fen" "now" sp_Fen_now (dVar 0) dNil)))

theorem rd_Fen_allowed (ds : List D) (e : Eta) (Q : D → Eta → Prop) (h : sp_Fen_allowed ds e Q) : t_Fen_allowed (endsD Q) (startD nm_Fen_allowed ds) e := by
  obtain ⟨p, a, b, c, F, rfl, h, g, k⟩ := h
  simp [t_Fen_allowed, h.i]
  refine use_now h g ?_
  simp [standD, insD_o]
  exact outD.self k
abbrev nm_Fen_runs : List Str := ["self", "places", "row"]
def t_Fen_runs : TSD :=
 (dSeq (dAsg (dFld "Stand" "places" (dMeth "Fen" "now" sp_Fen_now (dVar 0) dNil)) (.one 1))
 (dRet (dComp false (iSeq (dFld "Stand" "rows" (dMeth "Fen" "now" sp_Fen_now (dVar 0) dNil))) (.one 2) dYes (dOp rPlus (dOp rPlus (dOp rPlus (dTup (dCons (dOp rIdx (dVar 2) (dC (.int 0))) dNil)) (dOp rIdx (dVar 1) (dOp rIdx (dVar 2) (dC (.int 1))))) (dOp rIdx (dVar 1) (dOp rIdx (dVar 2) (dC (.int 2))))) (dCut false (dVar 2) (dSome (dC (.int 3))) dNo)) [2])))

theorem rd_Fen_runs (ds : List D) (e : Eta) (Q : D → Eta → Prop) (h : sp_Fen_runs ds e Q) : t_Fen_runs (endsD Q) (startD nm_Fen_runs ds) e := by
  obtain ⟨p, a, b, c, F, rfl, h, g, k⟩ := h
  have l40 := g.now.rwLen
  simp [t_Fen_runs, h.i]
  refine use_now h g ?_
  simp [standD, insD_o, h.i]
  refine use_now h g ?_
  simp [standD, insD_o]
  refine ⟨leL (by omega), comp_pure (p := fun _ => true) (h := encRun F.now) trivial F.now.rows [] (fun r hr => ?_) ?_⟩
  · obtain ⟨⟨h1, h2⟩, ⟨h3, h4⟩, h5⟩ := g.now.rwAt r hr
    have cut : cutD [D.int r.num, .int r.one, .int r.other, .int r.rise, .str r.hand] (some 3) none = [.int r.rise, .str r.hand] := by rfl
    simp [row0, row1, row2, at_pl h1 h2, at_pl h3 h4]
    intro K q
    unfold encPl encRow
    simp only [rPlus_tt, rCut_t, cut]
    simp
    exact ⟨by rw [sizeLine_eq]; omega, by rw [sizeLine_eq]; omega, by rw [sizeLine_eq]; omega, by rw [sizeLine_eq]; omega, q⟩
  · simp [filT]
    exact outD.self k
abbrev nm_Fen_counting : List Str := ["self", "row"]
def t_Fen_counting : TSD :=
 (dRet (dComp false (iSeq (dMeth "Stand" "counted" sp_Stand_counted (dMeth "Fen" "now" sp_Fen_now (dVar 0) dNil) dNil)) (.one 1) dYes (dOp rIdx (dVar 1) (dC (.int 0))) [1]))

theorem rd_Fen_counting (ds : List D) (e : Eta) (Q : D → Eta → Prop) (h : sp_Fen_counting ds e Q) : t_Fen_counting (endsD Q) (startD nm_Fen_counting ds) e := by
  obtain ⟨p, a, b, c, F, rfl, h, g, k⟩ := h
  have l40 := g.now.rwLen
  have lc : F.now.counted.length ≤ 40 := Nat.le_trans (List.length_filter_le ..) l40
  simp [t_Fen_counting, h.i]
  refine use_now h g ⟨rfl, ?_⟩
  refine use_counted .tree g.now ?_
  simp
  refine ⟨leL (by omega), comp_pure (p := fun _ => true) (h := fun r : Row => .int r.num) trivial F.now.counted [] (fun r hr => ?_) ?_⟩
  · simp [row0]
  · simp [filT]
    exact outD.self k
end FL

set_option Elab.async false
set_option linter.all false
set_option maxRecDepth 100000
set_option maxHeartbeats 4000000
/-! The laws' own model of a fen. -/
namespace FL
open PySem PySem.Spec PyProof.Rows L2
def modK (pl hd rw en mn dd : D) : List (Key × D) := [(.inr "places", pl), (.inr "heeded", hd), (.inr "rows", rw), (.inr "entered", en), (.inr "many", mn), (.inr "deeds", dd)]
section
variable {pl hd rw en mn dd x : D}
@[simp] theorem modK_1 : vD (modK pl hd rw en mn dd) (.inr "places") = some pl := rfl
@[simp] theorem modK_2 : vD (modK pl hd rw en mn dd) (.inr "heeded") = some hd := rfl
@[simp] theorem modK_3 : vD (modK pl hd rw en mn dd) (.inr "rows") = some rw := rfl
@[simp] theorem modK_4 : vD (modK pl hd rw en mn dd) (.inr "entered") = some en := rfl
@[simp] theorem modK_5 : vD (modK pl hd rw en mn dd) (.inr "many") = some mn := rfl
@[simp] theorem modK_6 : vD (modK pl hd rw en mn dd) (.inr "deeds") = some dd := rfl
@[simp] theorem modK_s1 : putD (modK pl hd rw en mn dd) (.inr "places") x = modK x hd rw en mn dd := rfl
@[simp] theorem modK_s2 : putD (modK pl hd rw en mn dd) (.inr "heeded") x = modK pl x rw en mn dd := rfl
@[simp] theorem modK_s3 : putD (modK pl hd rw en mn dd) (.inr "rows") x = modK pl hd x en mn dd := rfl
@[simp] theorem modK_s4 : putD (modK pl hd rw en mn dd) (.inr "entered") x = modK pl hd rw x mn dd := rfl
@[simp] theorem modK_s5 : putD (modK pl hd rw en mn dd) (.inr "many") x = modK pl hd rw en x dd := rfl
@[simp] theorem modK_s6 : putD (modK pl hd rw en mn dd) (.inr "deeds") x = modK pl hd rw en mn x := rfl
@[simp] theorem modK_l : (modK pl hd rw en mn dd).length = 6 := rfl
end
/-- with one key looked up -/
theorem idx_dic {e : Eta} {x : D} {kvs : List (Key × D)} (h : dicD e x = some kvs) (k : Str) : idxD e x (.str k) = vD kvs (.inr k) := by
  cases x with
  | ref p => rw [dicD_r] at h; rw [idxD_r, dicO_ex h, idxC_d, keyD_s]; rfl
  | dic kvs => cases h; rw [idxD_d, keyD_s]; rfl
  | _ => cases h
theorem Keep.dic {e e' : Eta} {x : D} {kvs : List (Key × D)} (k : Keep [] e e') (h : dicD e x = some kvs) : dicD e' x = some kvs := by
  cases x with
  | ref q => rw [dicD_r] at h ⊢; rw [k q _ (by simp) (dicO_ex h)]; rfl
  | dic kvs => exact h
  | _ => cases h
def PlAt (e : Eta) (x : D) (pl : List (Str × Int)) : Prop := ∃ hd rw en mn dd, dicD e x = some (modK (.lst (pl.map encPl)) hd rw en mn dd)
structure ModV (e : Eta) (x : D) (h : Addr) (S : SM) (L : List Deed) : Prop where
  dic : dicD e x = some (modK (.lst (S.places.map encPl)) (.ref h) (.lst (S.rows.map encRow)) (.int S.entered) (.int S.many) (.lst (L.map encDeed)))
  hd : e h = some (.dic (encH S.heeded))
  tree : ∃ kvs, x = .dic kvs
def ModAt (e : Eta) (x : D) (S : SM) (L : List Deed) : Prop := ∃ h, ModV e x h S L
theorem ModV.pl {e : Eta} {x : D} {h : Addr} {S : SM} {L : List Deed} (m : ModV e x h S L) : PlAt e x S.places := ⟨_, _, _, _, _, m.dic⟩
theorem ModV.at {e : Eta} {x : D} {h : Addr} {S : SM} {L : List Deed} (m : ModV e x h S L) : ModAt e x S L := ⟨h, m⟩
theorem Keep.modV {e e' : Eta} {x : D} {h : Addr} {S : SM} {L : List Deed} (k : Keep [] e e') (m : ModV e x h S L) : ModV e' x h S L := ⟨k.dic m.dic, k _ _ (by simp) m.hd, m.tree⟩
theorem Keep.mod {e e' : Eta} {x : D} {S : SM} {L : List Deed} (k : Keep [] e e') (m : ModAt e x S L) : ModAt e' x S L := let ⟨h, m⟩ := m; ⟨h, k.modV m⟩
theorem ModV.is {e : Eta} {x : D} {h : Addr} {S : SM} {L : List Deed} (m : ModV e x h S L) : x = .dic (modK (.lst (S.places.map encPl)) (.ref h) (.lst (S.rows.map encRow)) (.int S.entered) (.int S.many) (.lst (L.map encDeed))) := by
  obtain ⟨kvs, rfl⟩ := m.tree
  exact congrArg D.dic (Option.some.inj m.dic)
/-- dicts stay -/
theorem ModV.keep {e e' : Eta} {x : D} {h : Addr} {S : SM} {L : List Deed} {l : List Addr} (m : ModV e x h S L) (k : Keep l e e') (hl : ∀ q ∈ l, dicO (e q) = none) : ModV e' x h S L := by
  obtain ⟨kvs, rfl⟩ := m.tree
  exact ⟨m.dic, k _ _ (fun z => by have := hl _ z; rw [m.hd] at this; cases this) m.hd, kvs, rfl⟩
theorem ModAt.keep {e e' : Eta} {x : D} {S : SM} {L : List Deed} {l : List Addr} (m : ModAt e x S L) (k : Keep l e e') (hl : ∀ q ∈ l, dicO (e q) = none) : ModAt e' x S L := let ⟨h, m⟩ := m; ⟨h, m.keep k hl⟩
def sp_law_turns : SpD := fun ds e Q => ∃ (x : D) (n : Str) (pl : List (Str × Int)), ds = [x, .str n] ∧ PlAt e x pl ∧ (∀ p ∈ pl, PyData.strOk p.1 = true) ∧ pl.length ≤ 12 ∧ PyData.strOk n = true ∧ Q (.int (turnsL pl n : Nat)) e
abbrev nm_law_turns : List Str := ["_law_model_here", "_law_name", "_law_place_here"]
def t_law_turns : TSD :=
 (dRet (dCall rLen' (dCons (dComp false (iSeq (dOp rIdx (dVar 0) (dC (.str ("places" : Str))))) (.one 2) (dTest (dOp (rEq2 false) (dOp rIdx (dVar 2) (dC (.int 0))) (dVar 1))) (dVar 2) [2]) dNil)))

theorem rd_law_turns (ds : List D) (e : Eta) (Q : D → Eta → Prop) (h : sp_law_turns ds e Q) : t_law_turns (endsD Q) (startD nm_law_turns ds) e := by
  obtain ⟨x, n, pl, rfl, ⟨_, _, _, _, _, hx⟩, ok, hl, hn, k⟩ := h
  simp [t_law_turns, idx_dic hx]
  refine ⟨leL (by omega), comp_pure (p := fun q : Str × Int => decide (q.1 = n)) (h := encPl) trivial pl [] (fun q hq => ?_) ?_⟩
  · have o1 := ok q hq
    simp [atI_pl0, o1, hn]
  · simp
    exact outD.self k
theorem use_lturns {x : D} {n : Str} {pl : List (Str × Int)} {e : Eta} {Q : D → Eta → Prop} (h : PlAt e x pl) (ok : ∀ p ∈ pl, PyData.strOk p.1 = true) (hl : pl.length ≤ 12) (hn : PyData.strOk n = true) (k : Q (.int (turnsL pl n : Nat)) e) : sp_law_turns [x, .str n] e Q := ⟨x, n, pl, rfl, h, ok, hl, hn, k⟩
theorem len_law_turns (ds : List D) (e : Eta) (Q : D → Eta → Prop) (h : sp_law_turns ds e Q) : ds.length = 2 := by obtain ⟨_, _, _, rfl, _⟩ := h; rfl
def sp_law_place : SpD := fun ds e Q => ∃ (x : D) (n : Str) (S : SM), ds = [x, .str n] ∧ PlAt e x S.places ∧ S.Good ∧ S.turns n ≠ 0 ∧ Q (.int (S.place n)) e
abbrev nm_law_place : List Str := ["_law_model_here", "_law_name"]
def t_law_place : TSD :=
 (dRet (dMth rIndexDp (dOp rIdx (dVar 0) (dC (.str ("places" : Str)))) (dCons (dTup (dCons (dVar 1) (dCons (dCall sp_law_turns (dCons (dVar 0) (dCons (dVar 1) dNil))) dNil))) dNil)))

theorem rd_law_place (ds : List D) (e : Eta) (Q : D → Eta → Prop) (h : sp_law_place ds e Q) : t_law_place (endsD Q) (startD nm_law_place ds) e := by
  obtain ⟨x, n, S, rfl, hx, g, hn, k⟩ := h
  obtain ⟨_, _, _, _, _, hd⟩ := id hx
  have on := Good_ok g _ (g.at hn)
  simp [t_law_place, idx_dic hd, -rIndexDp]
  refine use_lturns hx (Good_ok g) g.plLen on ?_
  refine ⟨by rw [sizeLine_eq]; omega, ?_⟩
  exact ix_pl g (g.at hn) rfl (outD.self k)
theorem use_lplace {x : D} {n : Str} {S : SM} {e : Eta} {Q : D → Eta → Prop} (h : PlAt e x S.places) (g : S.Good) (hn : S.turns n ≠ 0) (k : Q (.int (S.place n)) e) : sp_law_place [x, .str n] e Q := ⟨x, n, S, rfl, h, g, hn, k⟩
theorem len_law_place (ds : List D) (e : Eta) (Q : D → Eta → Prop) (h : sp_law_place ds e Q) : ds.length = 2 := by obtain ⟨_, _, _, rfl, _⟩ := h; rfl
def sp_law_marks : SpD := fun ds e Q => ∃ (x : D) (S : SM), ds = [x] ∧ PlAt e x S.places ∧ S.Good ∧ Q (.lst (S.marks.map D.str)) e
abbrev nm_law_marks : List Str := ["_law_model_here", "_law_name", "_law_turn"]
def t_law_marks : TSD :=
 (dRet (dComp false (iSeq (dOp rIdx (dVar 0) (dC (.str ("places" : Str))))) (.many [1, 2]) (dTest (dOp (rEq2 false) (dVar 2) (dC (.int 1)))) (dVar 1) [1, 2]))

theorem rd_law_marks (ds : List D) (e : Eta) (Q : D → Eta → Prop) (h : sp_law_marks ds e Q) : t_law_marks (endsD Q) (startD nm_law_marks ds) e := by
  obtain ⟨x, S, rfl, ⟨_, _, _, _, _, hx⟩, g, k⟩ := h
  have l12 := g.plLen
  simp [t_law_marks, idx_dic hx]
  refine ⟨leL (by omega), comp_pure (p := fun r : Str × Int => decide (r.2 = 1)) (h := fun r => .str r.1) trivial S.places [] (fun r hr => ?_) ?_⟩
  · simp [encPl]
  · simp
    unfold SM.marks at k
    rw [List.map_map] at k
    exact outD.self k
theorem use_lmarks {x : D} {S : SM} {e : Eta} {Q : D → Eta → Prop} (h : PlAt e x S.places) (g : S.Good) (k : Q (.lst (S.marks.map D.str)) e) : sp_law_marks [x] e Q := ⟨x, S, rfl, h, g, k⟩
theorem len_law_marks (ds : List D) (e : Eta) (Q : D → Eta → Prop) (h : sp_law_marks ds e Q) : ds.length = 1 := by obtain ⟨_, _, rfl, _⟩ := h; rfl
def sp_law_counted : SpD := fun ds e Q => ∃ (x : D) (S : SM) (L : List Deed), ds = [x] ∧ ModAt e x S L ∧ S.Good ∧ Q (.lst (S.counted.map encRow)) e
abbrev nm_law_counted : List Str := ["_law_model_here", "_law_row"]
def t_law_counted : TSD :=
 (dRet (dComp false (iSeq (dOp rIdx (dVar 0) (dC (.str ("rows" : Str))))) (.one 1) (dTru (dOp rIdx (dOp rIdx (dVar 0) (dC (.str ("heeded" : Str)))) (dOp rIdx (dVar 1) (dC (.int 4))))) (dVar 1) [1]))

theorem rd_law_counted (ds : List D) (e : Eta) (Q : D → Eta → Prop) (h : sp_law_counted ds e Q) : t_law_counted (endsD Q) (startD nm_law_counted ds) e := by
  obtain ⟨x, S, L, rfl, ⟨hd, m⟩, g, k⟩ := h
  have l40 := g.rwLen
  simp [t_law_counted, idx_dic m.dic]
  refine ⟨leL (by omega), comp_pure (p := fun r : Row => hdOf S.heeded r.hand) (h := encRow) trivial S.rows [] (fun r hr => ?_) ?_⟩
  · simp [row4, idx_dic m.dic]
    have := idx_hd (e := e) (b := .ref hd) (by rw [dicD_r, m.hd]; rfl) (g.rwHand r hr)
    rw [idxD_r] at this
    simp [this]
  · simp
    exact outD.self k
theorem use_lcounted {x : D} {S : SM} {L : List Deed} {e : Eta} {Q : D → Eta → Prop} (h : ModAt e x S L) (g : S.Good) (k : Q (.lst (S.counted.map encRow)) e) : sp_law_counted [x] e Q := ⟨x, S, L, rfl, h, g, k⟩
theorem len_law_counted (ds : List D) (e : Eta) (Q : D → Eta → Prop) (h : sp_law_counted ds e Q) : ds.length = 1 := by obtain ⟨_, _, _, rfl, _⟩ := h; rfl
def sp_law_due_told : SpD := fun ds e Q => ∃ (x : D) (S : SM) (L : List Deed) (d : Deed), ds = [x, encDeed d] ∧ ModAt e x S L ∧ Q (toldD (S.tells d)) e
abbrev nm_law_due_told : List Str := ["_law_model_here", "_law_deed"]
def t_law_due_told : TSD :=
 (dRet (dOp rIdx (dLst (dCons (dC .non) (dCons (dOp rPlus (dOp rIdx (dVar 0) (dC (.str ("entered" : Str)))) (dC (.int 1))) dNil))) (dCall rIntC (dCons (dOp (rEq2 false) (dOp rIdx (dVar 1) (dC (.int 0))) (dC (.str ("run" : Str)))) dNil))))

theorem rd_law_due_told (ds : List D) (e : Eta) (Q : D → Eta → Prop) (h : sp_law_due_told ds e Q) : t_law_due_told (endsD Q) (startD nm_law_due_told ds) e := by
  obtain ⟨x, S, L, d, rfl, ⟨hd, m⟩, k⟩ := h
  have k := outD.self k
  cases d <;> simp [t_law_due_told, idx_dic m.dic, encDeed] <;> exact ⟨by rw [sizeLine_eq]; omega, k⟩
theorem use_ldue {x : D} {S : SM} {L : List Deed} {d : Deed} {e : Eta} {Q : D → Eta → Prop} (h : ModAt e x S L) (k : Q (toldD (S.tells d)) e) : sp_law_due_told [x, encDeed d] e Q := ⟨x, S, L, d, rfl, h, k⟩
theorem len_law_due_told (ds : List D) (e : Eta) (Q : D → Eta → Prop) (h : sp_law_due_told ds e Q) : ds.length = 2 := by obtain ⟨_, _, _, _, rfl, _⟩ := h; rfl
def truthI (p : Int) : Int := p * p * 3 % 17 - p
def sp_law_truth : SpD := fun ds e Q => ∃ p : Int, ds = [.int p] ∧ 0 ≤ p ∧ p < 1000 ∧ Q (.int (truthI p)) e
abbrev nm_law_truth : List Str := ["_law_place_here"]
def t_law_truth : TSD :=
 (dRet (dOp rSubD (dOp rModD (dOp (rMul false) (dOp (rMul false) (dVar 0) (dVar 0)) (dC (.int 3))) (dC (.int 17))) (dVar 0)))

theorem rd_law_truth (ds : List D) (e : Eta) (Q : D → Eta → Prop) (h : sp_law_truth ds e Q) : t_law_truth (endsD Q) (startD nm_law_truth ds) e := by
  obtain ⟨p, rfl, h0, h1, k⟩ := h
  have h2 : p * p < 1000000 := by have := Int.mul_le_mul (show p ≤ 999 by omega) (show p ≤ 999 by omega) h0 (by decide); omega
  have h3 : 0 ≤ p * p := Int.mul_nonneg h0 h0
  simp [t_law_truth]
  exact ⟨mul64 (by omega) (by omega) (by omega) (by omega), mul64 (by omega) (by omega) (by decide) (by decide), outD.self k⟩
theorem use_ltruth {p : Int} {e : Eta} {Q : D → Eta → Prop} (h0 : 0 ≤ p) (h1 : p < 1000) (k : Q (.int (truthI p)) e) : sp_law_truth [.int p] e Q := ⟨p, rfl, h0, h1, k⟩
theorem len_law_truth (ds : List D) (e : Eta) (Q : D → Eta → Prop) (h : sp_law_truth ds e Q) : ds.length = 1 := by obtain ⟨_, rfl, _⟩ := h; rfl
end FL

set_option Elab.async false
set_option linter.all false
/-! The words of the deeds apart. -/
namespace FL
open PySem PySem.Spec PyProof.Rows L2
@[simp] theorem w_mark_hand : (("mark" : Str) = ("hand" : Str)) = False := eq_false (by decide +kernel)
@[simp] theorem w_mark_run : (("mark" : Str) = ("run" : Str)) = False := eq_false (by decide +kernel)
@[simp] theorem w_mark_strike : (("mark" : Str) = ("strike" : Str)) = False := eq_false (by decide +kernel)
@[simp] theorem w_mark_mend : (("mark" : Str) = ("mend" : Str)) = False := eq_false (by decide +kernel)
@[simp] theorem w_mark_settle : (("mark" : Str) = ("settle" : Str)) = False := eq_false (by decide +kernel)
@[simp] theorem w_mark_aside : (("mark" : Str) = ("aside" : Str)) = False := eq_false (by decide +kernel)
@[simp] theorem w_mark_heed : (("mark" : Str) = ("heed" : Str)) = False := eq_false (by decide +kernel)
@[simp] theorem w_mark_allow : (("mark" : Str) = ("allow" : Str)) = False := eq_false (by decide +kernel)
@[simp] theorem w_hand_mark : (("hand" : Str) = ("mark" : Str)) = False := eq_false (by decide +kernel)
@[simp] theorem w_hand_run : (("hand" : Str) = ("run" : Str)) = False := eq_false (by decide +kernel)
@[simp] theorem w_hand_strike : (("hand" : Str) = ("strike" : Str)) = False := eq_false (by decide +kernel)
@[simp] theorem w_hand_mend : (("hand" : Str) = ("mend" : Str)) = False := eq_false (by decide +kernel)
@[simp] theorem w_hand_settle : (("hand" : Str) = ("settle" : Str)) = False := eq_false (by decide +kernel)
@[simp] theorem w_hand_aside : (("hand" : Str) = ("aside" : Str)) = False := eq_false (by decide +kernel)
@[simp] theorem w_hand_heed : (("hand" : Str) = ("heed" : Str)) = False := eq_false (by decide +kernel)
@[simp] theorem w_hand_allow : (("hand" : Str) = ("allow" : Str)) = False := eq_false (by decide +kernel)
@[simp] theorem w_run_mark : (("run" : Str) = ("mark" : Str)) = False := eq_false (by decide +kernel)
@[simp] theorem w_run_hand : (("run" : Str) = ("hand" : Str)) = False := eq_false (by decide +kernel)
@[simp] theorem w_run_strike : (("run" : Str) = ("strike" : Str)) = False := eq_false (by decide +kernel)
@[simp] theorem w_run_mend : (("run" : Str) = ("mend" : Str)) = False := eq_false (by decide +kernel)
@[simp] theorem w_run_settle : (("run" : Str) = ("settle" : Str)) = False := eq_false (by decide +kernel)
@[simp] theorem w_run_aside : (("run" : Str) = ("aside" : Str)) = False := eq_false (by decide +kernel)
@[simp] theorem w_run_heed : (("run" : Str) = ("heed" : Str)) = False := eq_false (by decide +kernel)
@[simp] theorem w_run_allow : (("run" : Str) = ("allow" : Str)) = False := eq_false (by decide +kernel)
@[simp] theorem w_strike_mark : (("strike" : Str) = ("mark" : Str)) = False := eq_false (by decide +kernel)
@[simp] theorem w_strike_hand : (("strike" : Str) = ("hand" : Str)) = False := eq_false (by decide +kernel)
@[simp] theorem w_strike_run : (("strike" : Str) = ("run" : Str)) = False := eq_false (by decide +kernel)
@[simp] theorem w_strike_mend : (("strike" : Str) = ("mend" : Str)) = False := eq_false (by decide +kernel)
@[simp] theorem w_strike_settle : (("strike" : Str) = ("settle" : Str)) = False := eq_false (by decide +kernel)
@[simp] theorem w_strike_aside : (("strike" : Str) = ("aside" : Str)) = False := eq_false (by decide +kernel)
@[simp] theorem w_strike_heed : (("strike" : Str) = ("heed" : Str)) = False := eq_false (by decide +kernel)
@[simp] theorem w_strike_allow : (("strike" : Str) = ("allow" : Str)) = False := eq_false (by decide +kernel)
@[simp] theorem w_mend_mark : (("mend" : Str) = ("mark" : Str)) = False := eq_false (by decide +kernel)
@[simp] theorem w_mend_hand : (("mend" : Str) = ("hand" : Str)) = False := eq_false (by decide +kernel)
@[simp] theorem w_mend_run : (("mend" : Str) = ("run" : Str)) = False := eq_false (by decide +kernel)
@[simp] theorem w_mend_strike : (("mend" : Str) = ("strike" : Str)) = False := eq_false (by decide +kernel)
@[simp] theorem w_mend_settle : (("mend" : Str) = ("settle" : Str)) = False := eq_false (by decide +kernel)
@[simp] theorem w_mend_aside : (("mend" : Str) = ("aside" : Str)) = False := eq_false (by decide +kernel)
@[simp] theorem w_mend_heed : (("mend" : Str) = ("heed" : Str)) = False := eq_false (by decide +kernel)
@[simp] theorem w_mend_allow : (("mend" : Str) = ("allow" : Str)) = False := eq_false (by decide +kernel)
@[simp] theorem w_settle_mark : (("settle" : Str) = ("mark" : Str)) = False := eq_false (by decide +kernel)
@[simp] theorem w_settle_hand : (("settle" : Str) = ("hand" : Str)) = False := eq_false (by decide +kernel)
@[simp] theorem w_settle_run : (("settle" : Str) = ("run" : Str)) = False := eq_false (by decide +kernel)
@[simp] theorem w_settle_strike : (("settle" : Str) = ("strike" : Str)) = False := eq_false (by decide +kernel)
@[simp] theorem w_settle_mend : (("settle" : Str) = ("mend" : Str)) = False := eq_false (by decide +kernel)
@[simp] theorem w_settle_aside : (("settle" : Str) = ("aside" : Str)) = False := eq_false (by decide +kernel)
@[simp] theorem w_settle_heed : (("settle" : Str) = ("heed" : Str)) = False := eq_false (by decide +kernel)
@[simp] theorem w_settle_allow : (("settle" : Str) = ("allow" : Str)) = False := eq_false (by decide +kernel)
@[simp] theorem w_aside_mark : (("aside" : Str) = ("mark" : Str)) = False := eq_false (by decide +kernel)
@[simp] theorem w_aside_hand : (("aside" : Str) = ("hand" : Str)) = False := eq_false (by decide +kernel)
@[simp] theorem w_aside_run : (("aside" : Str) = ("run" : Str)) = False := eq_false (by decide +kernel)
@[simp] theorem w_aside_strike : (("aside" : Str) = ("strike" : Str)) = False := eq_false (by decide +kernel)
@[simp] theorem w_aside_mend : (("aside" : Str) = ("mend" : Str)) = False := eq_false (by decide +kernel)
@[simp] theorem w_aside_settle : (("aside" : Str) = ("settle" : Str)) = False := eq_false (by decide +kernel)
@[simp] theorem w_aside_heed : (("aside" : Str) = ("heed" : Str)) = False := eq_false (by decide +kernel)
@[simp] theorem w_aside_allow : (("aside" : Str) = ("allow" : Str)) = False := eq_false (by decide +kernel)
@[simp] theorem w_heed_mark : (("heed" : Str) = ("mark" : Str)) = False := eq_false (by decide +kernel)
@[simp] theorem w_heed_hand : (("heed" : Str) = ("hand" : Str)) = False := eq_false (by decide +kernel)
@[simp] theorem w_heed_run : (("heed" : Str) = ("run" : Str)) = False := eq_false (by decide +kernel)
@[simp] theorem w_heed_strike : (("heed" : Str) = ("strike" : Str)) = False := eq_false (by decide +kernel)
@[simp] theorem w_heed_mend : (("heed" : Str) = ("mend" : Str)) = False := eq_false (by decide +kernel)
@[simp] theorem w_heed_settle : (("heed" : Str) = ("settle" : Str)) = False := eq_false (by decide +kernel)
@[simp] theorem w_heed_aside : (("heed" : Str) = ("aside" : Str)) = False := eq_false (by decide +kernel)
@[simp] theorem w_heed_allow : (("heed" : Str) = ("allow" : Str)) = False := eq_false (by decide +kernel)
@[simp] theorem w_allow_mark : (("allow" : Str) = ("mark" : Str)) = False := eq_false (by decide +kernel)
@[simp] theorem w_allow_hand : (("allow" : Str) = ("hand" : Str)) = False := eq_false (by decide +kernel)
@[simp] theorem w_allow_run : (("allow" : Str) = ("run" : Str)) = False := eq_false (by decide +kernel)
@[simp] theorem w_allow_strike : (("allow" : Str) = ("strike" : Str)) = False := eq_false (by decide +kernel)
@[simp] theorem w_allow_mend : (("allow" : Str) = ("mend" : Str)) = False := eq_false (by decide +kernel)
@[simp] theorem w_allow_settle : (("allow" : Str) = ("settle" : Str)) = False := eq_false (by decide +kernel)
@[simp] theorem w_allow_aside : (("allow" : Str) = ("aside" : Str)) = False := eq_false (by decide +kernel)
@[simp] theorem w_allow_heed : (("allow" : Str) = ("heed" : Str)) = False := eq_false (by decide +kernel)
@[simp] theorem w3_mark : inD (.str "mark") [.str "hand", .str "heed", .str "aside"] = false := by decide +kernel
@[simp] theorem w3_hand : inD (.str "hand") [.str "hand", .str "heed", .str "aside"] = true := by decide +kernel
@[simp] theorem w3_run : inD (.str "run") [.str "hand", .str "heed", .str "aside"] = false := by decide +kernel
@[simp] theorem w3_strike : inD (.str "strike") [.str "hand", .str "heed", .str "aside"] = false := by decide +kernel
@[simp] theorem w3_mend : inD (.str "mend") [.str "hand", .str "heed", .str "aside"] = false := by decide +kernel
@[simp] theorem w3_settle : inD (.str "settle") [.str "hand", .str "heed", .str "aside"] = false := by decide +kernel
@[simp] theorem w3_aside : inD (.str "aside") [.str "hand", .str "heed", .str "aside"] = true := by decide +kernel
@[simp] theorem w3_heed : inD (.str "heed") [.str "hand", .str "heed", .str "aside"] = true := by decide +kernel
@[simp] theorem w3_allow : inD (.str "allow") [.str "hand", .str "heed", .str "aside"] = false := by decide +kernel
end FL

set_option Elab.async false
set_option linter.all false
set_option maxRecDepth 100000
set_option maxHeartbeats 4000000
/-! The laws' own model: deeds done in it. -/
namespace FL
open PySem PySem.Spec PyProof.Rows L2
theorem out_hide {Q : D → Eta → Prop} {d d' : D} {e : Eta} {l : List Addr} (v : Vw e (hideE e l) d d') (k : Q d' (hideE e l)) : outD Q d e := ⟨d', _, hide_sub, v, k⟩
def sp_law_model : SpD := fun ds e Q => ds = [] ∧ ∀ x h e', e h = none → ModV e' x h SM.new [] → Keep [] e e' → Q x e'
abbrev nm_law_model : List Str := []
def t_law_model : TSD :=
 (dRet (dDisp ["places", "heeded", "rows", "entered", "many", "deeds"] (dCons (dLst dNil) (dCons dDicC (dCons (dLst dNil) (dCons (dC (.int 0)) (dCons (dC (.int 0)) (dCons (dLst dNil) dNil))))))))

theorem rd_law_model (ds : List D) (e : Eta) (Q : D → Eta → Prop) (h : sp_law_model ds e Q) : t_law_model (endsD Q) (startD nm_law_model ds) e := by
  obtain ⟨rfl, k⟩ := h
  simp [t_law_model]
  intro h hh p hp
  have ph : p ≠ h := fun z => by rw [z, put_same] at hp; cases hp
  rw [put_ne ph] at hp
  refine out_hide (l := [p]) (.dcell (ds' := modK (.lst []) (.ref h) (.lst []) (.int 0) (.int 0) (.lst [])) put_same (hide_in (by simp)) rfl (.refl _)) (k _ h _ hh ⟨rfl, ?_, _, rfl⟩ ?_)
  · rw [hide_out (by simpa using ph.symm), put_ne ph.symm, put_same]; rfl
  · exact Keep.hide (.new (.new .refl hh) hp) (by simpa using hp)
theorem use_lmodel {e : Eta} {Q : D → Eta → Prop} (k : ∀ x h e', e h = none → ModV e' x h SM.new [] → Keep [] e e' → Q x e') : sp_law_model [] e Q := ⟨rfl, k⟩
theorem len_law_model (ds : List D) (e : Eta) (Q : D → Eta → Prop) (h : sp_law_model ds e Q) : ds.length = 0 := by obtain ⟨rfl, _⟩ := h; rfl
theorem done_out {e e1 : Eta} {p h : Addr} {S : SM} {L : List Deed} {Q : D → Eta → Prop} (hp : e p = none) (K : Keep [] e e1) (ph : p ≠ h) (hd : e1 h = some (.dic (encH S.heeded))) (k : ∀ x' e', ModAt e' x' S L → Keep [] e e' → Q x' e') (h1 : e1 p = some (.dic (modK (.lst (S.places.map encPl)) (.ref h) (.lst (S.rows.map encRow)) (.int S.entered) (.int S.many) (.lst (L.map encDeed))))) : outD Q (.ref p) e1 := by
  refine out_hide (l := [p]) (.dcell h1 (hide_in (by simp)) rfl (.refl _)) (k _ _ ⟨h, rfl, ?_, _, rfl⟩ ?_)
  · rw [hide_out (by simpa using ph.symm), hd]
  · exact K.hide (by simpa using hp)
theorem done_out2 {e e1 : Eta} {p r h : Addr} {S : SM} {L : List Deed} {Q : D → Eta → Prop} (hp : e p = none) (hr : e r = none) (K : Keep [] e e1) (ph : p ≠ h) (rh : r ≠ h) (hd : e1 h = some (.dic (encH S.heeded))) (k : ∀ x' e', ModAt e' x' S L → Keep [] e e' → Q x' e') (h1 : e1 p = some (.dic (modK (.lst (S.places.map encPl)) (.ref h) (.ref r) (.int S.entered) (.int S.many) (.lst (L.map encDeed))))) (h2 : e1 r = some (.lst (S.rows.map encRow))) : outD Q (.ref p) e1 := by
  refine out_hide (l := [p, r]) (.dcell (ds' := modK (.lst (S.places.map encPl)) (.ref h) (.lst (S.rows.map encRow)) (.int S.entered) (.int S.many) (.lst (L.map encDeed))) h1 (hide_in (by simp)) rfl (.cons (.refl _) (.cons (.refl _) (.cons (.cell h2 (hide_in (by simp)) (.refl _)) (.refl _))))) (k _ _ ⟨h, rfl, ?_, _, rfl⟩ ?_)
  · rw [hide_out (by simp [ph.symm, rh.symm]), hd]
  · exact K.hide (by simp [hp, hr])
def sp_law_done : SpD := fun ds e Q => ∃ x S L d, ds = [x, encDeed d] ∧ ModAt e x S L ∧ S.Good ∧ S.no d = none ∧ d.Ok ∧ L.length < 4000 ∧ ∀ x' e', ModAt e' x' (S.did d) (L ++ [d]) → Keep [] e e' → Q x' e'
abbrev nm_law_done : List Str := ["_law_model_here", "_law_deed", "_law_word", "_law_heeded", "_law_row", "_law_rows"]
def t_law_done : TSD :=
 (dSeq (dAsg (dCall rDictC (dCons (dVar 0) dNil)) (.one 0))
 (dSeq (dSto (dVar 0) (dC (.str ("deeds" : Str))) (dOp rPlus (dOp rIdx (dVar 0) (dC (.str ("deeds" : Str)))) (dLst (dCons (dVar 1) dNil))))
 (dSeq (dAsg (dOp rIdx (dVar 1) (dC (.int 0))) (.one 2))
 (dSeq (dIfS (dOr (dTest (dOp (rEq2 false) (dVar 2) (dC (.str ("mark" : Str))))) (dTest (dOp (rEq2 false) (dVar 2) (dC (.str ("settle" : Str)))))) (dSto (dVar 0) (dC (.str ("places" : Str))) (dOp rPlus (dOp rIdx (dVar 0) (dC (.str ("places" : Str)))) (dLst (dCons (dTup (dCons (dOp rIdx (dVar 1) (dC (.int 1))) (dCons (dOp rPlus (dCall sp_law_turns (dCons (dVar 0) (dCons (dOp rIdx (dVar 1) (dC (.int 1))) dNil))) (dC (.int 1))) dNil))) dNil))))
 (dIfS (dTest (dOp (rInA false) (dVar 2) (dTup (dCons (dC (.str ("hand" : Str))) (dCons (dC (.str ("heed" : Str))) (dCons (dC (.str ("aside" : Str))) dNil)))))) (dSeq (dAsg (dCall rDictC (dCons (dOp rIdx (dVar 0) (dC (.str ("heeded" : Str)))) dNil)) (.one 3))
 (dSeq (dSto (dVar 3) (dOp rIdx (dVar 1) (dC (.int 1))) (dOp (rEq2 true) (dVar 2) (dC (.str ("aside" : Str)))))
 (dSto (dVar 0) (dC (.str ("heeded" : Str))) (dVar 3))))
 (dIfS (dTest (dOp (rEq2 false) (dVar 2) (dC (.str ("run" : Str))))) (dSeq (dAugS (dVar 0) (dC (.str ("entered" : Str))) (dC (.int 1)) rAddI)
 (dSeq (dAsg (dOp rPlus (dTup (dCons (dOp rIdx (dVar 0) (dC (.str ("entered" : Str)))) (dCons (dCall sp_law_place (dCons (dVar 0) (dCons (dOp rIdx (dVar 1) (dC (.int 1))) dNil))) (dCons (dCall sp_law_place (dCons (dVar 0) (dCons (dOp rIdx (dVar 1) (dC (.int 2))) dNil))) dNil)))) (dCut false (dVar 1) (dSome (dC (.int 3))) dNo)) (.one 4))
 (dSto (dVar 0) (dC (.str ("rows" : Str))) (dOp rPlus (dOp rIdx (dVar 0) (dC (.str ("rows" : Str)))) (dLst (dCons (dVar 4) dNil))))))
 (dIfS (dTest (dOp (rEq2 false) (dVar 2) (dC (.str ("strike" : Str))))) (dSto (dVar 0) (dC (.str ("rows" : Str))) (dComp false (iSeq (dOp rIdx (dVar 0) (dC (.str ("rows" : Str))))) (.one 4) (dTest (dOp (rEq2 true) (dOp rIdx (dVar 4) (dC (.int 0))) (dOp rIdx (dVar 1) (dC (.int 1))))) (dVar 4) [4]))
 (dIfS (dTest (dOp (rEq2 false) (dVar 2) (dC (.str ("mend" : Str))))) (dSeq (dAsg (dLstC dNil) (.one 5))
 (dSeq (dFor (iSeq (dOp rIdx (dVar 0) (dC (.str ("rows" : Str))))) (.one 4)
 (dExp (dMth rAppD (dVar 5) (dCons (dOp rIdx (dLst (dCons (dVar 4) (dCons (dOp rPlus (dCut false (dVar 4) dNo (dSome (dC (.int 3)))) (dTup (dCons (dOp rIdx (dVar 1) (dC (.int 2))) (dCons (dOp rIdx (dVar 4) (dC (.int 4))) dNil)))) dNil))) (dCall rIntC (dCons (dOp (rEq2 false) (dOp rIdx (dVar 4) (dC (.int 0))) (dOp rIdx (dVar 1) (dC (.int 1)))) dNil))) dNil))))
 (dSto (dVar 0) (dC (.str ("rows" : Str))) (dVar 5))))
 (dSto (dVar 0) (dC (.str ("many" : Str))) (dOp rIdx (dVar 1) (dC (.int 1)))))))))
 (dRet (dVar 0))))))

theorem rd_law_done (ds : List D) (e : Eta) (Q : D → Eta → Prop) (h : sp_law_done ds e Q) : t_law_done (endsD Q) (startD nm_law_done ds) e := by
  obtain ⟨x, S, L, d, rfl, ⟨h, m⟩, g, hn, ok, hl, k⟩ := h
  have l12 := g.plLen
  have l40 := g.rwLen
  have s6 : 6 < sizeLine := by rw [sizeLine_eq]; omega
  have s1 : 1 ≤ sizeLine := by rw [sizeLine_eq]; omega
  have s2 : 2 ≤ sizeLine := by rw [sizeLine_eq]; omega
  have s3 : 3 ≤ sizeLine := by rw [sizeLine_eq]; omega
  have sL : L.length + 1 ≤ sizeLine := leL (by omega)
  have sP : S.places.length + 1 ≤ sizeLine := leL (by omega)
  have sR : S.rows.length + 1 ≤ sizeLine := leL (by omega)
  cases d with
  | mark n =>
    simp [t_law_done, encDeed, m.dic, stoD, stoC, s6, s1, s2, s3, sL]
    intro p hp
    have ph : p ≠ h := fun z => by rw [z, m.hd] at hp; cases hp
    refine use_lturns (pl := S.places) ⟨_, _, _, _, _, by rw [dicD_r, put_same]; rfl⟩ (Good_ok g) l12 ok.1 ?_
    simp [sP, s6]
    refine done_out hp (Keep.new .refl hp) ph (by rw [put_ne ph.symm]; exact m.hd) k ?_
    rw [put_same]
    simp [SM.did, encPl, encDeed]
  | hand n =>
    simp [t_law_done, encDeed, m.dic, stoD, stoC, s6, s1, s2, s3, sL]
    intro p hp
    have ph : p ≠ h := fun z => by rw [z, m.hd] at hp; cases hp
    rw [put_ne ph.symm, m.hd]
    simp [sH_len, ltL (show S.heeded.length < 8192 by have := g.hdLen; omega)]
    intro q hq
    have qp : q ≠ p := fun z => by rw [z, put_same] at hq; cases hq
    rw [put_ne qp] at hq
    rw [put_ne qp.symm, put_same]
    simp [s6]
    refine done_out hp (Keep.new (.new (.new .refl hp) hq) hp) qp.symm (by rw [put_ne qp, put_same, enc_put]; rfl) k ?_
    rw [put_same]
    simp [SM.did, encDeed]
  | run a b r hd =>
    simp [t_law_done, encDeed, m.dic, stoD, stoC, s6, s1, s2, s3, sL]
    intro p hp
    have ph : p ≠ h := fun z => by rw [z, m.hd] at hp; cases hp
    have cut : cutD [D.str "run", .str a, .str b, .int r, .str hd] (some 3) none = [.int r, .str hd] := by rfl
    obtain ⟨t1, t2⟩ : S.turns a ≠ 0 ∧ S.turns b ≠ 0 := by
      simp only [SM.no] at hn
      split at hn
      · cases hn
      · split at hn
        · cases hn
        · exact ⟨by assumption, by assumption⟩
    refine use_lplace (S := S) ⟨_, _, _, _, _, by rw [dicD_r, put_same]; rfl⟩ g t1 ?_
    refine use_lplace (S := S) ⟨_, _, _, _, _, by rw [dicD_r, put_same]; rfl⟩ g t2 ?_
    rw [cut, put_same]
    simp [s6, sR]
    refine ⟨by rw [sizeLine_eq]; omega, done_out hp (Keep.new .refl hp) ph (by rw [put_ne ph.symm]; exact m.hd) k ?_⟩
    rw [put_same]
    simp [SM.did, encDeed, encRow]
  | strike n =>
    simp [t_law_done, encDeed, m.dic, stoD, stoC, s6, s1, s2, s3, sL]
    intro p hp
    have ph : p ≠ h := fun z => by rw [z, m.hd] at hp; cases hp
    refine ⟨leL (by omega), comp_pure (p := fun r : Row => decide (r.num ≠ n)) (h := encRow) trivial S.rows [] (fun r hr => ?_) ?_⟩
    · simp [row0]
    · rw [put_same]
      simp [s6]
      refine done_out hp (Keep.new .refl hp) ph (by rw [put_ne ph.symm]; exact m.hd) k ?_
      rw [put_same]
      simp [SM.did, encDeed]
  | mend n r =>
    simp [t_law_done, encDeed, m.dic, stoD, stoC, s6, s1, s2, s3, sL]
    intro p hp
    have ph : p ≠ h := fun z => by rw [z, m.hd] at hp; cases hp
    intro q hq
    have qp : q ≠ p := fun z => by rw [z, put_same] at hq; cases hq
    rw [put_ne qp] at hq
    rw [put_ne qp.symm, put_same]
    simp
    generalize hX : O.dic (modK (.lst (S.places.map encPl)) (.ref h) (.lst (S.rows.map encRow)) (.int S.entered) (.int S.many) (.lst (L.map encDeed ++ [.tup [.str "mend", .int n, .int r]]))) = X
    refine for_inv (fun i dl e' => e' = (e.put p X).put q (.lst (((S.rows.take i).map (mendR n r)).map encRow)) ∧ ∃ s4, dl = [some (.ref p), some (.tup [.str "mend", .int n, .int r]), some (.str "mend"), none, s4, some (.ref q)]) (fun _ _ _ _ => trivial) ⟨rfl, _, rfl⟩ ?_ ?_
    · rintro i y dl e' N hy ⟨rfl, s4, rfl⟩ hN
      rw [List.getElem?_map] at hy
      obtain ⟨w, hw, rfl⟩ := Option.map_eq_some_iff.mp hy
      have cut : cutD [D.int w.num, .int w.one, .int w.other, .int w.rise, .str w.hand] none (some 3) = [.int w.num, .int w.one, .int w.other] := by rfl
      have li : min i S.rows.length < 8192 := by omega
      have enc : ∀ r : Row, encRow r = .tup [.int r.num, .int r.one, .int r.other, .int r.rise, .str r.hand] := fun _ => rfl
      simp [row0, row4]
      rw [enc w, rCut_t, cut]
      simp [s2]
      refine ⟨by rw [sizeLine_eq]; omega, ?_⟩
      have fin : (List.take i (List.map (encRow ∘ mendR n r) S.rows) ++ [encRow (mendR n r w)]) = ((S.rows.take (i + 1)).map (mendR n r)).map encRow := by
        rw [List.take_add_one, hw]; simp
      have go : ∀ (y : D), y = encRow (mendR n r w) → N [some (D.ref p), some (D.tup [D.str "mend", D.int n, D.int r]), some (D.str "mend"), none, some (D.tup [D.int w.num, D.int w.one, D.int w.other, D.int w.rise, D.str w.hand]), some (D.ref q)] ((e.put p X).put q (O.lst (List.take i (List.map (encRow ∘ mendR n r) S.rows) ++ [y]))) := fun y hy => by
        rw [hy, fin]
        exact hN _ _ ⟨rfl, _, rfl⟩
      by_cases hwn : w.num = n
      · simp [hwn, ltL li]
        rw [hwn] at go
        exact go _ (by unfold mendR; rw [if_pos hwn]; rw [enc, hwn])
      · simp [hwn, ltL li]
        exact go _ (by unfold mendR; rw [if_neg hwn, enc])
    · rintro dl e' ⟨rfl, s4, rfl⟩
      rw [List.length_map, List.take_length]
      subst hX
      simp [put_ne qp.symm, s6]
      refine done_out2 (S := S.did (.mend n r)) hp hq (Keep.new (.new (.new .refl hp) hq) hp) ph (fun z => by rw [z, m.hd] at hq; cases hq) (by rw [put_ne ph.symm, put_ne (fun z => by rw [← z, m.hd] at hq; cases hq), put_ne ph.symm]; exact m.hd) k ?_ ?_
      · rw [put_same]
        simp [SM.did, encDeed]
      · rw [put_ne qp, put_same]
        simp [SM.did]
  | settle n =>
    simp [t_law_done, encDeed, m.dic, stoD, stoC, s6, s1, s2, s3, sL]
    intro p hp
    have ph : p ≠ h := fun z => by rw [z, m.hd] at hp; cases hp
    refine use_lturns (pl := S.places) ⟨_, _, _, _, _, by rw [dicD_r, put_same]; rfl⟩ (Good_ok g) l12 ok.1 ?_
    simp [sP, s6]
    refine done_out hp (Keep.new .refl hp) ph (by rw [put_ne ph.symm]; exact m.hd) k ?_
    rw [put_same]
    simp [SM.did, encPl, encDeed]
  | aside n =>
    simp [t_law_done, encDeed, m.dic, stoD, stoC, s6, s1, s2, s3, sL]
    intro p hp
    have ph : p ≠ h := fun z => by rw [z, m.hd] at hp; cases hp
    rw [put_ne ph.symm, m.hd]
    simp [sH_len, ltL (show S.heeded.length < 8192 by have := g.hdLen; omega)]
    intro q hq
    have qp : q ≠ p := fun z => by rw [z, put_same] at hq; cases hq
    rw [put_ne qp] at hq
    rw [put_ne qp.symm, put_same]
    simp [s6]
    refine done_out hp (Keep.new (.new (.new .refl hp) hq) hp) qp.symm (by rw [put_ne qp, put_same, enc_put]; rfl) k ?_
    rw [put_same]
    simp [SM.did, encDeed]
  | heed n =>
    simp [t_law_done, encDeed, m.dic, stoD, stoC, s6, s1, s2, s3, sL]
    intro p hp
    have ph : p ≠ h := fun z => by rw [z, m.hd] at hp; cases hp
    rw [put_ne ph.symm, m.hd]
    simp [sH_len, ltL (show S.heeded.length < 8192 by have := g.hdLen; omega)]
    intro q hq
    have qp : q ≠ p := fun z => by rw [z, put_same] at hq; cases hq
    rw [put_ne qp] at hq
    rw [put_ne qp.symm, put_same]
    simp [s6]
    refine done_out hp (Keep.new (.new (.new .refl hp) hq) hp) qp.symm (by rw [put_ne qp, put_same, enc_put]; rfl) k ?_
    rw [put_same]
    simp [SM.did, encDeed]
  | allow n =>
    simp [t_law_done, encDeed, m.dic, stoD, stoC, s6, s1, s2, s3, sL]
    intro p hp
    have ph : p ≠ h := fun z => by rw [z, m.hd] at hp; cases hp
    refine done_out hp (Keep.new .refl hp) ph (by rw [put_ne ph.symm]; exact m.hd) k ?_
    rw [put_same]
    simp [SM.did, encDeed]
theorem use_ldone {x : D} {S : SM} {L : List Deed} {d : Deed} {e : Eta} {Q : D → Eta → Prop} (m : ModAt e x S L) (g : S.Good) (hn : S.no d = none) (ok : d.Ok) (hl : L.length < 4000) (k : ∀ x' e', ModAt e' x' (S.did d) (L ++ [d]) → Keep [] e e' → Q x' e') : sp_law_done [x, encDeed d] e Q := ⟨x, S, L, d, rfl, m, g, hn, ok, hl, k⟩
theorem len_law_done (ds : List D) (e : Eta) (Q : D → Eta → Prop) (h : sp_law_done ds e Q) : ds.length = 2 := by obtain ⟨_, _, _, _, rfl, _⟩ := h; rfl
end FL

set_option Elab.async false
set_option linter.all false
set_option maxRecDepth 100000
set_option maxHeartbeats 4000000
/-! Drawn names. -/
namespace FL
open PySem PySem.Spec PyProof.Rows L2
def letter (i : Int) : Nat := letters.cps.toList.getD i.toNat 0
def wordOf (l : List Int) : Str := ⟨(l.map letter).toArray⟩
def In26 (l : List Int) : Prop := ∀ x ∈ l, 0 ≤ x ∧ x < 26
theorem letters_len : letters.cps.toList.length = 26 := by decide +kernel
theorem letters_nd : ∀ i < 26, ∀ j < 26, letters.cps.toList.getD i 0 = letters.cps.toList.getD j 0 → i = j := by decide +kernel
theorem letter_mem {i : Int} (h : 0 ≤ i ∧ i < 26) : letter i ∈ letters.cps.toList := by
  unfold letter
  rw [List.getD_eq_getElem?_getD, List.getElem?_eq_getElem (by rw [letters_len]; omega)]
  exact List.getElem_mem ..
theorem letter_inj {i j : Int} (h : 0 ≤ i ∧ i < 26) (g : 0 ≤ j ∧ j < 26) (e : letter i = letter j) : i = j := by
  have := letters_nd i.toNat (by omega) j.toNat (by omega) e
  omega
theorem word_len (l : List Int) : (wordOf l).length = l.length := by
  show (l.map letter).toArray.size = _
  simp
theorem word_name {l : List Int} (h : In26 l) (h0 : 1 ≤ l.length) (h1 : l.length ≤ 8) : isName (wordOf l) = true := by
  unfold isName
  rw [word_len, decide_eq_true h0, decide_eq_true h1, Bool.true_and, Bool.true_and]
  show ((l.map letter).toArray.toList.all _) = true
  rw [List.all_eq_true]
  intro c hc
  obtain ⟨x, hx, rfl⟩ := List.mem_map.mp (by simpa using hc)
  exact decide_eq_true (letter_mem (h x hx))
theorem word_inj {l m : List Int} {k : Nat} {x y : Int} (hx : l[k]? = some x) (hy : m[k]? = some y) (ix : 0 ≤ x ∧ x < 26) (iy : 0 ≤ y ∧ y < 26) (e : wordOf l = wordOf m) : x = y := by
  have e : (l.map letter).toArray = (m.map letter).toArray := congrArg Str.cps e
  have e : l.map letter = m.map letter := by simpa using e
  have := congrArg (fun l : List Nat => l[k]?) e
  simp [hx, hy] at this
  exact letter_inj ix iy this
theorem join_signs : ∀ l : List Nat, PySem.Str.join (PySem.Str.ofString "") (l.map fun c => (⟨#[c]⟩ : Str)) = ⟨l.toArray⟩
  | [] => rfl
  | [c] => rfl
  | c :: d :: l => by
    have ih := join_signs (d :: l)
    simp only [List.map_cons] at ih ⊢
    rw [PySem.Str.join, ih]
    · have z : (PySem.Str.ofString "") = ⟨#[]⟩ := by decide +kernel
      rw [z]
      show (⟨(#[c] ++ #[]) ++ (d :: l).toArray⟩ : Str) = _
      simp
    · intro z; cases z
theorem txt_join (l : List Nat) : Txt.join "" (l.map fun c => (⟨#[c]⟩ : Str)) = ⟨l.toArray⟩ := by
  show Builtin.Str.glued (PySem.Str.ofString "") _ = _
  rw [StrLaws.glued_eq_join]
  exact join_signs l
theorem idx_letter {e : Eta} {i : Int} (h : 0 ≤ i ∧ i < 26) : idxD e (.str letters) (.int i) = some (.str ⟨#[letter i]⟩) := by
  have : letters.length ≤ sizeLine := by
    have : letters.length = 26 := by decide +kernel
    rw [this, sizeLine_eq]; omega
  show (if letters.length ≤ sizeLine then (atI letters.cps.toList i).map fun c => D.str ⟨#[c]⟩ else none) = _
  rw [if_pos this, atI_eq h.1]
  unfold letter
  rw [List.getD_eq_getElem?_getD, List.getElem?_eq_getElem (by rw [letters_len]; omega)]; rfl
/-- names: distinct, of their form -/
structure Names (l : List Str) (many : Nat) : Prop where
  len : l.length = many
  nd : l.Nodup
  nm : ∀ n ∈ l, isName n = true
/-- .. as they are made: the first k -/
structure NamesTo (l : List Str) (k pl : Nat) (f : Int) : Prop where
  len : l.length = k
  at_ : ∀ (j : Nat) (w : Str), l[j]? = some w → ∃ m : List Int, w = wordOf m ∧ In26 m ∧ m[pl]? = some ((f + 11 * (j : Int)) % 26) ∧ m.length ≤ 8
theorem NamesTo.names {l : List Str} {k pl : Nat} {f : Int} (h : NamesTo l k pl f) (hk : k ≤ 26) : Names l k := by
  refine ⟨h.len, ?_, fun n hn => ?_⟩
  · rw [List.nodup_iff_pairwise_ne, List.pairwise_iff_getElem]
    intro i j hi hj hij e
    obtain ⟨m, w1, i1, k1, l1⟩ := h.at_ i _ (List.getElem?_eq_getElem hi)
    obtain ⟨m2, w2, i2, k2, l2⟩ := h.at_ j _ (List.getElem?_eq_getElem hj)
    rw [w1, w2] at e
    have hl := h.len
    have := word_inj k1 k2 (by omega) (by omega) e
    omega
  · obtain ⟨j, hj, rfl⟩ := List.mem_iff_getElem.mp hn
    obtain ⟨m, w1, i1, k1, l1⟩ := h.at_ j _ (List.getElem?_eq_getElem hj)
    rw [w1]
    refine word_name i1 ?_ l1
    have := (List.getElem?_eq_some_iff.mp k1).1
    omega
def sp_law_names : SpD := fun ds e Q => ∃ (b : Addr) (o : O) (k : Nat), ds = [.ref b, .int k] ∧ e b = some o ∧ BoxO o ∧ k ≤ 26 ∧ ∀ l e' o', Names l k → e' b = some o' → BoxO o' → Keep [b] e e' → Q (.lst (l.map D.str)) e'
abbrev nm_law_names : List Str := ["_law_box_here", "_law_many", "_law_letters", "_law_size", "_law_place_here", "_law_like", "_law_first", "_law_rows", "_law_k", "_law_row", "_law_step_here", "_law_one"]
def t_law_names : TSD :=
 (dSeq (dAsg (dC (.str ("abcdefghijklmnopqrstuvwxyz" : Str))) (.one 2))
 (dSeq (dAsg (dOp rPlus (dC (.int 1)) (dCall sp_law_take (dCons (dVar 0) (dCons (dC (.int 8)) dNil)))) (.one 3))
 (dSeq (dAsg (dCall sp_law_take (dCons (dVar 0) (dCons (dVar 3) dNil))) (.one 4))
 (dSeq (dAsg (dOp (rEq2 false) (dCall sp_law_take (dCons (dVar 0) (dCons (dC (.int 2)) dNil))) (dC (.int 0))) (.one 5))
 (dSeq (dAsg (dComp false (iRng1 (dVar 3)) (.one 8) dYes (dCall sp_law_take (dCons (dVar 0) (dCons (dC (.int 26)) dNil))) [8]) (.one 6))
 (dSeq (dAsg (dLstC dNil) (.one 7))
 (dSeq (dFor (iRng1 (dVar 1)) (.one 8)
 (dSeq (dAsg (dCall (rList true) (dCons (dVar 6) dNil)) (.one 9))
 (dSeq (dIfS (dNot (dTru (dVar 5))) (dAsg (dComp true (iRng1 (dOp rPlus (dOp rPlus (dVar 4) (dC (.int 1))) (dCall sp_law_take (dCons (dVar 0) (dCons (dOp rSubD (dVar 3) (dVar 4)) dNil))))) (.one 10) dYes (dCall sp_law_take (dCons (dVar 0) (dCons (dC (.int 26)) dNil))) [10]) (.one 9))
 dNx)
 (dSeq (dSto (dVar 9) (dVar 4) (dOp rModD (dOp rPlus (dOp rIdx (dVar 6) (dVar 4)) (dOp (rMul false) (dC (.int 11)) (dVar 8))) (dC (.int 26))))
 (dExp (dMth rAppD (dVar 7) (dCons (dJoin (dC (.str ("" : Str))) (dComp false (iSeq (dVar 9)) (.one 11) dYes (dOp rIdx (dVar 2) (dVar 11)) [11])) dNil)))))))
 (dRet (dVar 7)))))))))

theorem sum1 : ∀ l : List Int, (l.map ((fun x : Str => x.length) ∘ fun x => (⟨#[letter x]⟩ : Str))).sum = l.length
  | [] => rfl
  | x :: l => by rw [List.map_cons, List.sum_cons, sum1 l]; show 1 + l.length = _; rw [List.length_cons]; omega
theorem join_word (l : List Int) : Txt.join "" (l.map fun x => (⟨#[letter x]⟩ : Str)) = wordOf l := by
  have := txt_join (l.map letter)
  rw [List.map_map] at this
  exact this
theorem draw26 {b : Addr} {g : Nat} {vs : List Nat} {n : Nat} {dl : Sd} {e : Eta} {o : O} {Q : List D → Eta → Prop} (hd : ∀ x : D, ((wipeD dl vs).set g (some x))[0]? = some (some (.ref b))) (hb : e b = some o) (ho : BoxO o) (k : ∀ (l : List Int) o', l.length = n → In26 l → BoxO o' → Q (l.map D.int) (e.put b o')) :
    compD (fun _ => True) (.one g) dYes (dCall sp_law_take (dCons (dVar 0) (dCons (dC (.int 26)) dNil))) vs (rngD 0 n) [] dl e Q := by
  refine comp_inv (fun i acc e' => ∃ (l : List Int) (o' : O), acc = l.map D.int ∧ l.length = i ∧ In26 l ∧ BoxO o' ∧ e' = e.put b o') (fun _ _ _ _ => trivial) ⟨[], o, rfl, rfl, (fun x h => by cases h), ho, put_self hb⟩ ?_ ?_
  · rintro i x acc e' N hx ⟨l, o1, rfl, hl, h26, ho1, rfl⟩ hN _
    have h0 := hd x
    simp [gtD, dVar, h0]
    refine use_take put_same ho1 (by decide) (by decide) fun u o2 ho2 u0 u1 => ?_
    rw [put_put]
    have := hN (.int u) (e.put b o2) ⟨l ++ [u], o2, by simp, by simp [hl], fun y hy => ?_, ho2, rfl⟩
    · exact this
    · rcases List.mem_append.mp hy with z | z
      · exact h26 y z
      · rw [List.mem_singleton.mp z]; exact ⟨u0, u1⟩
  · rintro acc e' ⟨l, o1, rfl, hl, h26, ho1, rfl⟩
    exact k l o1 (by rw [hl, rngD_length]) h26 ho1
theorem rd_law_names (ds : List D) (e : Eta) (Q : D → Eta → Prop) (h : sp_law_names ds e Q) : t_law_names (endsD Q) (startD nm_law_names ds) e := by
  obtain ⟨b, o, many, rfl, hb, ho, hk, k⟩ := h
  simp [t_law_names]
  refine use_take hb ho (by decide) (by decide) fun sz o1 ho1 s0 s1 => ?_
  simp
  refine use_take put_same ho1 (by omega) (by omega) fun pl o2 ho2 p0 p1 => ?_
  simp
  refine use_take put_same ho2 (by decide) (by decide) fun lk o3 ho3 k0 k1 => ?_
  simp
  refine ⟨by omega, leL (by rw [rngD_length]; omega), draw26 (b := b) (fun _ => rfl) put_same ho3 fun first o4 hl h26 ho4 => ?_⟩
  simp
  intro r hr
  refine ⟨by omega, ?_⟩
  have rb : r ≠ b := fun z => by rw [z, put_same] at hr; cases hr
  rw [put_ne rb] at hr
  obtain ⟨f, hf⟩ : ∃ f, first[pl.toNat]? = some f := ⟨_, List.getElem?_eq_getElem (by omega)⟩
  have hfa : atI (first.map D.int) pl = some (.int f) := by rw [atI_eq p0, List.getElem?_map, hf]; rfl
  refine for_inv (fun i dl e' => ∃ rows o' s8 s9 s10 s11, dl = [some (D.ref b), some (D.int (many : Int)), some (D.str "abcdefghijklmnopqrstuvwxyz"), some (D.int (1 + sz)), some (D.int pl), some (D.bl (decide (lk = 0))), some (D.lst (first.map D.int)), some (D.ref r), s8, s9, s10, s11] ∧ e' b = some o' ∧ BoxO o' ∧ e' r = some (.lst (rows.map D.str)) ∧ NamesTo rows i pl.toNat f ∧ Keep [b] e e') (fun _ _ _ _ => trivial) ⟨[], o4, _, _, _, _, rfl, by rw [put_ne rb.symm, put_same], ho4, put_same, ⟨rfl, fun j w h => by cases h⟩, (Keep.put .refl (by simp)).new hr⟩ ?_ ?_
  · rintro i y dl e' N hy ⟨rows, o5, s8, s9, s10, s11, rfl, hb5, ho5, hr5, nt, K⟩ hN
    obtain ⟨rfl, hi⟩ := rng_at hy
    simp [gtD]
    by_cases hlk : lk = 0
    case' pos =>
      simp [hlk]
      intro q hq
      have pm : pl.toNat < first.length := by omega
      have m8 : first.length ≤ 8 := by omega
      obtain ⟨m, hm⟩ : ∃ m : List Int, m = first := ⟨_, rfl⟩
      rw [show e'.put q (.lst (first.map D.int)) = e'.put q (.lst (m.map D.int)) from by rw [hm]]
      rw [← hm] at pm m8
      have i26 : In26 m := hm ▸ h26
      have K2 := K
      have hb7 := hb5
      have ho7 := ho5
      have hr7 := hr5
      generalize e' = e2 at hb7 hr7 K2 hq ⊢
    case' neg =>
      simp [hlk]
      intro p hp
      have pb : p ≠ b := fun z => by rw [z, hb5] at hp; cases hp
      have pr : p ≠ r := fun z => by rw [z, hr5] at hp; cases hp
      refine use_take (by rw [put_ne pb.symm]; exact hb5) ho5 (by omega) (by omega) fun u o6 ho6 u0 u1 => ?_
      simp
      refine ⟨by omega, leL (by rw [rngD_length]; omega), draw26 (b := b) (fun _ => rfl) put_same ho6 fun m o7 hml i26 ho7 => ?_⟩
      simp
      intro q hq
      have pm : pl.toNat < m.length := by omega
      have m8 : m.length ≤ 8 := by omega
      have K2 : Keep [b] e ((e'.put p (.lst (first.map D.int))).put b o7) := (K.trans (.new .refl hp)).put (by simp)
      have hb7 : ((e'.put p (.lst (first.map D.int))).put b o7) b = some o7 := put_same
      have hr7 : ((e'.put p (.lst (first.map D.int))).put b o7) r = some (.lst (rows.map D.str)) := by rw [put_ne rb, put_ne pr.symm]; exact hr5
      generalize ((e'.put p (.lst (first.map D.int))).put b o7) = e2 at hb7 hr7 K2 hq ⊢
    all_goals
      have qb : q ≠ b := fun z => by rw [z, hb7] at hq; cases hq
      have qr : q ≠ r := fun z => by rw [z, hr7] at hq; cases hq
      have ix : ixN m.length pl = some pl.toNat := ixN_of p0 (by omega)
      rw [hfa]
      simp
      refine ⟨mul64 (by decide) (by decide) (by omega) (by omega), ?_⟩
      rw [ix]
      simp
      rw [put_ne qr.symm, hr7]
      simp
      generalize hm2 : m.set pl.toNat ((f + 11 * (i : Int)) % 26) = m2
      have e2m : (m.map D.int).set pl.toNat (D.int ((f + 11 * (i : Int)) % 26)) = m2.map D.int := by rw [← hm2, List.map_set]
      rw [e2m]
      have m2l : m2.length = m.length := by rw [← hm2, List.length_set]
      have i26b : In26 m2 := fun x hx => by
        rw [← hm2] at hx
        rcases List.mem_or_eq_of_mem_set hx with z | z
        · exact i26 x z
        · rw [z]; omega
      have m2p : m2[pl.toNat]? = some ((f + 11 * (i : Int)) % 26) := by rw [← hm2, List.getElem?_set_self pm]
      refine ⟨leL (by omega), comp_pure (p := fun _ => true) (h := fun x => .str ⟨#[letter x]⟩) (by simp [stayD]) m2 [] (fun x hx => ?_) ?_⟩
      · simp
        rw [← idxD_s (e := e)]
        have := idx_letter (e := e) (i26b x hx)
        exact fun K h => by erw [this]; exact h
      · simp [filT]
        rw [sum1, join_word, put_ne qr.symm, hr7]
        have l0 : (PySem.Str.ofString "").length = 0 := by decide +kernel
        have hrl := nt.len
        rw [l0]
        simp
        refine ⟨by omega, ltL (by omega), ?_⟩
        refine hN _ _ ⟨rows ++ [wordOf m2], _, some (.int (i : Int)), some (.ref q), s10, s11, by simp [hlk], ?_, ‹_›, by rw [put_same]; simp, ⟨by simp [hrl], fun j w hj => ?_⟩, ?_⟩
        · rw [put_ne rb.symm, put_ne qb.symm]; exact hb7
        · by_cases hji : j < rows.length
          · rw [List.getElem?_append_left hji] at hj
            exact nt.at_ j w hj
          · rw [List.getElem?_append_right (by omega)] at hj
            have h1 := (List.getElem?_eq_some_iff.mp hj).1
            simp at h1
            have : j = i := by omega
            subst this
            rw [hrl, Nat.sub_self] at hj
            have hj : some (wordOf m2) = some w := hj
            cases hj
            exact ⟨m2, rfl, i26b, m2p, by omega⟩
        · exact (K2.trans (.new .refl hq)).new hr
  · rintro dl e' ⟨rows, o5, s8, s9, s10, s11, rfl, hb5, ho5, hr5, nt, K⟩
    rw [rngD_length] at nt
    refine out_hide (l := [r]) (.cell hr5 (hide_in (by simp)) (.refl _)) (k rows _ o5 (nt.names hk) ?_ ho5 (K.hide (by simpa using hr)))
    rw [hide_out (by simpa using rb.symm)]; exact hb5
theorem len_law_names (ds : List D) (e : Eta) (Q : D → Eta → Prop) (h : sp_law_names ds e Q) : ds.length = 2 := by obtain ⟨_, _, _, rfl, _⟩ := h; rfl
end FL

set_option Elab.async false
set_option linter.all false
/-! Where none is refused. -/
namespace FL
open PySem PySem.Spec PyProof.Rows L2
def sp_look_at_name : SpD := fun ds e Q => spx_look_at_name ds e Q noP
def sp_Stand_place_of : SpD := fun ds e Q => spx_Stand_place_of ds e Q noP
def sp_Stand_check_hand : SpD := fun ds e Q => spx_Stand_check_hand ds e Q noP
def sp_Stand_put_mark : SpD := fun ds e Q => spx_Stand_put_mark ds e Q noP
def sp_Stand_put_hand : SpD := fun ds e Q => spx_Stand_put_hand ds e Q noP
def sp_Stand_put_run : SpD := fun ds e Q => spx_Stand_put_run ds e Q noP
def sp_Stand_row_at : SpD := fun ds e Q => spx_Stand_row_at ds e Q noP
def sp_Stand_end_run : SpD := fun ds e Q => spx_Stand_end_run ds e Q noP
def sp_Stand_mend_run : SpD := fun ds e Q => spx_Stand_mend_run ds e Q noP
def sp_Stand_settle : SpD := fun ds e Q => spx_Stand_settle ds e Q noP
def sp_Stand_put_aside : SpD := fun ds e Q => spx_Stand_put_aside ds e Q noP
def sp_Stand_heed : SpD := fun ds e Q => spx_Stand_heed ds e Q noP
def sp_Stand_allow : SpD := fun ds e Q => spx_Stand_allow ds e Q noP
def sp_done_by : SpD := fun ds e Q => spx_done_by ds e Q noP
def sp_Fen_deed : SpD := fun ds e Q => spx_Fen_deed ds e Q noP
def sp_Fen_mark : SpD := fun ds e Q => spx_Fen_mark ds e Q noP
def sp_Fen_hand : SpD := fun ds e Q => spx_Fen_hand ds e Q noP
def sp_Fen_run : SpD := fun ds e Q => spx_Fen_run ds e Q noP
def sp_Fen_strike : SpD := fun ds e Q => spx_Fen_strike ds e Q noP
def sp_Fen_mend : SpD := fun ds e Q => spx_Fen_mend ds e Q noP
def sp_Fen_settle : SpD := fun ds e Q => spx_Fen_settle ds e Q noP
def sp_Fen_aside : SpD := fun ds e Q => spx_Fen_aside ds e Q noP
def sp_Fen_heed : SpD := fun ds e Q => spx_Fen_heed ds e Q noP
def sp_Fen_allow : SpD := fun ds e Q => spx_Fen_allow ds e Q noP
def sp_Fen_back : SpD := fun ds e Q => spx_Fen_back ds e Q noP
end FL

set_option Elab.async false
set_option linter.all false
set_option maxRecDepth 100000
set_option maxHeartbeats 4000000
/-! A fen and the laws' own model, step by step. -/
namespace FL
open PySem PySem.Spec PyProof.Rows L2
theorem nmy {T : Sd → Eta → Prop} {ds : List D} {e : Eta} {nm nm' : List Str} (h : nm.length = nm'.length) (q : T (startD nm ds) e) : T (startD nm' ds) e := by
  unfold startD at q ⊢; rwa [← h]
def sp_fsame : SpD := sp_sameD 3
theorem len_fsame (ds : List D) (e : Eta) (Q : D → Eta → Prop) (h : sp_fsame ds e Q) : ds.length = 2 := len_sameD 3 ds e Q h
theorem use_fsame {d : D} {e : Eta} {Q : D → Eta → Prop} (hs : shD 3 d = true) (k : Q (.bl true) e) : sp_fsame [d, d] e Q := use_sameD (RdD.self e 3 d hs) (RdD.self e 3 d hs) hs k
/-- what is seen of a fen -/
def seenL (S : SM) (L : List Deed) : List D := [.lst (S.marks.map D.str), .lst (S.hands.map D.str), .lst (S.asides.map D.str), .lst (S.places.map encPl), .int S.many, .lst (S.rows.map (encRun S)), .lst (S.counted.map fun r => D.int r.num), .lst (L.map encDeed)]
def sp_law_seen : SpD := fun ds e Q => ∃ p a b c F, ds = [.ref p] ∧ FenC e p a b c F ∧ F.Good ∧ Q (.lst (seenL F.now F.done)) e
abbrev nm_law_seen : List Str := ["_law_fen", "_law_found"]
def t_law_seen : TSD :=
 (dSeq (dAsg (dLst (dCons (dMeth "Fen" "marks" sp_Fen_marks (dVar 0) dNil) (dCons (dMeth "Fen" "hands" sp_Fen_hands (dVar 0) dNil) (dCons (dMeth "Fen" "asides" sp_Fen_asides (dVar 0) dNil) (dCons (dMeth "Fen" "stands" sp_Fen_stands (dVar 0) dNil) (dCons (dMeth "Fen" "allowed" sp_Fen_allowed (dVar 0) dNil) (dCons (dMeth "Fen" "runs" sp_Fen_runs (dVar 0) dNil) (dCons (dMeth "Fen" "counting" sp_Fen_counting (dVar 0) dNil) dNil)))))))) (.one 1))
 (dRet (dOp rPlus (dVar 1) (dLst (dCons (dMeth "Fen" "deeds" sp_Fen_deeds (dVar 0) dNil) dNil)))))

theorem rd_law_seen (ds : List D) (e : Eta) (Q : D → Eta → Prop) (h : sp_law_seen ds e Q) : t_law_seen (endsD Q) (startD nm_law_seen ds) e := by
  obtain ⟨p, a, b, c, F, rfl, h, g, k⟩ := h
  simp [t_law_seen, h.i]
  refine ⟨p, a, b, c, F, rfl, h, g, ?_⟩
  simp [h.i]
  refine ⟨p, a, b, c, F, rfl, h, g, ?_⟩
  simp [h.i]
  refine ⟨p, a, b, c, F, rfl, h, g, ?_⟩
  simp [h.i]
  refine ⟨p, a, b, c, F, rfl, h, g, ?_⟩
  simp [h.i]
  refine ⟨p, a, b, c, F, rfl, h, g, ?_⟩
  simp [h.i]
  refine ⟨p, a, b, c, F, rfl, h, g, ?_⟩
  simp [h.i]
  refine ⟨p, a, b, c, F, rfl, h, g, ?_⟩
  simp [h.i]
  refine ⟨by rw [sizeLine_eq]; omega, p, a, b, c, F, rfl, h, g, ?_⟩
  exact ⟨by rw [sizeLine_eq]; omega, by rw [sizeLine_eq]; omega, outD.self k⟩
theorem len_law_seen (ds : List D) (e : Eta) (Q : D → Eta → Prop) (h : sp_law_seen ds e Q) : ds.length = 1 := by obtain ⟨_, _, _, _, _, rfl, _⟩ := h; rfl
def sp_law_due : SpD := fun ds e Q => ∃ x S L, ds = [x] ∧ ModAt e x S L ∧ S.Good ∧ Q (.lst (seenL S L)) e
abbrev nm_law_due : List Str := ["_law_model_here", "_law_places", "_law_rows", "_law_asides", "_law_found", "_law_row", "_law_hand"]
def t_law_due : TSD :=
 (dSeq (dAsg (dOp rIdx (dVar 0) (dC (.str ("places" : Str)))) (.one 1))
 (dSeq (dAsg (dComp false (iSeq (dOp rIdx (dVar 0) (dC (.str ("rows" : Str))))) (.one 5) dYes (dOp rPlus (dOp rPlus (dOp rPlus (dTup (dCons (dOp rIdx (dVar 5) (dC (.int 0))) dNil)) (dOp rIdx (dVar 1) (dOp rIdx (dVar 5) (dC (.int 1))))) (dOp rIdx (dVar 1) (dOp rIdx (dVar 5) (dC (.int 2))))) (dCut false (dVar 5) (dSome (dC (.int 3))) dNo)) [5]) (.one 2))
 (dSeq (dLockS (dAsg (dComp false (iKeysL (dOp rIdx (dVar 0) (dC (.str ("heeded" : Str))))) (.one 6) (dNot (dTru (dOp rIdx (dOp rIdx (dVar 0) (dC (.str ("heeded" : Str)))) (dVar 6)))) (dVar 6) [6]) (.one 3)))
 (dSeq (dAsg (dLst (dCons (dCall sp_law_marks (dCons (dVar 0) dNil)) (dCons (dCall (rList false) (dCons (dOp rIdx (dVar 0) (dC (.str ("heeded" : Str)))) dNil)) (dCons (dVar 3) (dCons (dVar 1) (dCons (dOp rIdx (dVar 0) (dC (.str ("many" : Str)))) (dCons (dVar 2) dNil))))))) (.one 4))
 (dRet (dOp rPlus (dVar 4) (dLst (dCons (dComp false (iSeq (dCall sp_law_counted (dCons (dVar 0) dNil))) (.one 5) dYes (dOp rIdx (dVar 5) (dC (.int 0))) [5]) (dCons (dOp rIdx (dVar 0) (dC (.str ("deeds" : Str)))) dNil)))))))))

theorem rd_law_due (ds : List D) (e : Eta) (Q : D → Eta → Prop) (h : sp_law_due ds e Q) : t_law_due (endsD Q) (startD nm_law_due ds) e := by
  obtain ⟨x, S, L, rfl, ⟨hd, m⟩, g, k⟩ := h
  have l40 := g.rwLen
  have l10 := g.hdLen
  simp [t_law_due, idx_dic m.dic]
  refine ⟨leL (by omega), comp_pure (p := fun _ => true) (h := encRun S) trivial S.rows [] (fun r hr => ?_) ?_⟩
  · obtain ⟨⟨h1, h2⟩, ⟨h3, h4⟩, h5⟩ := g.rwAt r hr
    have cut : cutD [D.int r.num, .int r.one, .int r.other, .int r.rise, .str r.hand] (some 3) none = [.int r.rise, .str r.hand] := by rfl
    simp [row0, row1, row2, at_pl h1 h2, at_pl h3 h4]
    intro K q
    unfold encPl encRow
    simp only [rPlus_tt, rCut_t, cut]
    simp
    exact ⟨by rw [sizeLine_eq]; omega, by rw [sizeLine_eq]; omega, by rw [sizeLine_eq]; omega, by rw [sizeLine_eq]; omega, q⟩
  · simp [filT]
    refine ⟨hd, encH S.heeded, m.hd, fun od vs => ?_⟩
    rw [idx_dic (by rw [m.is]; rfl)]
    simp
    refine ⟨od, vs, _, ⟨rfl, rfl, rfl⟩, by rw [sH_len]; exact leL (by omega), ?_⟩
    rw [keys_encH]
    refine comp_pure (p := fun n => !hdOf S.heeded n) (h := D.str) (C := fun e' => e' hd = some (O.lck od vs (encH S.heeded))) put_same (S.heeded.map (·.1)) [] (fun n hn => ?_) ?_
    · rw [m.is]
      simp [put_same, enc_at hn]
    · refine ⟨put_same, ?_⟩
      rw [put_put, ← put_self m.hd]
      refine use_lmarks m.pl g ?_
      simp [idx_dic m.dic, m.hd, keys_encH]
      refine ⟨by rw [sizeLine_eq]; omega, use_lcounted m.at g ?_⟩
      have lc : S.counted.length ≤ 40 := Nat.le_trans (List.length_filter_le ..) l40
      simp
      refine ⟨leL (by omega), comp_pure (p := fun _ => true) (h := fun r : Row => .int r.num) trivial S.counted [] (fun r hr => ?_) ?_⟩
      · simp [row0]
      · simp [filT, idx_dic m.dic]
        refine ⟨by rw [sizeLine_eq]; omega, by rw [sizeLine_eq]; omega, outD.self ?_⟩
        unfold seenL SM.asides SM.hands at k
        rw [List.map_map] at k
        exact k
theorem len_law_due (ds : List D) (e : Eta) (Q : D → Eta → Prop) (h : sp_law_due ds e Q) : ds.length = 1 := by obtain ⟨_, _, _, rfl, _⟩ := h; rfl
theorem sh_seen {S : SM} {L : List Deed} (g : S.Good) (ok : ∀ d ∈ L, d.Ok) (hl : L.length ≤ 4096) : shD 3 (.lst (seenL S L)) = true := by
  have l12 := g.plLen
  have l10 := g.hdLen
  have l40 := g.rwLen
  have lm : S.marks.length ≤ 12 := by unfold SM.marks; rw [List.length_map]; exact Nat.le_trans (List.length_filter_le ..) l12
  have lh : S.hands.length ≤ 10 := by unfold SM.hands; rw [List.length_map]; exact l10
  have la : S.asides.length ≤ 10 := Nat.le_trans (List.length_filter_le ..) lh
  have lc : S.counted.length ≤ 40 := Nat.le_trans (List.length_filter_le ..) l40
  have om : ∀ x ∈ S.marks, PyData.strOk x = true := fun x hx => by
    unfold SM.marks at hx
    obtain ⟨p, hp, rfl⟩ := List.mem_map.mp hx
    exact Good_ok g p (List.mem_filter.mp hp).1
  have oh := Good_hd g
  have oa : ∀ x ∈ S.asides, PyData.strOk x = true := fun x hx => oh x (List.mem_filter.mp hx).1
  have op := Good_ok g
  have os : ∀ (r : Row) (i : Int), (0 ≤ i ∧ i < S.places.length) → PyData.strOk (S.stand i).1 = true := fun r i h => by
    unfold SM.stand
    rw [List.getElem?_eq_getElem (by omega)]
    exact op _ (List.getElem_mem ..)
  have strz : ∀ l : List Str, (∀ x ∈ l, PyData.strOk x = true) → l.length ≤ 4096 → shD 2 (.lst (l.map D.str)) = true := fun l h1 h2 => by
    rw [shD_lst, List.length_map, decide_eq_true h2, Bool.true_and, List.all_map, List.all_eq_true]
    intro x hx
    simp [h1 x hx]
  have runs : shD 2 (.lst (S.rows.map (encRun S))) = true := by
    rw [shD_lst, List.length_map, decide_eq_true (by omega), Bool.true_and, List.all_map, List.all_eq_true]
    intro r hr
    have h := g.rwAt r hr
    show shD 1 (encRun S r) = true
    unfold encRun
    rw [shD_tup]
    simp [os r _ h.1, os r _ h.2.1, oh _ (g.rwHand r hr)]
  have cnt : shD 2 (.lst (S.counted.map fun r => D.int r.num)) = true := by
    rw [shD_lst, List.length_map, decide_eq_true (by omega), Bool.true_and, List.all_map, List.all_eq_true]
    intro r hr
    simp
  unfold seenL
  rw [shD_lst]
  simp only [List.all_cons, List.all_nil, strz _ om (by omega), strz _ oh (by omega), strz _ oa (by omega), sh_pls op (by omega), runs, cnt, sh_deeds ok hl, shD_int]
  simp
def sp_law_right : SpD := fun ds e Q => ∃ p a b c F x, ds = [.ref p, x] ∧ FenC e p a b c F ∧ F.Good ∧ F.done.length < 4000 ∧ ModAt e x F.now F.done ∧ Q (.bl true) e
abbrev nm_law_right : List Str := ["_law_fen", "_law_model_here"]
def t_law_right : TSD :=
 (dRet (dCall sp_fsame (dCons (dCall sp_law_seen (dCons (dVar 0) dNil)) (dCons (dCall sp_law_due (dCons (dVar 1) dNil)) dNil))))

theorem rd_law_right (ds : List D) (e : Eta) (Q : D → Eta → Prop) (h : sp_law_right ds e Q) : t_law_right (endsD Q) (startD nm_law_right ds) e := by
  obtain ⟨p, a, b, c, F, x, rfl, h, g, hl, m, k⟩ := h
  simp [t_law_right]
  refine ⟨p, a, b, c, F, rfl, h, g, x, _, _, rfl, m, g.now, ?_⟩
  exact use_fsame (sh_seen g.now g.ok (by omega)) (outD.self k)
theorem len_law_right (ds : List D) (e : Eta) (Q : D → Eta → Prop) (h : sp_law_right ds e Q) : ds.length = 2 := by obtain ⟨_, _, _, _, _, _, rfl, _⟩ := h; rfl
def sp_law_step : SpD := fun ds e Q => ∃ p a b c F x d, ds = [.ref p, x, encDeed d] ∧ FenC e p a b c F ∧ F.Good ∧ ModAt e x F.now F.done ∧ F.now.no d = none ∧ d.Ok ∧ F.done.length < 4000 ∧ ∀ x' e' c', e c' = none → FenC e' p a b c' (F.did d) → ModAt e' x' (F.did d).now (F.did d).done → Keep [p, a, b] e e' → Q x' e'
abbrev nm_law_step : List Str := ["_law_fen", "_law_model_here", "_law_deed"]
def t_law_step : TSD :=
 (dSeq (dIfS (dNot (dTru (dCall sp_fsame (dCons (dMeth "Fen" "deed" sp_Fen_deed (dVar 0) (dCons (dVar 2) dNil)) (dCons (dCall sp_law_due_told (dCons (dVar 1) (dCons (dVar 2) dNil))) dNil))))) (dRet (dC .non))
 dNx)
 (dRet (dCall sp_law_done (dCons (dVar 1) (dCons (dVar 2) dNil)))))

theorem FenC.nodic {e : Eta} {p a b c : Addr} {F : FM} (h : FenC e p a b c F) : ∀ q ∈ [p, a, b, c], dicO (e q) = none := by
  intro q hq
  simp at hq
  rcases hq with rfl | rfl | rfl | rfl
  · rw [h.ins]; rfl
  · rw [h.kp]; rfl
  · rw [h.dn]; rfl
  · rw [h.un]; rfl
theorem rd_law_step (ds : List D) (e : Eta) (Q : D → Eta → Prop) (h : sp_law_step ds e Q) : t_law_step (endsD Q) (startD nm_law_step ds) e := by
  obtain ⟨p, a, b, c, F, x, d, rfl, h, g, m, hn, ok, hl, k⟩ := h
  simp [t_law_step, h.i]
  refine ⟨p, a, b, c, F, d, rfl, h, g, ok, hl, ?_⟩
  unfold deedQ
  rw [hn]
  intro e1 c' hc' h1 K1
  have m1 : ModAt e1 x F.now F.done := m.keep K1 (fun q hq => h.nodic q (by simp at hq ⊢; rcases hq with z | z | z <;> simp [z]))
  refine use_ldue m1 ?_
  refine use_fsame (by cases d <;> simp [SM.tells, toldD]) ?_
  simp
  refine use_ldone m1 g.now hn ok hl fun x' e2 m2 K2 => ?_
  refine outD.self (k x' e2 c' hc' (K2.fen h1) ?_ (K1.trans (K2.mono (by simp))))
  rw [FM.did_now]
  exact m2
theorem len_law_step (ds : List D) (e : Eta) (Q : D → Eta → Prop) (h : sp_law_step ds e Q) : ds.length = 3 := by obtain ⟨_, _, _, _, _, _, _, rfl, _⟩ := h; rfl
end FL

set_option Elab.async false
set_option linter.all false
set_option maxRecDepth 100000
set_option maxHeartbeats 4000000
/-! A fen begun with drawn deeds. -/
namespace FL
open PySem PySem.Spec PyProof.Rows L2
theorem BoxO.nodic {o : O} (h : BoxO o) : dicO (some o) = none := by
  obtain ⟨a, b, c, d, rfl, _⟩ := h
  rfl
theorem ModAt.box {e : Eta} {x : D} {S : SM} {L : List Deed} {b : Addr} {o o' : O} (m : ModAt e x S L) (hb : e b = some o) (ho : BoxO o) : ModAt (e.put b o') x S L := m.keep (l := [b]) (Keep.put .refl (by simp)) (fun q hq => by rw [List.mem_singleton.mp hq, hb]; exact ho.nodic)
theorem SM.marks_turn {S : SM} {n : Str} (h : n ∈ S.marks) : S.turns n ≠ 0 := by
  unfold SM.marks at h
  obtain ⟨p, hp, rfl⟩ := List.mem_map.mp h
  exact turnsL_mem (List.mem_filter.mp hp).1
theorem SM.Good.marks_nd {S : SM} (g : S.Good) : S.marks.Nodup := by
  unfold SM.marks
  rw [List.nodup_iff_pairwise_ne, List.pairwise_map]
  have := g.places_nodup
  rw [List.nodup_iff_pairwise_ne] at this
  refine ((this.sublist List.filter_sublist).imp_of_mem ?_)
  intro a b ha hb ne e
  have h1 := (List.mem_filter.mp ha).2
  have h2 := (List.mem_filter.mp hb).2
  simp at h1 h2
  exact ne (Prod.ext e (by rw [h1, h2]))
theorem truth_small {p : Int} (h0 : 0 ≤ p) (h1 : p < 12) : -12 < truthI p ∧ truthI p < 17 := by
  unfold truthI
  have := Int.emod_nonneg (p * p * 3) (show (17 : Int) ≠ 0 by decide)
  have := Int.emod_lt_of_pos (p * p * 3) (show (0 : Int) < 17 by decide)
  omega
theorem turn_ne {a u n : Int} (h0 : 0 ≤ a) (h1 : a < n) (h2 : 0 ≤ u) (h3 : u < n - 1) : 0 ≤ (a + 1 + u) % n ∧ (a + 1 + u) % n < n ∧ (a + 1 + u) % n ≠ a := by
  have n0 : 0 < n := by omega
  have e := Int.emod_add_mul_ediv (a + 1 + u) n
  refine ⟨Int.emod_nonneg _ (by omega), Int.emod_lt_of_pos _ n0, fun z => ?_⟩
  rw [z] at e
  generalize (a + 1 + u) / n = q at e
  by_cases hq : q ≤ 0
  · have := Int.mul_nonneg (show 0 ≤ n by omega) (show 0 ≤ -q by omega)
    rw [Int.mul_neg] at this
    omega
  · have := Int.mul_le_mul_of_nonneg_left (show 1 ≤ q by omega) (show 0 ≤ n by omega)
    omega
theorem at_str {l : List Str} {i : Int} (h0 : 0 ≤ i) (h1 : i < l.length) : ∃ n, l[i.toNat]? = some n ∧ n ∈ l ∧ atD (l.map D.str) (.int i) = some (.str n) := by
  have lt : i.toNat < l.length := by omega
  refine ⟨l[i.toNat], List.getElem?_eq_getElem lt, List.getElem_mem .., ?_⟩
  show atI (l.map D.str) i = _
  rw [atI_eq h0, List.getElem?_map, List.getElem?_eq_getElem lt]; rfl
def sp_law_run_deed : SpD := fun ds e Q => ∃ bx o x S L, ds = [.ref bx, x] ∧ e bx = some o ∧ BoxO o ∧ ModAt e x S L ∧ S.Good ∧ Q .non e ∧ ∀ o' a b r h, BoxO o' → S.no (.run a b r h) = none → (Deed.run a b r h).Ok → Q (encDeed (.run a b r h)) (e.put bx o')
abbrev nm_law_run_deed : List Str := ["_law_box_here", "_law_model_here", "_law_marks_here", "_law_hands", "_law_at", "_law_one", "_law_other", "_law_rise"]
def t_law_run_deed : TSD :=
 (dSeq (dAsg (dCall sp_law_marks (dCons (dVar 1) dNil)) (.one 2))
 (dSeq (dAsg (dCall (rList false) (dCons (dOp rIdx (dVar 1) (dC (.str ("heeded" : Str)))) dNil)) (.one 3))
 (dSeq (dIfS (dOr (dTest (dOp rLtD (dCall rLen' (dCons (dVar 2) dNil)) (dC (.int 2)))) (dOr (dTest (dOp (rEq2 false) (dVar 3) (dLst dNil))) (dTest (dOp rGeD (dCall rLen' (dCons (dOp rIdx (dVar 1) (dC (.str ("rows" : Str)))) dNil)) (dC (.int 40)))))) (dRet (dC .non))
 dNx)
 (dSeq (dAsg (dCall sp_law_take (dCons (dVar 0) (dCons (dCall rLen' (dCons (dVar 2) dNil)) dNil))) (.one 4))
 (dSeq (dPar 5 6 (dOp rIdx (dVar 2) (dVar 4)) (dOp rIdx (dVar 2) (dOp rModD (dOp rPlus (dOp rPlus (dVar 4) (dC (.int 1))) (dCall sp_law_take (dCons (dVar 0) (dCons (dOp rSubD (dCall rLen' (dCons (dVar 2) dNil)) (dC (.int 1))) dNil)))) (dCall rLen' (dCons (dVar 2) dNil)))))
 (dSeq (dAsg (dOp rSubD (dCall sp_law_truth (dCons (dCall sp_law_place (dCons (dVar 1) (dCons (dVar 6) dNil))) dNil)) (dCall sp_law_truth (dCons (dCall sp_law_place (dCons (dVar 1) (dCons (dVar 5) dNil))) dNil))) (.one 7))
 (dSeq (dIfS (dTest (dOp (rEq2 false) (dCall sp_law_take (dCons (dVar 0) (dCons (dC (.int 4)) dNil))) (dC (.int 0)))) (dAsg (dOp rIdx (dLst (dCons (dOp rPlus (dVar 7) (dC (.int 1))) (dCons (dOp rSubD (dVar 7) (dC (.int 2))) (dCons (dCall sp_law_take (dCons (dVar 0) (dCons (dC (.int 1000000000)) dNil))) (dCons (dNeg (dC (.int 1000000000))) dNil))))) (dCall sp_law_take (dCons (dVar 0) (dCons (dC (.int 4)) dNil)))) (.one 7))
 dNx)
 (dRet (dTup (dCons (dC (.str ("run" : Str))) (dCons (dVar 5) (dCons (dVar 6) (dCons (dVar 7) (dCons (dOp rIdx (dVar 3) (dCall sp_law_take (dCons (dVar 0) (dCons (dCall rLen' (dCons (dVar 3) dNil)) dNil)))) dNil))))))))))))))

theorem rd_law_run_deed (ds : List D) (e : Eta) (Q : D → Eta → Prop) (h : sp_law_run_deed ds e Q) : t_law_run_deed (endsD Q) (startD nm_law_run_deed ds) e := by
  obtain ⟨bx, o, x, S, L, rfl, hb, ho, m, g, k0, k⟩ := h
  obtain ⟨hd, mv⟩ := id m
  have l12 := g.plLen
  have l40 := g.rwLen
  have l10 := g.hdLen
  have oh := okD_sh (n := 2) (d := .lst (S.hands.map D.str)) (by
    rw [shD_lst, List.length_map, decide_eq_true (by unfold SM.hands; rw [List.length_map]; omega), Bool.true_and, List.all_map, List.all_eq_true]
    intro x hx
    simp [Good_hd g x hx])
  have hh : (encH S.heeded).map (fun kv => keyT kv.1) = S.hands.map D.str := keys_encH S.heeded
  simp [t_law_run_deed]
  refine use_lmarks mv.pl g ?_
  simp [idx_dic mv.dic, mv.hd, hh, oh, eq_nilD]
  by_cases c1 : (S.marks.length : Int) < 2
  · simp [c1]; exact outD.self k0
  by_cases c2 : S.hands = []
  · simp [c1, c2]; exact outD.self k0
  by_cases c3 : (40 : Int) ≤ S.rows.length
  · simp [c1, c2, c3]; exact outD.self k0
  simp only [if_neg c1, if_neg c2, if_neg c3]
  have lm : S.marks.length ≤ 12 := by unfold SM.marks; rw [List.length_map]; exact Nat.le_trans (List.length_filter_le ..) l12
  have lh : S.hands.length ≤ 10 := by unfold SM.hands; rw [List.length_map]; exact l10
  have lh0 : S.hands.length ≠ 0 := by simpa using c2
  refine use_take hb ho (by omega) (by omega) fun i o1 ho1 i0 i1 => ?_
  obtain ⟨one, hi, im, ia⟩ := at_str i0 i1
  simp [ia]
  refine use_take put_same ho1 (by omega) (by omega) fun u o2 ho2 u0 u1 => ?_
  obtain ⟨j0, j1, jn⟩ := turn_ne i0 i1 u0 u1
  obtain ⟨other, hj, jm, ja⟩ := at_str j0 j1
  have nl : (S.marks.length : Int) ≠ 0 := by omega
  have ne : one ≠ other := fun z => by
    rw [z] at hi
    have li := (List.getElem?_eq_some_iff.mp hi).1
    have := (List.getElem?_inj li g.marks_nd).mp (hi.trans hj.symm)
    omega
  simp [nl, ja]
  have t1 := SM.marks_turn im
  have t2 := SM.marks_turn jm
  have m2 : ModAt (e.put bx o2) x S L := m.box hb ho
  obtain ⟨hd2, mv2⟩ := id m2
  refine ⟨by omega, use_lplace mv2.pl g t2 ?_⟩
  have p1 := g.place_lt t1
  have p2 := g.place_lt t2
  refine use_ltruth p2.1 (by omega) ?_
  refine use_lplace mv2.pl g t1 ?_
  refine use_ltruth p1.1 (by omega) ?_
  have q1 := truth_small p1.1 (by omega)
  have q2 := truth_small p2.1 (by omega)
  simp
  have fin : ∀ (r : Int) (o3 : O), okRise r = true → BoxO o3 → sp_law_take [.ref bx, .int S.hands.length] (e.put bx o3) fun y e2 => onSome (atD (S.hands.map D.str) y) fun d4 => 5 ≤ sizeLine ∧ outD Q (.tup [.str "run", .str one, .str other, .int r, d4]) e2 := by
    intro r o3 hr ho3
    refine use_take put_same ho3 (by omega) (by omega) fun v o4 ho4 v0 v1 => ?_
    obtain ⟨hnd, hv, vm, va⟩ := at_str v0 v1
    simp [va]
    refine ⟨by rw [sizeLine_eq]; omega, outD.self (k o4 one other r hnd ho4 ?_ ?_)⟩
    · have : ¬ S.rows.length ≥ 40 := by omega
      simp only [SM.no, if_neg t1, if_neg t2, if_neg ne, if_neg (not_not_intro vm), hr, if_neg this]
      simp
    · exact ⟨Good_ok g _ (g.at t1), Good_ok g _ (g.at t2), Good_hd g _ vm⟩
  refine use_take put_same ho2 (by decide) (by decide) fun w o3 ho3 w0 w1 => ?_
  simp
  by_cases hw : w = 0
  · simp [hw]
    refine use_take put_same ho3 (by decide) (by decide) fun z o4 ho4 z0 z1 => ?_
    refine ⟨by rw [sizeLine_eq]; omega, use_take put_same ho4 (by decide) (by decide) fun y o5 ho5 y0 y1 => ?_⟩
    rw [put_put, put_put]
    obtain rfl | rfl | rfl | rfl : y = 0 ∨ y = 1 ∨ y = 2 ∨ y = 3 := by omega
    · simp
      exact fin _ _ (by unfold okRise; simp; omega) ho5
    · simp
      exact fin _ _ (by unfold okRise; simp; omega) ho5
    · simp
      exact fin _ _ (by unfold okRise; simp; omega) ho5
    · simp
      exact fin _ _ (by unfold okRise; simp) ho5
  · simp [hw]
    exact fin _ _ (by unfold okRise; simp; omega) ho3
theorem len_law_run_deed (ds : List D) (e : Eta) (Q : D → Eta → Prop) (h : sp_law_run_deed ds e Q) : ds.length = 2 := by obtain ⟨_, _, _, _, _, rfl, _⟩ := h; rfl
end FL

set_option Elab.async false
set_option linter.all false
set_option maxRecDepth 100000
set_option maxHeartbeats 4000000
/-! A fen begun. -/
namespace FL
open PySem PySem.Spec PyProof.Rows L2
structure FW (e : Eta) (bx p a b c : Addr) (F : FM) (x : D) (n : Nat) : Prop where
  fen : FenC e p a b c F
  good : F.Good
  box : ∃ o, e bx = some o ∧ BoxO o
  na : bx ≠ a
  nb : bx ≠ b
  nc : bx ≠ c
  mod : ModAt e x F.now F.done
  len : F.done.length ≤ n
section
variable {e e' : Eta} {bx p a b c : Addr} {F : FM} {x : D} {n : Nat}
theorem BoxO.noins {o : O} (h : BoxO o) : insO "Fen" (some o) = none := by
  obtain ⟨a, b, c, d, rfl, _⟩ := h
  rfl
theorem FW.np (w : FW e bx p a b c F x n) : bx ≠ p := fun z => by
  obtain ⟨o, h1, h2⟩ := w.box
  have := w.fen.i
  rw [← z, h1, h2.noins] at this
  cases this
/-- a cell of its own stays -/
theorem FenC.put {e : Eta} {q p a b c : Addr} {F : FM} {o : O} (h : FenC e p a b c F) (h0 : q ≠ p) (h1 : q ≠ a) (h2 : q ≠ b) (h3 : q ≠ c) : FenC (e.put q o) p a b c F :=
  ⟨by rw [put_ne h0.symm]; exact h.ins, by rw [put_ne h1.symm]; exact h.kp, by rw [put_ne h2.symm]; exact h.dn, by rw [put_ne h3.symm]; exact h.un, h.ab, h.ac, h.bc⟩
theorem FW.take (w : FW e bx p a b c F x n) {o : O} (ho : BoxO o) : FW (e.put bx o) bx p a b c F x n := by
  obtain ⟨o0, h1, h2⟩ := w.box
  exact ⟨w.fen.put w.np w.na w.nb w.nc, w.good, ⟨o, put_same, ho⟩, w.na, w.nb, w.nc, w.mod.box h1 h2, w.len⟩
theorem FW.keep (w : FW e bx p a b c F x n) (k : Keep [] e e') : FW e' bx p a b c F x n := by
  obtain ⟨o0, h1, h2⟩ := w.box
  exact ⟨k.fen w.fen, w.good, ⟨o0, k _ _ (by simp) h1, h2⟩, w.na, w.nb, w.nc, k.mod w.mod, w.len⟩
theorem FW.more (w : FW e bx p a b c F x n) {m : Nat} (h : n ≤ m) : FW e bx p a b c F x m := ⟨w.fen, w.good, w.box, w.na, w.nb, w.nc, w.mod, Nat.le_trans w.len h⟩
theorem FW.use_take (w : FW e bx p a b c F x n) {many : Int} {Q : D → Eta → Prop} (h0 : 0 < many) (h1 : many < 2 ^ 64) (k : ∀ i e', 0 ≤ i → i < many → FW e' bx p a b c F x n → Keep [bx] e e' → Q (.int i) e') : sp_law_take [.ref bx, .int many] e Q := by
  obtain ⟨o0, hb, ho⟩ := w.box
  exact FL.use_take hb ho h0 h1 fun i o' ho' i0 i1 => k i _ i0 i1 (w.take ho') (Keep.put .refl (by simp))
theorem FW.step (w : FW e bx p a b c F x n) {d : Deed} (hn : F.now.no d = none) (ok : d.Ok) (hl : n < 4000) {Q : D → Eta → Prop} (k : ∀ x' e' c', FW e' bx p a b c' (F.did d) x' (n + 1) → Keep [p, a, b] e e' → Q x' e') : sp_law_step [.ref p, x, encDeed d] e Q := by
  refine ⟨p, a, b, c, F, x, d, rfl, w.fen, w.good, w.mod, hn, ok, Nat.lt_of_le_of_lt w.len hl, fun x' e' c' hc h1 m K => ?_⟩
  obtain ⟨o0, hb, ho⟩ := w.box
  refine k x' e' c' ⟨h1, w.good.did hn ok, ⟨o0, K _ _ (by simp [w.np, w.na, w.nb]) hb, ho⟩, w.na, w.nb, (fun z => by rw [z, hc] at hb; cases hb), m, ?_⟩ K
  show (F.done ++ [d]).length ≤ n + 1
  have := w.len
  simp; omega
theorem FW.run_deed (w : FW e bx p a b c F x n) {Q : D → Eta → Prop} (k0 : Q .non e) (k : ∀ e' s t r h, FW e' bx p a b c F x n → Keep [bx] e e' → F.now.no (.run s t r h) = none → (Deed.run s t r h).Ok → Q (encDeed (.run s t r h)) e') : sp_law_run_deed [.ref bx, x] e Q := by
  obtain ⟨o0, hb, ho⟩ := w.box
  exact ⟨bx, o0, x, F.now, F.done, rfl, hb, ho, w.mod, w.good.now, k0, fun o' s t r h ho' hn ok => k _ s t r h (w.take ho') (Keep.put .refl (by simp)) hn ok⟩
end
/-- deeds that none is refused of, one behind another -/
def Legal : SM → List Deed → Prop
  | _, [] => True
  | S, d :: l => S.no d = none ∧ d.Ok ∧ Legal (S.did d) l
theorem legal_marks : ∀ (l : List Str) (S : SM) (rest : List Deed), (∀ n ∈ l, isName n = true) → l.Nodup → (∀ n ∈ l, S.turns n = 0) → S.places.length + l.length ≤ 12 → (∀ S' : SM, S'.heeded = S.heeded → Legal S' rest) → Legal S (l.map .mark ++ rest)
  | [], S, rest, _, _, _, _, h => h S rfl
  | n :: l, S, rest, h1, h2, h3, h4, h5 => by
    rw [List.nodup_cons] at h2
    have t := h3 n (by simp)
    have nm := h1 n (by simp)
    simp only [List.length_cons] at h4
    have nl := isName.len nm
    refine ⟨?_, ⟨isName.ok nm, by omega⟩, legal_marks l _ rest (fun m hm => h1 m (by simp [hm])) h2.2 (fun m hm => ?_) ?_ (fun S' hS => h5 S' hS)⟩
    · have : ¬ S.places.length ≥ 12 := by omega
      simp only [SM.no, nm, t, if_neg this]
      simp
    · show turnsL (S.places ++ [(n, _)]) m = 0
      rw [turnsL_append, turnsL_cons, if_neg (fun z => h2.1 (by rw [show n = m from z]; exact hm))]
      have := h3 m (by simp [hm])
      unfold SM.turns at this
      rw [this]; rfl
    · show (S.places ++ [_]).length + l.length ≤ 12
      simp; omega
theorem legal_hands : ∀ (l : List Str) (S : SM) (rest : List Deed), (∀ n ∈ l, isName n = true) → l.Nodup → (∀ n ∈ l, n ∉ S.hands) → S.heeded.length + l.length ≤ 10 → (∀ S' : SM, Legal S' rest) → Legal S (l.map .hand ++ rest)
  | [], S, rest, _, _, _, _, h => h S
  | n :: l, S, rest, h1, h2, h3, h4, h5 => by
    rw [List.nodup_cons] at h2
    have t := h3 n (by simp)
    have nm := h1 n (by simp)
    simp only [List.length_cons] at h4
    have nl := isName.len nm
    have e : setH S.heeded n true = S.heeded ++ [(n, true)] := setH_new t
    refine ⟨?_, ⟨isName.ok nm, by omega⟩, legal_hands l _ rest (fun m hm => h1 m (by simp [hm])) h2.2 (fun m hm z => ?_) ?_ h5⟩
    · have : ¬ S.heeded.length ≥ 10 := by omega
      simp only [SM.no, nm, if_neg t, if_neg this]
      simp
    · have z : m ∈ (setH S.heeded n true).map (·.1) := z
      rw [e, List.map_append, List.mem_append] at z
      rcases z with z | z
      · exact h3 m (by simp [hm]) z
      · simp at z; rw [z] at hm; exact h2.1 hm
    · show (setH S.heeded n true).length + l.length ≤ 10
      rw [e]; simp; omega
theorem legal_allow (S : SM) {v : Int} (h0 : 0 ≤ v) (h1 : v ≤ 3) : Legal S [.allow v] := ⟨by simp [SM.no, h0, h1], trivial, trivial⟩
def pick (l : List Str) (k : Nat) : Str := l.getD k ""
theorem pick_at {l : List Str} {k : Nat} (h : k < l.length) : l[k]? = some (pick l k) := by unfold pick; rw [List.getD_eq_getElem?_getD, List.getElem?_eq_getElem h]; rfl
theorem pick_inj {l : List Str} {j k : Nat} (nd : l.Nodup) (hj : j < l.length) (hk : k < l.length) (e : pick l j = pick l k) : j = k := (List.getElem?_inj hj nd).mp (by rw [pick_at hj, pick_at hk, e])
def begunL (pool : List Str) (m h : Nat) (v : Int) : List Deed := ((List.range m).map fun k => pick pool k).map .mark ++ (((List.range h).map fun k => pick pool (15 - k)).map .hand ++ [.allow v])
theorem begun_legal {pool : List Str} (ns : Names pool 16) {m h : Nat} {v : Int} (hm : m ≤ 12) (hh : h ≤ 10) (v0 : 0 ≤ v) (v1 : v ≤ 3) : Legal SM.new (begunL pool m h v) := by
  have hl := ns.len
  have mem : ∀ k, k < 16 → isName (pick pool k) = true := fun k hk => ns.nm _ (List.mem_of_getElem? (pick_at (by omega)))
  refine legal_marks _ _ _ (fun n hn => ?_) ?_ (fun n _ => rfl) (by simp [SM.new]; exact hm) fun S hS => legal_hands _ _ _ (fun n hn => ?_) ?_ (fun n _ => ?_) ?_ fun S' => legal_allow S' v0 v1
  · obtain ⟨k, hk, rfl⟩ := List.mem_map.mp hn
    exact mem k (by have := List.mem_range.mp hk; omega)
  · rw [List.nodup_iff_pairwise_ne, List.pairwise_map]
    refine (List.pairwise_lt_range).imp_of_mem fun ha hb lt z => ?_
    have ha := List.mem_range.mp ha
    have hb := List.mem_range.mp hb
    have := pick_inj ns.nd (by omega) (by omega) z
    omega
  · obtain ⟨k, hk, rfl⟩ := List.mem_map.mp hn
    exact mem _ (by omega)
  · rw [List.nodup_iff_pairwise_ne, List.pairwise_map]
    refine (List.pairwise_lt_range).imp_of_mem fun ha hb lt z => ?_
    have ha := List.mem_range.mp ha
    have hb := List.mem_range.mp hb
    have := pick_inj ns.nd (by omega) (by omega) z
    omega
  · unfold SM.hands; rw [hS]; simp [SM.new]
  · rw [hS]; simp [SM.new]; exact hh
theorem did_places (S : SM) (d : Deed) : S.places.length ≤ (S.did d).places.length := by cases d <;> simp [SM.did]
theorem pick_str {l : List Str} {i : Int} (h0 : 0 ≤ i) (h1 : i < l.length) : atI (l.map D.str) i = some (.str (pick l i.toNat)) := by
  rw [atI_eq h0, List.getElem?_map, pick_at (by omega)]; rfl
theorem rng_map {α : Type} (n : Nat) (f : Nat → α) (g : Int → α) (h : ∀ k : Nat, k < n → g k = f k) : (((List.range n).map fun k : Nat => (k : Int)).filter fun _ => true).map g = (List.range n).map f := by
  rw [filT, List.map_map]
  exact List.map_congr_left fun k hk => h k (List.mem_range.mp hk)
theorem Keep.cut {l m : List Addr} {e e1 : Eta} (h : Keep m e e1) (hl : ∀ q ∈ m, q ∈ l ∨ e q = none) : Keep l e e1 := fun q o hq hu => h q o (fun z => by
  rcases hl q z with y | y
  · exact hq y
  · rw [y] at hu; cases hu) hu
theorem Keep.back {l : List Addr} {e e1 : Eta} (h : Keep l e e1) {q : Addr} (hq : e1 q = none) (hl : q ∉ l) : e q = none := by
  cases z : e q with
  | none => rfl
  | some o => rw [h q o hl z] at hq; cases hq
theorem FW.tree {e : Eta} {bx p a b c : Addr} {F : FM} {x : D} {n : Nat} (w : FW e bx p a b c F x n) : ∃ kvs, x = .dic kvs := by
  obtain ⟨h, m⟩ := w.mod
  exact m.tree
def sp_law_begun : SpD := fun ds e Q => ∃ (bx : Addr) (o : O) (mm mh mr : Int), ds = [.ref bx, .int mm, .int mh, .int mr] ∧ e bx = some o ∧ BoxO o ∧ 1 ≤ mm ∧ mm ≤ 12 ∧ 1 ≤ mh ∧ mh ≤ 10 ∧ 0 ≤ mr ∧ mr ≤ 100 ∧ ∀ p a b c F x pool e', FW e' bx p a b c F x 200 → Names pool 16 → F.now.places ≠ [] → Keep [bx] e e' → Q (.tup [.ref p, x, .lst (pool.map D.str)]) e'
abbrev nm_law_begun : List Str := ["_law_box_here", "_law_most_marks", "_law_most_hands", "_law_most_runs", "_law_pool", "_law_fen", "_law_model_here", "_law_deeds", "_law_deed", "_law_k"]
def t_law_begun : TSD :=
 (dSeq (dAsg (dCall sp_law_names (dCons (dVar 0) (dCons (dC (.int 16)) dNil))) (.one 4))
 (dSeq (dAsg (dMake "Fen" sp_Fen___init__ dNil) (.one 5))
 (dSeq (dAsg (dCall sp_law_model dNil) (.one 6))
 (dSeq (dAsg (dComp true (iRng1 (dOp rPlus (dC (.int 1)) (dCall sp_law_take (dCons (dVar 0) (dCons (dVar 1) dNil))))) (.one 9) dYes (dTup (dCons (dC (.str ("mark" : Str))) (dCons (dOp rIdx (dVar 4) (dVar 9)) dNil))) [9]) (.one 7))
 (dSeq (dAsg (dOp rPlusC (dVar 7) (dComp false (iRng1 (dOp rPlus (dC (.int 1)) (dCall sp_law_take (dCons (dVar 0) (dCons (dVar 2) dNil))))) (.one 9) dYes (dTup (dCons (dC (.str ("hand" : Str))) (dCons (dOp rIdx (dVar 4) (dOp rSubD (dC (.int 15)) (dVar 9))) dNil))) [9])) (.one 7))
 (dSeq (dExp (dMth rAppD (dVar 7) (dCons (dTup (dCons (dC (.str ("allow" : Str))) (dCons (dCall sp_law_take (dCons (dVar 0) (dCons (dC (.int 4)) dNil))) dNil))) dNil)))
 (dSeq (dFor (iSeq (dVar 7)) (.one 8)
 (dIfS (dTest (dOp (rIsN true) (dVar 6) (dC .non))) (dAsg (dCall sp_law_step (dCons (dVar 5) (dCons (dVar 6) (dCons (dVar 8) dNil)))) (.one 6))
 dNx))
 (dSeq (dFor (iRng1 (dCall sp_law_take (dCons (dVar 0) (dCons (dOp rPlus (dVar 3) (dC (.int 1))) dNil)))) (.one 9)
 (dIfS (dTest (dOp (rIsN true) (dVar 6) (dC .non))) (dSeq (dAsg (dCall sp_law_run_deed (dCons (dVar 0) (dCons (dVar 6) dNil))) (.one 8))
 (dIfS (dTest (dOp (rIsN true) (dVar 8) (dC .non))) (dAsg (dCall sp_law_step (dCons (dVar 5) (dCons (dVar 6) (dCons (dVar 8) dNil)))) (.one 6))
 dNx))
 dNx))
 (dRet (dTup (dCons (dVar 5) (dCons (dVar 6) (dCons (dVar 4) dNil)))))))))))))

theorem rd_law_begun (ds : List D) (e : Eta) (Q : D → Eta → Prop) (h : sp_law_begun ds e Q) : t_law_begun (endsD Q) (startD nm_law_begun ds) e := by
  obtain ⟨bx, o, mm, mh, mr, rfl, hb, ho, m0, m1, h0, h1, r0, r1, k⟩ := h
  simp [t_law_begun, -forD]
  refine ⟨bx, o, 16, rfl, hb, ho, by decide, fun pool e1 o1 ns hb1 ho1 K1 => ?_⟩
  have hl := ns.len
  simp [-forD]
  intro p hp
  have bp : bx ≠ p := fun z => by rw [← z, hb1] at hp; cases hp
  refine use_fen put_same fun a b c e2 na nb nc hF K2 => ⟨rfl, ?_⟩
  refine use_lmodel fun x hd e3 hhd hM K3 => ?_
  have hb3 : e3 bx = some o1 := K3 _ _ (by simp) (K2 _ _ (by simpa using bp) (by rw [put_ne bp]; exact hb1))
  have w3 : FW e3 bx p a b c FM.new x 0 := by
    refine ⟨K3.fen hF, FM.Good.new, ⟨o1, hb3, ho1⟩, fun z => ?_, fun z => ?_, fun z => ?_, ⟨hd, hM⟩, Nat.le_refl _⟩
    · rw [← z, put_ne bp, hb1] at na; cases na
    · rw [← z, put_ne bp, hb1] at nb; cases nb
    · rw [← z, put_ne bp, hb1] at nc; cases nc
  have fr : ∀ {q : Addr}, (e1.put p (O.ins "Fen" [])) q = none → e1 q = none := fun {q} h => by
    by_cases z : q = p
    · rw [z]; exact hp
    · rw [put_ne z] at h; exact h
  have ep : e p = none := K1.back hp (by simpa using bp.symm)
  have ea : e a = none := K1.back (fr na) (by simpa using w3.na.symm)
  have eb : e b = none := K1.back (fr nb) (by simpa using w3.nb.symm)
  have K3' : Keep [bx] e e3 := ((K1.trans ((Keep.trans ((Keep.new (l := [p]) .refl hp)) K2).drop (by simpa using hp) |>.mono (by simp))).trans (K3.mono (by simp)))
  refine w3.use_take (by omega) (by omega) fun i e4 i0 i1 w4 K4 => ?_
  simp [-forD]
  refine ⟨by omega, leL (by rw [rngD_length]; omega), ?_⟩
  rw [rng_ints]
  refine comp_pure (p := fun _ => true) (h := fun k : Int => encDeed (.mark (pick pool k.toNat))) trivial _ [] (fun k hk => ?_) ?_
  · obtain ⟨j, hj, rfl⟩ := List.mem_map.mp hk
    have := List.mem_range.mp hj
    simp [pick_str (l := pool) (i := (j : Int)) (by omega) (by omega), encDeed]
    intro K q
    exact ⟨by rw [sizeLine_eq]; omega, q⟩
  rw [rng_map _ (fun k => encDeed (.mark (pick pool k))) _ (fun k _ => by simp)]
  simp [-forD]
  intro q hq
  have w5 := w4.keep (Keep.new (o := .lst ((List.range (1 + i).toNat).map fun k => encDeed (.mark (pick pool k)))) .refl hq)
  have K5 := (K3'.trans K4).trans ((Keep.new (o := .lst ((List.range (1 + i).toNat).map fun k => encDeed (.mark (pick pool k)))) .refl hq))
  have bq : bx ≠ q := fun z => by
    obtain ⟨o, h1, h2⟩ := w4.box
    rw [z, hq] at h1; cases h1
  refine w5.use_take (by omega) (by omega) fun j e6 j0 j1 w6 K6 => ?_
  have hq6 := K6 q _ (by simpa using bq.symm) put_same
  simp [-forD]
  refine ⟨by omega, leL (by rw [rngD_length]; omega), ?_⟩
  rw [rng_ints]
  refine comp_pure (p := fun _ => true) (h := fun k : Int => encDeed (.hand (pick pool (15 - k.toNat)))) trivial _ [] (fun k hk => ?_) ?_
  · obtain ⟨y, hy, rfl⟩ := List.mem_map.mp hk
    have := List.mem_range.mp hy
    simp [pick_str (l := pool) (i := 15 - (y : Int)) (by omega) (by omega), encDeed]
    intro K q
    exact ⟨by rw [sizeLine_eq]; omega, q⟩
  rw [rng_map _ (fun k => encDeed (.hand (pick pool (15 - k)))) _ (fun k _ => by simp)]
  simp [-forD, hq6]
  refine ⟨leL (by omega), fun r hr => ?_⟩
  have br : bx ≠ r := fun z => by
    obtain ⟨o, h1, h2⟩ := w6.box
    rw [z, hr] at h1; cases h1
  have w7 := w6.keep (Keep.new (o := .lst (((List.range (1 + i).toNat).map fun k => encDeed (.mark (pick pool k))) ++ ((List.range (1 + j).toNat).map fun k => encDeed (.hand (pick pool (15 - k)))))) .refl hr)
  refine w7.use_take (by decide) (by decide) fun v e8 v0 v1 w8 K8 => ?_
  have hr8 := K8 r _ (by simpa using br.symm) put_same
  have K8' := (K5.trans K6).trans ((Keep.new .refl hr).trans K8)
  refine ⟨by rw [sizeLine_eq]; omega, ?_⟩
  simp [-forD, hr8]
  refine ⟨ltL (by omega), ?_⟩
  have eL : ((List.range (1 + i).toNat).map fun k => encDeed (.mark (pick pool k))) ++ (((List.range (1 + j).toNat).map fun k => encDeed (.hand (pick pool (15 - k)))) ++ [D.tup [D.str "allow", .int v]]) = (begunL pool (1 + i).toNat (1 + j).toNat v).map encDeed := by
    unfold begunL
    simp [encDeed]
    rfl
  rw [eL]
  have leg : Legal SM.new (begunL pool (1 + i).toNat (1 + j).toNat v) := begun_legal ns (by omega) (by omega) v0 (by omega)
  have l0 : ∀ d, (begunL pool (1 + i).toNat (1 + j).toNat v)[0]? = some d → ∃ n, d = .mark n := fun d hd => by
    unfold begunL at hd
    rw [show (1 + i).toNat = i.toNat + 1 by omega, List.range_succ_eq_map] at hd
    simp at hd
    exact ⟨_, hd.symm⟩
  have lL : (begunL pool (1 + i).toNat (1 + j).toNat v).length ≤ 50 := by
    unfold begunL
    simp; omega
  have lL0 : 0 < (begunL pool (1 + i).toNat (1 + j).toNat v).length := by
    unfold begunL
    simp; omega
  generalize begunL pool (1 + i).toNat (1 + j).toNat v = Dl at leg l0 lL lL0 ⊢
  have w9 := w8
  have pr : p ≠ r := fun z => by have := w6.fen.ins; rw [z, hr] at this; cases this
  have ar : a ≠ r := fun z => by have := w6.fen.kp; rw [z, hr] at this; cases this
  have bbr : b ≠ r := fun z => by have := w6.fen.dn; rw [z, hr] at this; cases this
  have cr : c ≠ r := fun z => by have := w6.fen.un; rw [z, hr] at this; cases this
  have er : e r = none := ((K5.trans K6).back hr (by simpa using br.symm))
  have w10 : FW (e8.put r (.lst (Dl.map encDeed))) bx p a b c FM.new x 0 := by
    obtain ⟨ob, b1, b2⟩ := w8.box
    exact ⟨w8.fen.put pr.symm ar.symm bbr.symm cr.symm, w8.good, ⟨ob, by rw [put_ne br]; exact b1, b2⟩, w8.na, w8.nb, w8.nc, w8.mod.keep (l := [r]) (Keep.put .refl (by simp)) (fun q hq => by rw [List.mem_singleton.mp hq, hr8]; rfl), w8.len⟩
  have K10 : Keep [bx] e (e8.put r (.lst (Dl.map encDeed))) := K8'.new er
  refine for_inv (fun i dl e' => ∃ F x c s8, dl = [some (D.ref bx), some (D.int mm), some (D.int mh), some (D.int mr), some (D.lst (pool.map D.str)), some (D.ref p), some x, some (D.ref r), s8, none] ∧ FW e' bx p a b c F x i ∧ Legal F.now (Dl.drop i) ∧ e' r = some (.lst (Dl.map encDeed)) ∧ Keep [bx] e e' ∧ (i = 0 ∨ F.now.places ≠ [])) ?_ ⟨FM.new, x, c, none, rfl, w10, leg, put_same, K10, .inl rfl⟩ ?_ ?_
  · rintro i dl e' ⟨F, x, c, s8, rfl, w, lg, hr', K, _⟩
    exact stay_lst (show lstD e' (.ref r) = some _ by rw [lstD_r, hr']; rfl)
  · rintro i y dl e' N hy ⟨F, x, c, s8, rfl, w, lg, hr', K, hpl⟩ hN
    rw [List.getElem?_map] at hy
    obtain ⟨d, hd, rfl⟩ := Option.map_eq_some_iff.mp hy
    have hi := (List.getElem?_eq_some_iff.mp hd).1
    rw [List.drop_eq_getElem_cons hi, show Dl[i] = d from by rw [List.getElem?_eq_getElem hi] at hd; exact Option.some.inj hd] at lg
    obtain ⟨g1, g2, g3⟩ := lg
    obtain ⟨kvs, hx⟩ := w.tree
    have hr2 : r ≠ p ∧ r ≠ a ∧ r ≠ b := ⟨pr.symm, ar.symm, bbr.symm⟩
    subst hx
    simp [gtD]
    refine w.step g1 g2 (by omega) fun x' e2 c' w2 K2 => ?_
    refine hN _ _ ⟨F.did d, x', c', _, rfl, w2, ?_, ?_, ?_, ?_⟩
    · rw [FM.did_now]; exact g3
    · exact K2 r _ (by simp [hr2]) hr'
    · exact ((K.mono (m := [bx, p, a, b]) (by simp)).trans (K2.mono (by simp))).cut (by simp [ep, ea, eb])
    · right
      rw [FM.did_now]
      intro z
      have h1 := did_places F.now d
      rw [z] at h1
      rcases hpl with rfl | hpl
      · obtain ⟨n, rfl⟩ := l0 d hd
        simp [SM.did] at z
      · exact hpl (List.length_eq_zero_iff.mp (by simpa using h1))
  · rintro dl e' ⟨F, x, c, s8, rfl, w, lg, hr', K, hpl⟩
    rw [List.length_map] at w hpl
    have hpl : F.now.places ≠ [] := by
      rcases hpl with z | z
      · omega
      · exact z
    simp [-forD]
    refine w.use_take (by omega) (by omega) fun n e9 n0 n1 w9 K9 => ?_
    refine ⟨by omega, for_inv (fun i dl e' => ∃ F x c s8 s9, dl = [some (D.ref bx), some (D.int mm), some (D.int mh), some (D.int mr), some (D.lst (pool.map D.str)), some (D.ref p), some x, some (D.ref r), s8, s9] ∧ FW e' bx p a b c F x (50 + i) ∧ Keep [bx] e e' ∧ F.now.places ≠ []) (fun _ _ _ _ => trivial) ⟨F, x, c, s8, none, rfl, w9.more (by omega), K.trans K9, hpl⟩ ?_ ?_⟩
    · rintro i y dl e' N hy ⟨F, x, c, s8, s9, rfl, w, K, hpl⟩ hN
      have hi := (rng_at hy).2
      obtain ⟨kvs, hx⟩ := w.tree
      subst hx
      simp [gtD]
      refine w.run_deed ?_ fun e2 s t rr hd w2 K2 hn ok => ?_
      · simp
        exact hN _ _ ⟨F, _, c, _, _, rfl, w.more (by omega), K, hpl⟩
      · simp [encDeed]
        refine w2.step (d := .run s t rr hd) hn ok (by omega) fun x' e3 c' w3 K3 => ?_
        refine hN _ _ ⟨_, x', c', _, _, rfl, w3, ?_, ?_⟩
        · exact (((K.trans K2).mono (m := [bx, p, a, b]) (by simp)).trans (K3.mono (by simp))).cut (by simp [ep, ea, eb])
        · rw [FM.did_now]; exact hpl
    · rintro dl e' ⟨F, x, c, s8, s9, rfl, w, K, hpl⟩
      rw [rngD_length] at w
      simp
      exact ⟨by rw [sizeLine_eq]; omega, outD.self (k p a b c F x pool e' (w.more (by omega)) ns hpl K)⟩
theorem len_law_begun (ds : List D) (e : Eta) (Q : D → Eta → Prop) (h : sp_law_begun ds e Q) : ds.length = 4 := by obtain ⟨_, _, _, _, _, rfl, _⟩ := h; rfl
end FL

set_option Elab.async false
set_option linter.all false
set_option maxRecDepth 100000
set_option maxHeartbeats 4000000
/-! Law k39: numbers are given once. -/
namespace FL
open PySem PySem.Spec PyProof.Rows L2
theorem sh_row {n : Nat} {S : SM} (g : S.Good) {r : Row} (hr : r ∈ S.rows) : shD (n + 1) (encRow r) = true := by
  unfold encRow
  rw [shD_tup]
  simp [Good_hd g _ (g.rwHand r hr)]
theorem sh_rows {n : Nat} {S : SM} (g : S.Good) : shD (n + 2) (.lst (S.rows.map encRow)) = true := by
  have := g.rwLen
  rw [shD_lst, List.length_map, decide_eq_true (by omega), Bool.true_and, List.all_map, List.all_eq_true]
  exact fun r hr => sh_row g hr
def sp_law_no_run : SpD := fun ds e Q => ∃ p a b c F n w, ds = [.ref p, .int n, .int w] ∧ FenC e p a b c F ∧ F.Good ∧ F.done.length < 4000 ∧ n ∉ F.now.rows.map (·.num) ∧ ∀ e', FenC e' p a b c F → Keep [] e e' → Q (.bl true) e'
abbrev nm_law_no_run : List Str := ["_law_fen", "_law_number", "_law_way", "_law_gone"]
def t_law_no_run : TSD :=
 (dSeq (dAsg (dC (.bl false)) (.one 3))
 (dSeq (dTry noX "NoRun" (fun xc => (dIfS (dTest (dOp (rEq2 false) (dVar 2) (dC (.int 0)))) (dExp (dMethX xc "Fen" "strike" spx_Fen_strike (dVar 0) (dCons (dVar 1) dNil)))
 (dExp (dMethX xc "Fen" "mend" spx_Fen_mend (dVar 0) (dCons (dVar 1) (dCons (dC (.int 1)) dNil))))))
 (dAsg (dC (.bl true)) (.one 3)))
 (dRet (dVar 3))))

theorem rd_law_no_run (ds : List D) (e : Eta) (Q : D → Eta → Prop) (h : sp_law_no_run ds e Q) : t_law_no_run (endsD Q) (startD nm_law_no_run ds) e := by
  obtain ⟨p, a, b, c, F, n, w, rfl, h, g, hl, hn, k⟩ := h
  simp [t_law_no_run]
  by_cases hw : w = 0
  · simp [hw, h.i]
    refine ⟨p, a, b, c, F, n, rfl, h, g, trivial, hl, ?_⟩
    unfold deedQ
    simp only [SM.no, if_neg hn]
    intro e' h' K
    simp [isX]
    exact outD.self (k e' h' K)
  · simp [hw, h.i]
    refine ⟨p, a, b, c, F, n, 1, rfl, h, g, trivial, hl, ?_⟩
    unfold deedQ
    simp only [SM.no, if_neg hn]
    intro e' h' K
    simp [isX]
    exact outD.self (k e' h' K)
theorem len_law_no_run (ds : List D) (e : Eta) (Q : D → Eta → Prop) (h : sp_law_no_run ds e Q) : ds.length = 3 := by obtain ⟨_, _, _, _, _, _, _, rfl, _⟩ := h; rfl
abbrev nm_law : List Str := ["_law_script", "_law_box_here", "_law_fen", "_law_model_here", "_law_pool", "_law_k", "_law_deed", "_law_way", "_law_numbers", "_law_number", "_law_later", "_law_row"]
def k39_b : TSD :=
 (dSeq (dAsg (dComp false (iSeq (dOp rIdx (dVar 3) (dC (.str ("rows" : Str))))) (.one 11) dYes (dOp rIdx (dVar 11) (dC (.int 0))) [11]) (.one 8))
 (dSeq (dIfS (dNot (dTru (dCall sp_fsame (dCons (dComp false (iSeq (dMeth "Fen" "runs" sp_Fen_runs (dVar 2) dNil)) (.one 11) dYes (dOp rIdx (dVar 11) (dC (.int 0))) [11]) (dCons (dVar 8) dNil))))) (dRet (dC (.bl false)))
 dNx)
 (dFor (iSeq (dTup (dCons (dC (.int 0)) (dCons (dOp rPlus (dOp rIdx (dVar 3) (dC (.str ("entered" : Str)))) (dC (.int 1))) (dCons (dCall sp_law_take (dCons (dVar 1) (dCons (dC (.int 30)) dNil))) dNil))))) (.one 9)
 (dIfS (dAnd (dTest (dOp (rInA true) (dVar 9) (dVar 8))) (dNot (dTru (dCall sp_law_no_run (dCons (dVar 2) (dCons (dVar 9) (dCons (dOp rModD (dVar 7) (dC (.int 2))) dNil))))))) (dRet (dC (.bl false)))
 dNx))))
def k39_a : TSD :=
 (dSeq (dIfS (dTest (dOp (rIsN true) (dVar 6) (dC .non))) (dSeq (dAsg (dCall sp_law_step (dCons (dVar 2) (dCons (dVar 3) (dCons (dVar 6) dNil)))) (.one 10))
 (dSeq (dIfS (dTest (dOp (rIsN false) (dVar 10) (dC .non))) (dRet (dC (.bl false)))
 dNx)
 (dIfS (dTest (dOp (rEq2 false) (dCall sp_law_take (dCons (dVar 1) (dCons (dC (.int 4)) dNil))) (dC (.int 0)))) (dExp (dMeth "Fen" "back" sp_Fen_back (dVar 2) dNil))
 (dAsg (dVar 10) (.one 3)))))
 dNx)
 k39_b)
def t_law : TSD :=
 (dSeq (dAsg (dCall sp_law_box (dCons (dVar 0) dNil)) (.one 1))
 (dSeq (dAsg (dCall sp_law_begun (dCons (dVar 1) (dCons (dC (.int 4)) (dCons (dC (.int 3)) (dCons (dC (.int 8)) dNil))))) (.many [2, 3, 4]))
 (dSeq (dIfS (dTest (dOp (rIsN false) (dVar 3) (dC .non))) (dRet (dC (.bl false)))
 dNx)
 (dSeq (dFor (iRng1 (dOp rPlus (dC (.int 6)) (dCall sp_law_take (dCons (dVar 1) (dCons (dC (.int 11)) dNil))))) (.one 5)
 (dSeq (dAsg (dCall sp_law_run_deed (dCons (dVar 1) (dCons (dVar 3) dNil))) (.one 6))
 (dSeq (dAsg (dCall sp_law_take (dCons (dVar 1) (dCons (dC (.int 3)) dNil))) (.one 7))
 (dSeq (dIfS (dAnd (dTest (dOp (rEq2 false) (dVar 7) (dC (.int 0)))) (dTest (dOp (rEq2 true) (dOp rIdx (dVar 3) (dC (.str ("rows" : Str)))) (dLst dNil)))) (dAsg (dTup (dCons (dC (.str ("strike" : Str))) (dCons (dOp rIdx (dOp rIdx (dOp rIdx (dVar 3) (dC (.str ("rows" : Str)))) (dCall sp_law_take (dCons (dVar 1) (dCons (dCall rLen' (dCons (dOp rIdx (dVar 3) (dC (.str ("rows" : Str)))) dNil)) dNil)))) (dC (.int 0))) dNil))) (.one 6))
 dNx)
 k39_a))))
 (dRet (dCall sp_law_right (dCons (dVar 2) (dCons (dVar 3) dNil))))))))

theorem k39_b_ok {N : Sd → Eta → Prop} {E : EndsD} {bx p a b c : Addr} {F : FM} {x : D} {n : Nat} {e : Eta} {s0 s4 s5 s6 s8 s9 s10 s11 : Option D} {way : Int} (hE : E.nx = N) (hn : n < 4000) (w : FW e bx p a b c F x n) (k : ∀ e' s8 s9 s11, FW e' bx p a b c F x n → N [s0, some (.ref bx), some (.ref p), some x, s4, s5, s6, some (.int way), s8, s9, s10, s11] e') :
    k39_b E [s0, some (.ref bx), some (.ref p), some x, s4, s5, s6, some (.int way), s8, s9, s10, s11] e := by
  obtain ⟨hd, m⟩ := w.mod
  have l40 := w.good.now.rwLen
  simp [k39_b, idx_dic m.dic, -forD]
  refine ⟨leL (by omega), comp_pure (p := fun _ => true) (h := fun r : Row => .int r.num) trivial F.now.rows [] (fun r hr => ?_) ?_⟩
  · simp [row0]
  simp [filT, w.fen.i, -forD]
  refine ⟨p, a, b, c, F, rfl, w.fen, w.good, ?_⟩
  simp [-forD]
  refine ⟨leL (by omega), comp_pure (p := fun _ => true) (h := fun r : Row => .int r.num) trivial F.now.rows [] (fun r hr => ?_) ?_⟩
  · simp [encRun]
  simp [filT, -forD]
  refine use_fsame ?_ ?_
  · rw [shD_lst, List.length_map, decide_eq_true (by omega), Bool.true_and, List.all_map, List.all_eq_true]
    intro r hr
    simp
  simp [idx_dic m.dic, -forD]
  refine w.use_take (by decide) (by decide) fun v e2 v0 v1 w2 K2 => ?_
  refine ⟨by rw [sizeLine_eq]; omega, for_inv (fun i dl e' => ∃ s9, dl = [s0, some (.ref bx), some (.ref p), some x, s4, s5, s6, some (.int way), some (.lst (F.now.rows.map fun r => D.int r.num)), s9, s10, s11] ∧ FW e' bx p a b c F x n) (fun _ _ _ _ => trivial) ⟨_, rfl, w2⟩ ?_ ?_⟩
  · rintro i y dl e' N' hy ⟨s9, rfl, w3⟩ hN
    obtain ⟨z, rfl⟩ : ∃ z : Int, y = .int z := by
      rcases i with _ | _ | _ | i <;> simp at hy <;> exact ⟨_, hy.symm⟩
    simp [gtD]
    rw [show F.now.rows.map (fun r => D.int r.num) = (F.now.rows.map (·.num)).map D.int by rw [List.map_map]; rfl, inD_ints]
    by_cases hz : z ∈ F.now.rows.map (·.num)
    · rw [decide_eq_true hz, if_pos rfl]
      exact hN _ _ ⟨_, by rw [List.map_map]; rfl, w3⟩
    · rw [decide_eq_false hz, if_neg Bool.false_ne_true]
      refine ⟨p, a, b, c, F, z, _, rfl, w3.fen, w3.good, by have := w3.len; omega, hz, fun e4 _ K4 => ?_⟩
      simp
      exact hN _ _ ⟨_, rfl, w3.keep K4⟩
  · rintro dl e' ⟨s9, rfl, w3⟩
    rw [hE]
    exact k _ _ _ _ w3
theorem FW.run_deed' {e : Eta} {bx p a b c : Addr} {F : FM} {x : D} {n : Nat} (w : FW e bx p a b c F x n) {Q : D → Eta → Prop} (k : ∀ d6 e', FW e' bx p a b c F x n → (d6 = .non ∨ ∃ d, d6 = encDeed d ∧ F.now.no d = none ∧ d.Ok) → Q d6 e') : sp_law_run_deed [.ref bx, x] e Q :=
  w.run_deed (k _ _ w (.inl rfl)) fun e' s t r h w' _ hn ok => k _ _ w' (.inr ⟨_, rfl, hn, ok⟩)
theorem did_back {F : FM} {d : Deed} : (F.did d).back = ⟨F.kept, F.done, [(d, F.now.did d)]⟩ := by
  unfold FM.back FM.did FM.now
  simp
theorem k39_a_ok {N : Sd → Eta → Prop} {E : EndsD} {bx p a b c : Addr} {F : FM} {x d6 : D} {n : Nat} {e : Eta} {s0 s4 s5 s8 s9 s10 s11 : Option D} {way : Int} (hE : E.nx = N) (hn : n < 3000) (w : FW e bx p a b c F x n) (h6 : d6 = .non ∨ ∃ d, d6 = encDeed d ∧ F.now.no d = none ∧ d.Ok)
    (k : ∀ e' c' F' x' s8 s9 s10 s11, FW e' bx p a b c' F' x' (n + 1) → N [s0, some (.ref bx), some (.ref p), some x', s4, s5, some d6, some (.int way), s8, s9, s10, s11] e') :
    k39_a E [s0, some (.ref bx), some (.ref p), some x, s4, s5, some d6, some (.int way), s8, s9, s10, s11] e := by
  rcases h6 with rfl | ⟨d, rfl, hno, ok⟩
  · simp [k39_a]
    exact k39_b_ok hE (by omega) (w.more (by omega)) fun e' _ _ _ w' => k _ _ _ _ _ _ _ _ w'
  · have nn : noneD (encDeed d) = false := by cases d <;> rfl
    simp [k39_a, nn]
    refine w.step hno ok (by omega) fun x' e2 c' w2 K2 => ?_
    obtain ⟨kvs, hx⟩ := w2.tree
    subst hx
    simp
    refine w2.use_take (by decide) (by decide) fun v e3 v0 v1 w3 K3 => ?_
    simp
    by_cases hv : v = 0
    · simp [hv, w3.fen.i]
      refine ⟨p, a, b, c', F.did d, rfl, w3.fen, w3.good, by have := w3.len; omega, by simp [FM.did], ?_⟩
      rw [if_neg (by simp [FM.did])]
      intro e4 h4 K4
      rw [did_back] at h4
      have m4 : ModAt e4 x F.now F.done := by
        have m2 := w.mod.keep K2 (fun q hq => w.fen.nodic q (by simp at hq ⊢; rcases hq with z | z | z <;> simp [z]))
        obtain ⟨ob, b1, b2⟩ := w2.box
        have m3 := m2.keep K3 (fun q hq => by rw [List.mem_singleton.mp hq, b1]; exact b2.nodic)
        exact m3.keep K4 w3.fen.nodic
      obtain ⟨ob, b1, b2⟩ := w3.box
      have g4 : FM.Good ⟨F.kept, F.done, [(d, F.now.did d)]⟩ := by
        have := w3.good.back (by simp [FM.did])
        rw [did_back] at this
        exact this
      refine k39_b_ok (n := n + 1) hE (by omega) ⟨h4, g4, ⟨ob, K4 _ _ (by simp [w3.np, w3.na, w3.nb, w3.nc]) b1, b2⟩, w3.na, w3.nb, w3.nc, m4, Nat.le_succ_of_le w.len⟩ fun e' _ _ _ w' => k _ _ _ _ _ _ _ _ w'
    · simp [hv]
      exact k39_b_ok hE (by omega) w3 fun e' _ _ _ w' => k _ _ _ _ _ _ _ _ w'
theorem rd_law (ds : List D) (e : Eta) (Q : D → Eta → Prop) (h : spLaw ds e Q) : t_law (endsD Q) (startD nm_law ds) e := by
  obtain ⟨ns, rfl, k⟩ := h
  simp [t_law, -forD]
  refine ⟨ns, rfl, fun bx o hb ho => ?_⟩
  refine ⟨bx, o, 4, 3, 8, rfl, put_same, ho, by decide, by decide, by decide, by decide, by decide, by decide, fun p a b c F x pool e1 w nm hpl K => ?_⟩
  obtain ⟨kvs, hx⟩ := w.tree
  subst hx
  simp [gtD, -forD]
  refine w.use_take (by decide) (by decide) fun v e2 v0 v1 w2 K2 => ?_
  simp [-forD]
  refine ⟨by omega, for_inv (fun i dl e' => ∃ c F x s5 s6 s7 s8 s9 s10 s11, dl = [some (.scr ns), some (.ref bx), some (.ref p), some x, some (.lst (pool.map D.str)), s5, s6, s7, s8, s9, s10, s11] ∧ FW e' bx p a b c F x (200 + i)) (fun _ _ _ _ => trivial) ⟨c, F, _, _, _, _, _, _, _, _, rfl, w2⟩ ?_ ?_⟩
  · rintro i y dl e' N hy ⟨c, F, x, s5, s6, s7, s8, s9, s10, s11, rfl, w⟩ hN
    have hi := (rng_at hy).2
    obtain ⟨hd, m⟩ := id w.mod
    have orw := okD_sh (sh_rows (n := 0) w.good.now)
    simp [gtD]
    refine w.run_deed' fun d6 e2 w2 h6 => ?_
    refine w2.use_take (by decide) (by decide) fun way e3 y0 y1 w3 K3 => ?_
    obtain ⟨hd3, m3⟩ := id w3.mod
    have fin : ∀ (d7 : D) (e4 : Eta) (s8 s9 s10 s11 : Option D), FW e4 bx p a b c F x (200 + i) → (d7 = .non ∨ ∃ d, d7 = encDeed d ∧ F.now.no d = none ∧ d.Ok) → ∀ E : EndsD, E.nx = N → k39_a E [some (.scr ns), some (.ref bx), some (.ref p), some x, some (.lst (pool.map D.str)), some y, some d7, some (.int way), s8, s9, s10, s11] e4 := fun d7 e4 s8 s9 s10 s11 w4 h7 E hE =>
      k39_a_ok hE (by omega) w4 h7 fun e' c' F' x' s8 s9 s10 s11 w' => hN _ _ ⟨c', F', x', _, _, _, _, _, _, _, rfl, w'⟩
    simp [idx_dic m3.dic, orw, eq_nilD]
    by_cases hw : way = 0
    · simp only [if_pos hw]
      by_cases hr : F.now.rows = []
      · simp only [if_pos hr]
        exact fin _ _ _ _ _ _ w3 h6 _ rfl
      · simp only [if_neg hr]
        have l40 := w3.good.now.rwLen
        have hr0 : F.now.rows.length ≠ 0 := by simpa using hr
        refine w3.use_take (by omega) (by omega) fun v e4 v0 v1 w4 K4 => ?_
        have lt : v.toNat < F.now.rows.length := by omega
        have at_ : atD (F.now.rows.map encRow) (.int v) = some (encRow F.now.rows[v.toNat]) := by
          show atI (F.now.rows.map encRow) v = _
          rw [atI_eq v0, List.getElem?_map, List.getElem?_eq_getElem lt]; rfl
        simp [at_, row0]
        refine ⟨by rw [sizeLine_eq]; omega, fin _ _ _ _ _ _ w4 (.inr ⟨.strike (F.now.rows[v.toNat]).num, rfl, ?_, trivial⟩) _ rfl⟩
        simp only [SM.no]
        rw [if_pos (List.mem_map.mpr ⟨_, List.getElem_mem .., rfl⟩)]
    · simp only [if_neg hw]
      exact fin _ _ _ _ _ _ w3 h6 _ rfl
  · rintro dl e' ⟨c, F, x, s5, s6, s7, s8, s9, s10, s11, rfl, w⟩
    rw [rngD_length] at w
    simp
    refine ⟨p, a, b, c, F, x, rfl, w.fen, w.good, by have := w.len; omega, w.mod, outD.self (k.2 _)⟩
end FL

set_option Elab.async false
set_option linter.all false
set_option maxRecDepth 100000
set_option maxHeartbeats 4000000
namespace FL.K39
open PySem PySem.Spec PyProof.Rows L2
abbrev nm_is_name : List Str := ["word", "sign"]
abbrev nm_look_at_name : List Str := ["word"]
abbrev nm_Stand___init__ : List Str := ["self"]
abbrev nm_Stand_like : List Str := ["self", "other"]
abbrev nm_Stand_turns_of : List Str := ["self", "name", "place"]
abbrev nm_Stand_place_of : List Str := ["self", "name", "turn"]
abbrev nm_Stand_mark_names : List Str := ["self", "name", "turn"]
abbrev nm_Stand_check_hand : List Str := ["self", "name"]
abbrev nm_Stand_put_mark : List Str := ["self", "name"]
abbrev nm_Stand_put_hand : List Str := ["self", "name"]
abbrev nm_Stand_put_run : List Str := ["self", "one", "other", "rise", "hand", "here", "there"]
abbrev nm_Stand_row_at : List Str := ["self", "number", "at", "row"]
abbrev nm_Stand_end_run : List Str := ["self", "number"]
abbrev nm_Stand_mend_run : List Str := ["self", "number", "rise", "at", "row"]
abbrev nm_Stand_settle : List Str := ["self", "name"]
abbrev nm_Stand_put_aside : List Str := ["self", "hand"]
abbrev nm_Stand_heed : List Str := ["self", "hand"]
abbrev nm_Stand_allow : List Str := ["self", "many"]
abbrev nm_Stand_hand_names : List Str := ["self"]
abbrev nm_Stand_counted : List Str := ["self", "row"]
abbrev nm_done_by : List Str := ["stand", "row", "word"]
abbrev nm_Fen___init__ : List Str := ["self"]
abbrev nm_Fen_now : List Str := ["self"]
abbrev nm_Fen_deed : List Str := ["self", "row", "later", "found"]
abbrev nm_Fen_strike : List Str := ["self", "number"]
abbrev nm_Fen_mend : List Str := ["self", "number", "rise"]
abbrev nm_Fen_back : List Str := ["self"]
abbrev nm_Fen_deeds : List Str := ["self"]
abbrev nm_Fen_marks : List Str := ["self"]
abbrev nm_Fen_hands : List Str := ["self"]
abbrev nm_Fen_asides : List Str := ["self", "hand"]
abbrev nm_Fen_stands : List Str := ["self"]
abbrev nm_Fen_allowed : List Str := ["self"]
abbrev nm_Fen_runs : List Str := ["self", "places", "row"]
abbrev nm_Fen_counting : List Str := ["self", "row"]
abbrev nm_law_box : List Str := ["_law_script"]
abbrev nm_law_take : List Str := ["_law_box_here", "_law_many", "_law_cell", "_law_seed", "_law_rest"]
abbrev nm_law_same : List Str := ["_law_found", "_law_due_here", "_law_one", "_law_other"]
abbrev nm_law_names : List Str := ["_law_box_here", "_law_many", "_law_letters", "_law_size", "_law_place_here", "_law_like", "_law_first", "_law_rows", "_law_k", "_law_row", "_law_step_here", "_law_one"]
abbrev nm_law_model : List Str := []
abbrev nm_law_turns : List Str := ["_law_model_here", "_law_name", "_law_place_here"]
abbrev nm_law_place : List Str := ["_law_model_here", "_law_name"]
abbrev nm_law_marks : List Str := ["_law_model_here", "_law_name", "_law_turn"]
abbrev nm_law_counted : List Str := ["_law_model_here", "_law_row"]
abbrev nm_law_done : List Str := ["_law_model_here", "_law_deed", "_law_word", "_law_heeded", "_law_row", "_law_rows"]
abbrev nm_law_due_told : List Str := ["_law_model_here", "_law_deed"]
abbrev nm_law_step : List Str := ["_law_fen", "_law_model_here", "_law_deed"]
abbrev nm_law_seen : List Str := ["_law_fen", "_law_found"]
abbrev nm_law_due : List Str := ["_law_model_here", "_law_places", "_law_rows", "_law_asides", "_law_found", "_law_row", "_law_hand"]
abbrev nm_law_right : List Str := ["_law_fen", "_law_model_here"]
abbrev nm_law_truth : List Str := ["_law_place_here"]
abbrev nm_law_run_deed : List Str := ["_law_box_here", "_law_model_here", "_law_marks_here", "_law_hands", "_law_at", "_law_one", "_law_other", "_law_rise"]
abbrev nm_law_begun : List Str := ["_law_box_here", "_law_most_marks", "_law_most_hands", "_law_most_runs", "_law_pool", "_law_fen", "_law_model_here", "_law_deeds", "_law_deed", "_law_k"]
abbrev nm_law_no_run : List Str := ["_law_fen", "_law_number", "_law_way", "_law_gone"]
abbrev nm_law : List Str := ["_law_script", "_law_box_here", "_law_fen", "_law_model_here", "_law_pool", "_law_k", "_law_deed", "_law_way", "_law_numbers", "_law_number", "_law_later", "_law_row"]
def top (i : Nat) : Stmt := PySem.Challenge.pw_fenlevel_k39_whole_numbers_are_given_onc.main.body.getD i (.Pass ⟨0, 0, 0, 0⟩)
abbrev st_is_name : Stmt := top 18
abbrev st_look_at_name : Stmt := top 19
abbrev st_Stand___init__ : Stmt := inClass (top 26) 0
abbrev st_Stand_like : Stmt := inClass (top 26) 1
abbrev st_Stand_turns_of : Stmt := inClass (top 26) 2
abbrev st_Stand_place_of : Stmt := inClass (top 26) 3
abbrev st_Stand_mark_names : Stmt := inClass (top 26) 4
abbrev st_Stand_check_hand : Stmt := inClass (top 26) 5
abbrev st_Stand_put_mark : Stmt := inClass (top 26) 6
abbrev st_Stand_put_hand : Stmt := inClass (top 26) 7
abbrev st_Stand_put_run : Stmt := inClass (top 26) 8
abbrev st_Stand_row_at : Stmt := inClass (top 26) 9
abbrev st_Stand_end_run : Stmt := inClass (top 26) 10
abbrev st_Stand_mend_run : Stmt := inClass (top 26) 11
abbrev st_Stand_settle : Stmt := inClass (top 26) 12
abbrev st_Stand_put_aside : Stmt := inClass (top 26) 13
abbrev st_Stand_heed : Stmt := inClass (top 26) 14
abbrev st_Stand_allow : Stmt := inClass (top 26) 15
abbrev st_Stand_hand_names : Stmt := inClass (top 26) 16
abbrev st_Stand_counted : Stmt := inClass (top 26) 17
abbrev st_done_by : Stmt := top 28
abbrev st_Fen___init__ : Stmt := inClass (top 29) 0
abbrev st_Fen_now : Stmt := inClass (top 29) 1
abbrev st_Fen_deed : Stmt := inClass (top 29) 2
abbrev st_Fen_strike : Stmt := inClass (top 29) 6
abbrev st_Fen_mend : Stmt := inClass (top 29) 7
abbrev st_Fen_back : Stmt := inClass (top 29) 12
abbrev st_Fen_deeds : Stmt := inClass (top 29) 14
abbrev st_Fen_marks : Stmt := inClass (top 29) 16
abbrev st_Fen_hands : Stmt := inClass (top 29) 17
abbrev st_Fen_asides : Stmt := inClass (top 29) 18
abbrev st_Fen_stands : Stmt := inClass (top 29) 19
abbrev st_Fen_allowed : Stmt := inClass (top 29) 20
abbrev st_Fen_runs : Stmt := inClass (top 29) 21
abbrev st_Fen_counting : Stmt := inClass (top 29) 22
abbrev st_law_box : Stmt := top 31
abbrev st_law_take : Stmt := top 32
abbrev st_law_same : Stmt := top 33
abbrev st_law_names : Stmt := top 34
abbrev st_law_model : Stmt := top 35
abbrev st_law_turns : Stmt := top 36
abbrev st_law_place : Stmt := top 37
abbrev st_law_marks : Stmt := top 38
abbrev st_law_counted : Stmt := top 39
abbrev st_law_done : Stmt := top 40
abbrev st_law_due_told : Stmt := top 41
abbrev st_law_step : Stmt := top 42
abbrev st_law_seen : Stmt := top 43
abbrev st_law_due : Stmt := top 44
abbrev st_law_right : Stmt := top 45
abbrev st_law_truth : Stmt := top 46
abbrev st_law_run_deed : Stmt := top 47
abbrev st_law_begun : Stmt := top 48
abbrev st_law_no_run : Stmt := top 49
abbrev st_law : Stmt := top 50
abbrev st_BadName___init__ : Stmt := inClass (top 3) 0
abbrev st_Taken___init__ : Stmt := inClass (top 4) 0
abbrev st_Full___init__ : Stmt := inClass (top 5) 0
abbrev st_NoMark___init__ : Stmt := inClass (top 6) 0
abbrev st_NoHand___init__ : Stmt := inClass (top 7) 0
abbrev st_Same___init__ : Stmt := inClass (top 8) 0
abbrev st_BadRise___init__ : Stmt := inClass (top 9) 0
abbrev st_NoRun___init__ : Stmt := inClass (top 10) 0
abbrev st_Aside___init__ : Stmt := inClass (top 11) 0
abbrev st_NotAside___init__ : Stmt := inClass (top 12) 0
abbrev st_BadNumber___init__ : Stmt := inClass (top 13) 0
abbrev st_NothingLeft___init__ : Stmt := inClass (top 14) 0
theorem sc_is_name : FnScope nm_is_name ["word"] (defScope st_is_name) := ⟨rfl, rfl, rfl, by decide +kernel, rfl, by decide +kernel, by decide +kernel⟩
theorem sc_look_at_name : FnScope nm_look_at_name ["word"] (defScope st_look_at_name) := ⟨rfl, rfl, rfl, by decide +kernel, rfl, by decide +kernel, by decide +kernel⟩
theorem sc_Stand___init__ : FnScope nm_Stand___init__ ["self"] (defScope st_Stand___init__) := ⟨rfl, rfl, rfl, by decide +kernel, rfl, by decide +kernel, by decide +kernel⟩
theorem sc_Stand_like : FnScope nm_Stand_like ["self"] (defScope st_Stand_like) := ⟨rfl, rfl, rfl, by decide +kernel, rfl, by decide +kernel, by decide +kernel⟩
theorem sc_Stand_turns_of : FnScope nm_Stand_turns_of ["self", "name"] (defScope st_Stand_turns_of) := ⟨rfl, rfl, rfl, by decide +kernel, rfl, by decide +kernel, by decide +kernel⟩
theorem sc_Stand_place_of : FnScope nm_Stand_place_of ["self", "name"] (defScope st_Stand_place_of) := ⟨rfl, rfl, rfl, by decide +kernel, rfl, by decide +kernel, by decide +kernel⟩
theorem sc_Stand_mark_names : FnScope nm_Stand_mark_names ["self"] (defScope st_Stand_mark_names) := ⟨rfl, rfl, rfl, by decide +kernel, rfl, by decide +kernel, by decide +kernel⟩
theorem sc_Stand_check_hand : FnScope nm_Stand_check_hand ["self", "name"] (defScope st_Stand_check_hand) := ⟨rfl, rfl, rfl, by decide +kernel, rfl, by decide +kernel, by decide +kernel⟩
theorem sc_Stand_put_mark : FnScope nm_Stand_put_mark ["self", "name"] (defScope st_Stand_put_mark) := ⟨rfl, rfl, rfl, by decide +kernel, rfl, by decide +kernel, by decide +kernel⟩
theorem sc_Stand_put_hand : FnScope nm_Stand_put_hand ["self", "name"] (defScope st_Stand_put_hand) := ⟨rfl, rfl, rfl, by decide +kernel, rfl, by decide +kernel, by decide +kernel⟩
theorem sc_Stand_put_run : FnScope nm_Stand_put_run ["self", "one", "other", "rise", "hand"] (defScope st_Stand_put_run) := ⟨rfl, rfl, rfl, by decide +kernel, rfl, by decide +kernel, by decide +kernel⟩
theorem sc_Stand_row_at : FnScope nm_Stand_row_at ["self", "number"] (defScope st_Stand_row_at) := ⟨rfl, rfl, rfl, by decide +kernel, rfl, by decide +kernel, by decide +kernel⟩
theorem sc_Stand_end_run : FnScope nm_Stand_end_run ["self", "number"] (defScope st_Stand_end_run) := ⟨rfl, rfl, rfl, by decide +kernel, rfl, by decide +kernel, by decide +kernel⟩
theorem sc_Stand_mend_run : FnScope nm_Stand_mend_run ["self", "number", "rise"] (defScope st_Stand_mend_run) := ⟨rfl, rfl, rfl, by decide +kernel, rfl, by decide +kernel, by decide +kernel⟩
theorem sc_Stand_settle : FnScope nm_Stand_settle ["self", "name"] (defScope st_Stand_settle) := ⟨rfl, rfl, rfl, by decide +kernel, rfl, by decide +kernel, by decide +kernel⟩
theorem sc_Stand_put_aside : FnScope nm_Stand_put_aside ["self", "hand"] (defScope st_Stand_put_aside) := ⟨rfl, rfl, rfl, by decide +kernel, rfl, by decide +kernel, by decide +kernel⟩
theorem sc_Stand_heed : FnScope nm_Stand_heed ["self", "hand"] (defScope st_Stand_heed) := ⟨rfl, rfl, rfl, by decide +kernel, rfl, by decide +kernel, by decide +kernel⟩
theorem sc_Stand_allow : FnScope nm_Stand_allow ["self", "many"] (defScope st_Stand_allow) := ⟨rfl, rfl, rfl, by decide +kernel, rfl, by decide +kernel, by decide +kernel⟩
theorem sc_Stand_hand_names : FnScope nm_Stand_hand_names ["self"] (defScope st_Stand_hand_names) := ⟨rfl, rfl, rfl, by decide +kernel, rfl, by decide +kernel, by decide +kernel⟩
theorem sc_Stand_counted : FnScope nm_Stand_counted ["self"] (defScope st_Stand_counted) := ⟨rfl, rfl, rfl, by decide +kernel, rfl, by decide +kernel, by decide +kernel⟩
theorem sc_done_by : FnScope nm_done_by ["stand", "row"] (defScope st_done_by) := ⟨rfl, rfl, rfl, by decide +kernel, rfl, by decide +kernel, by decide +kernel⟩
theorem sc_Fen___init__ : FnScope nm_Fen___init__ ["self"] (defScope st_Fen___init__) := ⟨rfl, rfl, rfl, by decide +kernel, rfl, by decide +kernel, by decide +kernel⟩
theorem sc_Fen_now : FnScope nm_Fen_now ["self"] (defScope st_Fen_now) := ⟨rfl, rfl, rfl, by decide +kernel, rfl, by decide +kernel, by decide +kernel⟩
theorem sc_Fen_deed : FnScope nm_Fen_deed ["self", "row"] (defScope st_Fen_deed) := ⟨rfl, rfl, rfl, by decide +kernel, rfl, by decide +kernel, by decide +kernel⟩
theorem sc_Fen_strike : FnScope nm_Fen_strike ["self", "number"] (defScope st_Fen_strike) := ⟨rfl, rfl, rfl, by decide +kernel, rfl, by decide +kernel, by decide +kernel⟩
theorem sc_Fen_mend : FnScope nm_Fen_mend ["self", "number", "rise"] (defScope st_Fen_mend) := ⟨rfl, rfl, rfl, by decide +kernel, rfl, by decide +kernel, by decide +kernel⟩
theorem sc_Fen_back : FnScope nm_Fen_back ["self"] (defScope st_Fen_back) := ⟨rfl, rfl, rfl, by decide +kernel, rfl, by decide +kernel, by decide +kernel⟩
theorem sc_Fen_deeds : FnScope nm_Fen_deeds ["self"] (defScope st_Fen_deeds) := ⟨rfl, rfl, rfl, by decide +kernel, rfl, by decide +kernel, by decide +kernel⟩
theorem sc_Fen_marks : FnScope nm_Fen_marks ["self"] (defScope st_Fen_marks) := ⟨rfl, rfl, rfl, by decide +kernel, rfl, by decide +kernel, by decide +kernel⟩
theorem sc_Fen_hands : FnScope nm_Fen_hands ["self"] (defScope st_Fen_hands) := ⟨rfl, rfl, rfl, by decide +kernel, rfl, by decide +kernel, by decide +kernel⟩
theorem sc_Fen_asides : FnScope nm_Fen_asides ["self"] (defScope st_Fen_asides) := ⟨rfl, rfl, rfl, by decide +kernel, rfl, by decide +kernel, by decide +kernel⟩
theorem sc_Fen_stands : FnScope nm_Fen_stands ["self"] (defScope st_Fen_stands) := ⟨rfl, rfl, rfl, by decide +kernel, rfl, by decide +kernel, by decide +kernel⟩
theorem sc_Fen_allowed : FnScope nm_Fen_allowed ["self"] (defScope st_Fen_allowed) := ⟨rfl, rfl, rfl, by decide +kernel, rfl, by decide +kernel, by decide +kernel⟩
theorem sc_Fen_runs : FnScope nm_Fen_runs ["self"] (defScope st_Fen_runs) := ⟨rfl, rfl, rfl, by decide +kernel, rfl, by decide +kernel, by decide +kernel⟩
theorem sc_Fen_counting : FnScope nm_Fen_counting ["self"] (defScope st_Fen_counting) := ⟨rfl, rfl, rfl, by decide +kernel, rfl, by decide +kernel, by decide +kernel⟩
theorem sc_law_box : FnScope nm_law_box ["_law_script"] (defScope st_law_box) := ⟨rfl, rfl, rfl, by decide +kernel, rfl, by decide +kernel, by decide +kernel⟩
theorem sc_law_take : FnScope nm_law_take ["_law_box_here", "_law_many"] (defScope st_law_take) := ⟨rfl, rfl, rfl, by decide +kernel, rfl, by decide +kernel, by decide +kernel⟩
theorem sc_law_same : FnScope nm_law_same ["_law_found", "_law_due_here"] (defScope st_law_same) := ⟨rfl, rfl, rfl, by decide +kernel, rfl, by decide +kernel, by decide +kernel⟩
theorem sc_law_names : FnScope nm_law_names ["_law_box_here", "_law_many"] (defScope st_law_names) := ⟨rfl, rfl, rfl, by decide +kernel, rfl, by decide +kernel, by decide +kernel⟩
theorem sc_law_model : FnScope nm_law_model [] (defScope st_law_model) := ⟨rfl, rfl, rfl, by decide +kernel, rfl, by decide +kernel, by decide +kernel⟩
theorem sc_law_turns : FnScope nm_law_turns ["_law_model_here", "_law_name"] (defScope st_law_turns) := ⟨rfl, rfl, rfl, by decide +kernel, rfl, by decide +kernel, by decide +kernel⟩
theorem sc_law_place : FnScope nm_law_place ["_law_model_here", "_law_name"] (defScope st_law_place) := ⟨rfl, rfl, rfl, by decide +kernel, rfl, by decide +kernel, by decide +kernel⟩
theorem sc_law_marks : FnScope nm_law_marks ["_law_model_here"] (defScope st_law_marks) := ⟨rfl, rfl, rfl, by decide +kernel, rfl, by decide +kernel, by decide +kernel⟩
theorem sc_law_counted : FnScope nm_law_counted ["_law_model_here"] (defScope st_law_counted) := ⟨rfl, rfl, rfl, by decide +kernel, rfl, by decide +kernel, by decide +kernel⟩
theorem sc_law_done : FnScope nm_law_done ["_law_model_here", "_law_deed"] (defScope st_law_done) := ⟨rfl, rfl, rfl, by decide +kernel, rfl, by decide +kernel, by decide +kernel⟩
theorem sc_law_due_told : FnScope nm_law_due_told ["_law_model_here", "_law_deed"] (defScope st_law_due_told) := ⟨rfl, rfl, rfl, by decide +kernel, rfl, by decide +kernel, by decide +kernel⟩
theorem sc_law_step : FnScope nm_law_step ["_law_fen", "_law_model_here", "_law_deed"] (defScope st_law_step) := ⟨rfl, rfl, rfl, by decide +kernel, rfl, by decide +kernel, by decide +kernel⟩
theorem sc_law_seen : FnScope nm_law_seen ["_law_fen"] (defScope st_law_seen) := ⟨rfl, rfl, rfl, by decide +kernel, rfl, by decide +kernel, by decide +kernel⟩
theorem sc_law_due : FnScope nm_law_due ["_law_model_here"] (defScope st_law_due) := ⟨rfl, rfl, rfl, by decide +kernel, rfl, by decide +kernel, by decide +kernel⟩
theorem sc_law_right : FnScope nm_law_right ["_law_fen", "_law_model_here"] (defScope st_law_right) := ⟨rfl, rfl, rfl, by decide +kernel, rfl, by decide +kernel, by decide +kernel⟩
theorem sc_law_truth : FnScope nm_law_truth ["_law_place_here"] (defScope st_law_truth) := ⟨rfl, rfl, rfl, by decide +kernel, rfl, by decide +kernel, by decide +kernel⟩
theorem sc_law_run_deed : FnScope nm_law_run_deed ["_law_box_here", "_law_model_here"] (defScope st_law_run_deed) := ⟨rfl, rfl, rfl, by decide +kernel, rfl, by decide +kernel, by decide +kernel⟩
theorem sc_law_begun : FnScope nm_law_begun ["_law_box_here", "_law_most_marks", "_law_most_hands", "_law_most_runs"] (defScope st_law_begun) := ⟨rfl, rfl, rfl, by decide +kernel, rfl, by decide +kernel, by decide +kernel⟩
theorem sc_law_no_run : FnScope nm_law_no_run ["_law_fen", "_law_number", "_law_way"] (defScope st_law_no_run) := ⟨rfl, rfl, rfl, by decide +kernel, rfl, by decide +kernel, by decide +kernel⟩
theorem sc_law : FnScope nm_law ["_law_script"] (defScope st_law) := ⟨rfl, rfl, rfl, by decide +kernel, rfl, by decide +kernel, by decide +kernel⟩
theorem sc_BadName___init__ : FnScope ["self"] ["self"] (defScope st_BadName___init__) := ⟨rfl, rfl, rfl, by decide +kernel, rfl, by decide +kernel, by decide +kernel⟩
theorem sc_Taken___init__ : FnScope ["self"] ["self"] (defScope st_Taken___init__) := ⟨rfl, rfl, rfl, by decide +kernel, rfl, by decide +kernel, by decide +kernel⟩
theorem sc_Full___init__ : FnScope ["self"] ["self"] (defScope st_Full___init__) := ⟨rfl, rfl, rfl, by decide +kernel, rfl, by decide +kernel, by decide +kernel⟩
theorem sc_NoMark___init__ : FnScope ["self"] ["self"] (defScope st_NoMark___init__) := ⟨rfl, rfl, rfl, by decide +kernel, rfl, by decide +kernel, by decide +kernel⟩
theorem sc_NoHand___init__ : FnScope ["self"] ["self"] (defScope st_NoHand___init__) := ⟨rfl, rfl, rfl, by decide +kernel, rfl, by decide +kernel, by decide +kernel⟩
theorem sc_Same___init__ : FnScope ["self"] ["self"] (defScope st_Same___init__) := ⟨rfl, rfl, rfl, by decide +kernel, rfl, by decide +kernel, by decide +kernel⟩
theorem sc_BadRise___init__ : FnScope ["self"] ["self"] (defScope st_BadRise___init__) := ⟨rfl, rfl, rfl, by decide +kernel, rfl, by decide +kernel, by decide +kernel⟩
theorem sc_NoRun___init__ : FnScope ["self"] ["self"] (defScope st_NoRun___init__) := ⟨rfl, rfl, rfl, by decide +kernel, rfl, by decide +kernel, by decide +kernel⟩
theorem sc_Aside___init__ : FnScope ["self"] ["self"] (defScope st_Aside___init__) := ⟨rfl, rfl, rfl, by decide +kernel, rfl, by decide +kernel, by decide +kernel⟩
theorem sc_NotAside___init__ : FnScope ["self"] ["self"] (defScope st_NotAside___init__) := ⟨rfl, rfl, rfl, by decide +kernel, rfl, by decide +kernel, by decide +kernel⟩
theorem sc_BadNumber___init__ : FnScope ["self"] ["self"] (defScope st_BadNumber___init__) := ⟨rfl, rfl, rfl, by decide +kernel, rfl, by decide +kernel, by decide +kernel⟩
theorem sc_NothingLeft___init__ : FnScope ["self"] ["self"] (defScope st_NothingLeft___init__) := ⟨rfl, rfl, rfl, by decide +kernel, rfl, by decide +kernel, by decide +kernel⟩
abbrev FnP (K : PySem.W.Frag) (x q : Str) (st : Stmt) (f : Addr) (fd : FuncData) : Prop := FunD K x q (defArgs st) (defBody st) (defScope st) [] [] f fd
structure Txt (K : PySem.W.Frag) (mg : Str → Option Value) where
  f_is_name : Addr
  d_is_name : FuncData
  f_look_at_name : Addr
  d_look_at_name : FuncData
  f_Stand___init__ : Addr
  d_Stand___init__ : FuncData
  f_Stand_like : Addr
  d_Stand_like : FuncData
  f_Stand_turns_of : Addr
  d_Stand_turns_of : FuncData
  f_Stand_place_of : Addr
  d_Stand_place_of : FuncData
  f_Stand_mark_names : Addr
  d_Stand_mark_names : FuncData
  f_Stand_check_hand : Addr
  d_Stand_check_hand : FuncData
  f_Stand_put_mark : Addr
  d_Stand_put_mark : FuncData
  f_Stand_put_hand : Addr
  d_Stand_put_hand : FuncData
  f_Stand_put_run : Addr
  d_Stand_put_run : FuncData
  f_Stand_row_at : Addr
  d_Stand_row_at : FuncData
  f_Stand_end_run : Addr
  d_Stand_end_run : FuncData
  f_Stand_mend_run : Addr
  d_Stand_mend_run : FuncData
  f_Stand_settle : Addr
  d_Stand_settle : FuncData
  f_Stand_put_aside : Addr
  d_Stand_put_aside : FuncData
  f_Stand_heed : Addr
  d_Stand_heed : FuncData
  f_Stand_allow : Addr
  d_Stand_allow : FuncData
  f_Stand_hand_names : Addr
  d_Stand_hand_names : FuncData
  f_Stand_counted : Addr
  d_Stand_counted : FuncData
  f_done_by : Addr
  d_done_by : FuncData
  f_Fen___init__ : Addr
  d_Fen___init__ : FuncData
  f_Fen_now : Addr
  d_Fen_now : FuncData
  f_Fen_deed : Addr
  d_Fen_deed : FuncData
  f_Fen_strike : Addr
  d_Fen_strike : FuncData
  f_Fen_mend : Addr
  d_Fen_mend : FuncData
  f_Fen_back : Addr
  d_Fen_back : FuncData
  f_Fen_deeds : Addr
  d_Fen_deeds : FuncData
  f_Fen_marks : Addr
  d_Fen_marks : FuncData
  f_Fen_hands : Addr
  d_Fen_hands : FuncData
  f_Fen_asides : Addr
  d_Fen_asides : FuncData
  f_Fen_stands : Addr
  d_Fen_stands : FuncData
  f_Fen_allowed : Addr
  d_Fen_allowed : FuncData
  f_Fen_runs : Addr
  d_Fen_runs : FuncData
  f_Fen_counting : Addr
  d_Fen_counting : FuncData
  f_law_box : Addr
  d_law_box : FuncData
  f_law_take : Addr
  d_law_take : FuncData
  f_law_same : Addr
  d_law_same : FuncData
  f_law_names : Addr
  d_law_names : FuncData
  f_law_model : Addr
  d_law_model : FuncData
  f_law_turns : Addr
  d_law_turns : FuncData
  f_law_place : Addr
  d_law_place : FuncData
  f_law_marks : Addr
  d_law_marks : FuncData
  f_law_counted : Addr
  d_law_counted : FuncData
  f_law_done : Addr
  d_law_done : FuncData
  f_law_due_told : Addr
  d_law_due_told : FuncData
  f_law_step : Addr
  d_law_step : FuncData
  f_law_seen : Addr
  d_law_seen : FuncData
  f_law_due : Addr
  d_law_due : FuncData
  f_law_right : Addr
  d_law_right : FuncData
  f_law_truth : Addr
  d_law_truth : FuncData
  f_law_run_deed : Addr
  d_law_run_deed : FuncData
  f_law_begun : Addr
  d_law_begun : FuncData
  f_law_no_run : Addr
  d_law_no_run : FuncData
  f_law : Addr
  d_law : FuncData
  f_BadName___init__ : Addr
  d_BadName___init__ : FuncData
  f_Taken___init__ : Addr
  d_Taken___init__ : FuncData
  f_Full___init__ : Addr
  d_Full___init__ : FuncData
  f_NoMark___init__ : Addr
  d_NoMark___init__ : FuncData
  f_NoHand___init__ : Addr
  d_NoHand___init__ : FuncData
  f_Same___init__ : Addr
  d_Same___init__ : FuncData
  f_BadRise___init__ : Addr
  d_BadRise___init__ : FuncData
  f_NoRun___init__ : Addr
  d_NoRun___init__ : FuncData
  f_Aside___init__ : Addr
  d_Aside___init__ : FuncData
  f_NotAside___init__ : Addr
  d_NotAside___init__ : FuncData
  f_BadNumber___init__ : Addr
  d_BadNumber___init__ : FuncData
  f_NothingLeft___init__ : Addr
  d_NothingLeft___init__ : FuncData
  m_is_name : mg "is_name" = some (.ref f_is_name)
  F_is_name : FnP K "is_name" "is_name" st_is_name f_is_name d_is_name
  m_look_at_name : mg "look_at_name" = some (.ref f_look_at_name)
  F_look_at_name : FnP K "look_at_name" "look_at_name" st_look_at_name f_look_at_name d_look_at_name
  F_Stand___init__ : FnP K "__init__" "Stand.__init__" st_Stand___init__ f_Stand___init__ d_Stand___init__
  F_Stand_like : FnP K "like" "Stand.like" st_Stand_like f_Stand_like d_Stand_like
  F_Stand_turns_of : FnP K "turns_of" "Stand.turns_of" st_Stand_turns_of f_Stand_turns_of d_Stand_turns_of
  F_Stand_place_of : FnP K "place_of" "Stand.place_of" st_Stand_place_of f_Stand_place_of d_Stand_place_of
  F_Stand_mark_names : FnP K "mark_names" "Stand.mark_names" st_Stand_mark_names f_Stand_mark_names d_Stand_mark_names
  F_Stand_check_hand : FnP K "check_hand" "Stand.check_hand" st_Stand_check_hand f_Stand_check_hand d_Stand_check_hand
  F_Stand_put_mark : FnP K "put_mark" "Stand.put_mark" st_Stand_put_mark f_Stand_put_mark d_Stand_put_mark
  F_Stand_put_hand : FnP K "put_hand" "Stand.put_hand" st_Stand_put_hand f_Stand_put_hand d_Stand_put_hand
  F_Stand_put_run : FnP K "put_run" "Stand.put_run" st_Stand_put_run f_Stand_put_run d_Stand_put_run
  F_Stand_row_at : FnP K "row_at" "Stand.row_at" st_Stand_row_at f_Stand_row_at d_Stand_row_at
  F_Stand_end_run : FnP K "end_run" "Stand.end_run" st_Stand_end_run f_Stand_end_run d_Stand_end_run
  F_Stand_mend_run : FnP K "mend_run" "Stand.mend_run" st_Stand_mend_run f_Stand_mend_run d_Stand_mend_run
  F_Stand_settle : FnP K "settle" "Stand.settle" st_Stand_settle f_Stand_settle d_Stand_settle
  F_Stand_put_aside : FnP K "put_aside" "Stand.put_aside" st_Stand_put_aside f_Stand_put_aside d_Stand_put_aside
  F_Stand_heed : FnP K "heed" "Stand.heed" st_Stand_heed f_Stand_heed d_Stand_heed
  F_Stand_allow : FnP K "allow" "Stand.allow" st_Stand_allow f_Stand_allow d_Stand_allow
  F_Stand_hand_names : FnP K "hand_names" "Stand.hand_names" st_Stand_hand_names f_Stand_hand_names d_Stand_hand_names
  F_Stand_counted : FnP K "counted" "Stand.counted" st_Stand_counted f_Stand_counted d_Stand_counted
  m_done_by : mg "done_by" = some (.ref f_done_by)
  F_done_by : FnP K "done_by" "done_by" st_done_by f_done_by d_done_by
  F_Fen___init__ : FnP K "__init__" "Fen.__init__" st_Fen___init__ f_Fen___init__ d_Fen___init__
  F_Fen_now : FnP K "now" "Fen.now" st_Fen_now f_Fen_now d_Fen_now
  F_Fen_deed : FnP K "deed" "Fen.deed" st_Fen_deed f_Fen_deed d_Fen_deed
  F_Fen_strike : FnP K "strike" "Fen.strike" st_Fen_strike f_Fen_strike d_Fen_strike
  F_Fen_mend : FnP K "mend" "Fen.mend" st_Fen_mend f_Fen_mend d_Fen_mend
  F_Fen_back : FnP K "back" "Fen.back" st_Fen_back f_Fen_back d_Fen_back
  F_Fen_deeds : FnP K "deeds" "Fen.deeds" st_Fen_deeds f_Fen_deeds d_Fen_deeds
  F_Fen_marks : FnP K "marks" "Fen.marks" st_Fen_marks f_Fen_marks d_Fen_marks
  F_Fen_hands : FnP K "hands" "Fen.hands" st_Fen_hands f_Fen_hands d_Fen_hands
  F_Fen_asides : FnP K "asides" "Fen.asides" st_Fen_asides f_Fen_asides d_Fen_asides
  F_Fen_stands : FnP K "stands" "Fen.stands" st_Fen_stands f_Fen_stands d_Fen_stands
  F_Fen_allowed : FnP K "allowed" "Fen.allowed" st_Fen_allowed f_Fen_allowed d_Fen_allowed
  F_Fen_runs : FnP K "runs" "Fen.runs" st_Fen_runs f_Fen_runs d_Fen_runs
  F_Fen_counting : FnP K "counting" "Fen.counting" st_Fen_counting f_Fen_counting d_Fen_counting
  m_law_box : mg "_law_box" = some (.ref f_law_box)
  F_law_box : FnP K "_law_box" "_law_box" st_law_box f_law_box d_law_box
  m_law_take : mg "_law_take" = some (.ref f_law_take)
  F_law_take : FnP K "_law_take" "_law_take" st_law_take f_law_take d_law_take
  m_law_same : mg "_law_same" = some (.ref f_law_same)
  F_law_same : FnP K "_law_same" "_law_same" st_law_same f_law_same d_law_same
  m_law_names : mg "_law_names" = some (.ref f_law_names)
  F_law_names : FnP K "_law_names" "_law_names" st_law_names f_law_names d_law_names
  m_law_model : mg "_law_model" = some (.ref f_law_model)
  F_law_model : FnP K "_law_model" "_law_model" st_law_model f_law_model d_law_model
  m_law_turns : mg "_law_turns" = some (.ref f_law_turns)
  F_law_turns : FnP K "_law_turns" "_law_turns" st_law_turns f_law_turns d_law_turns
  m_law_place : mg "_law_place" = some (.ref f_law_place)
  F_law_place : FnP K "_law_place" "_law_place" st_law_place f_law_place d_law_place
  m_law_marks : mg "_law_marks" = some (.ref f_law_marks)
  F_law_marks : FnP K "_law_marks" "_law_marks" st_law_marks f_law_marks d_law_marks
  m_law_counted : mg "_law_counted" = some (.ref f_law_counted)
  F_law_counted : FnP K "_law_counted" "_law_counted" st_law_counted f_law_counted d_law_counted
  m_law_done : mg "_law_done" = some (.ref f_law_done)
  F_law_done : FnP K "_law_done" "_law_done" st_law_done f_law_done d_law_done
  m_law_due_told : mg "_law_due_told" = some (.ref f_law_due_told)
  F_law_due_told : FnP K "_law_due_told" "_law_due_told" st_law_due_told f_law_due_told d_law_due_told
  m_law_step : mg "_law_step" = some (.ref f_law_step)
  F_law_step : FnP K "_law_step" "_law_step" st_law_step f_law_step d_law_step
  m_law_seen : mg "_law_seen" = some (.ref f_law_seen)
  F_law_seen : FnP K "_law_seen" "_law_seen" st_law_seen f_law_seen d_law_seen
  m_law_due : mg "_law_due" = some (.ref f_law_due)
  F_law_due : FnP K "_law_due" "_law_due" st_law_due f_law_due d_law_due
  m_law_right : mg "_law_right" = some (.ref f_law_right)
  F_law_right : FnP K "_law_right" "_law_right" st_law_right f_law_right d_law_right
  m_law_truth : mg "_law_truth" = some (.ref f_law_truth)
  F_law_truth : FnP K "_law_truth" "_law_truth" st_law_truth f_law_truth d_law_truth
  m_law_run_deed : mg "_law_run_deed" = some (.ref f_law_run_deed)
  F_law_run_deed : FnP K "_law_run_deed" "_law_run_deed" st_law_run_deed f_law_run_deed d_law_run_deed
  m_law_begun : mg "_law_begun" = some (.ref f_law_begun)
  F_law_begun : FnP K "_law_begun" "_law_begun" st_law_begun f_law_begun d_law_begun
  m_law_no_run : mg "_law_no_run" = some (.ref f_law_no_run)
  F_law_no_run : FnP K "_law_no_run" "_law_no_run" st_law_no_run f_law_no_run d_law_no_run
  m_law : mg "law" = some (.ref f_law)
  F_law : FnP K "law" "law" st_law f_law d_law
  F_BadName___init__ : FnP K "__init__" "BadName.__init__" st_BadName___init__ f_BadName___init__ d_BadName___init__
  F_Taken___init__ : FnP K "__init__" "Taken.__init__" st_Taken___init__ f_Taken___init__ d_Taken___init__
  F_Full___init__ : FnP K "__init__" "Full.__init__" st_Full___init__ f_Full___init__ d_Full___init__
  F_NoMark___init__ : FnP K "__init__" "NoMark.__init__" st_NoMark___init__ f_NoMark___init__ d_NoMark___init__
  F_NoHand___init__ : FnP K "__init__" "NoHand.__init__" st_NoHand___init__ f_NoHand___init__ d_NoHand___init__
  F_Same___init__ : FnP K "__init__" "Same.__init__" st_Same___init__ f_Same___init__ d_Same___init__
  F_BadRise___init__ : FnP K "__init__" "BadRise.__init__" st_BadRise___init__ f_BadRise___init__ d_BadRise___init__
  F_NoRun___init__ : FnP K "__init__" "NoRun.__init__" st_NoRun___init__ f_NoRun___init__ d_NoRun___init__
  F_Aside___init__ : FnP K "__init__" "Aside.__init__" st_Aside___init__ f_Aside___init__ d_Aside___init__
  F_NotAside___init__ : FnP K "__init__" "NotAside.__init__" st_NotAside___init__ f_NotAside___init__ d_NotAside___init__
  F_BadNumber___init__ : FnP K "__init__" "BadNumber.__init__" st_BadNumber___init__ f_BadNumber___init__ d_BadNumber___init__
  F_NothingLeft___init__ : FnP K "__init__" "NothingLeft.__init__" st_NothingLeft___init__ f_NothingLeft___init__ d_NothingLeft___init__
  c_LONGEST : ∃ t, mg "LONGEST" = some (.int 8 t)
  c_LETTERS : ∃ t, mg "LETTERS" = some (.str "abcdefghijklmnopqrstuvwxyz" t)
  x_BadName : ExK K "BadName" f_BadName___init__
  m_BadName : mg "BadName" = some (.ref (He.ga K "BadName"))
  cl_Stand : Cls K (He.ga K "Stand")
  na_Stand_places : NoAttr K (He.ga K "Stand") "places"
  na_Stand_heeded : NoAttr K (He.ga K "Stand") "heeded"
  na_Stand_rows : NoAttr K (He.ga K "Stand") "rows"
  na_Stand_entered : NoAttr K (He.ga K "Stand") "entered"
  na_Stand_many : NoAttr K (He.ga K "Stand") "many"
  mk_Stand : Mk K (He.ga K "Stand") f_Stand___init__
  m_Stand : mg "Stand" = some (.ref (He.ga K "Stand"))
  me_Stand_turns_of : Meth K (He.ga K "Stand") "turns_of" f_Stand_turns_of
  x_NoMark : ExK K "NoMark" f_NoMark___init__
  m_NoMark : mg "NoMark" = some (.ref (He.ga K "NoMark"))
  x_NoHand : ExK K "NoHand" f_NoHand___init__
  m_NoHand : mg "NoHand" = some (.ref (He.ga K "NoHand"))
  x_Taken : ExK K "Taken" f_Taken___init__
  m_Taken : mg "Taken" = some (.ref (He.ga K "Taken"))
  c_MOST_STANDS : ∃ t, mg "MOST_STANDS" = some (.int 12 t)
  x_Full : ExK K "Full" f_Full___init__
  m_Full : mg "Full" = some (.ref (He.ga K "Full"))
  c_MOST_HANDS : ∃ t, mg "MOST_HANDS" = some (.int 10 t)
  me_Stand_place_of : Meth K (He.ga K "Stand") "place_of" f_Stand_place_of
  x_Same : ExK K "Same" f_Same___init__
  m_Same : mg "Same" = some (.ref (He.ga K "Same"))
  me_Stand_check_hand : Meth K (He.ga K "Stand") "check_hand" f_Stand_check_hand
  c_MOST_RISE : ∃ t, mg "MOST_RISE" = some (.int 1000000000 t)
  x_BadRise : ExK K "BadRise" f_BadRise___init__
  m_BadRise : mg "BadRise" = some (.ref (He.ga K "BadRise"))
  c_MOST_RUNS : ∃ t, mg "MOST_RUNS" = some (.int 40 t)
  x_NoRun : ExK K "NoRun" f_NoRun___init__
  m_NoRun : mg "NoRun" = some (.ref (He.ga K "NoRun"))
  me_Stand_row_at : Meth K (He.ga K "Stand") "row_at" f_Stand_row_at
  x_Aside : ExK K "Aside" f_Aside___init__
  m_Aside : mg "Aside" = some (.ref (He.ga K "Aside"))
  x_NotAside : ExK K "NotAside" f_NotAside___init__
  m_NotAside : mg "NotAside" = some (.ref (He.ga K "NotAside"))
  c_MOST_FALSE : ∃ t, mg "MOST_FALSE" = some (.int 3 t)
  x_BadNumber : ExK K "BadNumber" f_BadNumber___init__
  m_BadNumber : mg "BadNumber" = some (.ref (He.ga K "BadNumber"))
  me_Stand_put_mark : Meth K (He.ga K "Stand") "put_mark" f_Stand_put_mark
  me_Stand_put_hand : Meth K (He.ga K "Stand") "put_hand" f_Stand_put_hand
  me_Stand_put_run : Meth K (He.ga K "Stand") "put_run" f_Stand_put_run
  me_Stand_end_run : Meth K (He.ga K "Stand") "end_run" f_Stand_end_run
  me_Stand_mend_run : Meth K (He.ga K "Stand") "mend_run" f_Stand_mend_run
  me_Stand_settle : Meth K (He.ga K "Stand") "settle" f_Stand_settle
  me_Stand_put_aside : Meth K (He.ga K "Stand") "put_aside" f_Stand_put_aside
  me_Stand_heed : Meth K (He.ga K "Stand") "heed" f_Stand_heed
  me_Stand_allow : Meth K (He.ga K "Stand") "allow" f_Stand_allow
  cl_Fen : Cls K (He.ga K "Fen")
  na_Fen_kept : NoAttr K (He.ga K "Fen") "kept"
  na_Fen_done : NoAttr K (He.ga K "Fen") "done"
  na_Fen_undone : NoAttr K (He.ga K "Fen") "undone"
  me_Fen_now : Meth K (He.ga K "Fen") "now" f_Fen_now
  me_Stand_like : Meth K (He.ga K "Stand") "like" f_Stand_like
  me_Fen_deed : Meth K (He.ga K "Fen") "deed" f_Fen_deed
  x_NothingLeft : ExK K "NothingLeft" f_NothingLeft___init__
  m_NothingLeft : mg "NothingLeft" = some (.ref (He.ga K "NothingLeft"))
  me_Stand_mark_names : Meth K (He.ga K "Stand") "mark_names" f_Stand_mark_names
  me_Stand_hand_names : Meth K (He.ga K "Stand") "hand_names" f_Stand_hand_names
  me_Stand_counted : Meth K (He.ga K "Stand") "counted" f_Stand_counted
  me_Fen_counting : Meth K (He.ga K "Fen") "counting" f_Fen_counting
  me_Fen_runs : Meth K (He.ga K "Fen") "runs" f_Fen_runs
  me_Fen_allowed : Meth K (He.ga K "Fen") "allowed" f_Fen_allowed
  me_Fen_stands : Meth K (He.ga K "Fen") "stands" f_Fen_stands
  me_Fen_asides : Meth K (He.ga K "Fen") "asides" f_Fen_asides
  me_Fen_hands : Meth K (He.ga K "Fen") "hands" f_Fen_hands
  me_Fen_marks : Meth K (He.ga K "Fen") "marks" f_Fen_marks
  me_Fen_deeds : Meth K (He.ga K "Fen") "deeds" f_Fen_deeds
  mk_Fen : Mk K (He.ga K "Fen") f_Fen___init__
  m_Fen : mg "Fen" = some (.ref (He.ga K "Fen"))
  me_Fen_strike : Meth K (He.ga K "Fen") "strike" f_Fen_strike
  me_Fen_mend : Meth K (He.ga K "Fen") "mend" f_Fen_mend
  hx_NoRun : ∀ C, XNm K C → PySem.W.exmOne K (.ref (He.ga K C)) (.ref (He.ga K "NoRun")) = some (isX C "NoRun")
  me_Fen_back : Meth K (He.ga K "Fen") "back" f_Fen_back
  b_len : mg "len" = none
  b_all : mg "all" = none
  b_list : mg "list" = none
  b_dict : mg "dict" = none
  b_enumerate : mg "enumerate" = none
  b_isinstance : mg "isinstance" = none
  b_tuple : mg "tuple" = none
  b_zip : mg "zip" = none
  b_bool : mg "bool" = none
  b_int : mg "int" = none
  b_str : mg "str" = none
  b_range : mg "range" = none
section
variable {P : Program} {w : World} {K : PySem.W.Frag} {mg : Str → Option Value} {base : Heap}
theorem ok_is_name (T : Txt K mg) {spO : SpD} (len : ∀ ds e Q, spO ds e Q → ds.length = 1) (hT : ∀ ds e Q, spO ds e Q → t_is_name (endsD Q) (startD nm_is_name ds) e) : FnD P w K mg base 1 T.f_is_name T.d_is_name ["word"] spO := by
  refine fnD_ok T.F_is_name sc_is_name len (fun cdv A outer s H E hr => ?_) hT
  exact (dss_cons (ds_if (dt_not (dt_lele d_int (d_len rfl T.b_len (da_cons (dv 0) da_nil)) (d_globI rfl T.c_LONGEST))) (dss_one (ds_ret d_bl))
 dss_nil)
 (dss_one (ds_ret (d_all rfl rfl T.b_all (da_cons (d_comp false (own := [("sign", 1)]) rfl sc_is_name.nd (di_str (dv 0)) (blkOk_by (own := [("sign", 1)]) (N := nm_is_name) (sc := defScope st_is_name) (by decide +kernel)) (by decide) (fun _ _ _ _ _ => (gt_one sc_is_name.nd rfl (by first | exact Or.inl rfl | exact Or.inr rfl))) (fun _ _ _ _ _ => dts_nil) (fun _ _ _ _ _ => (d_in' hr.units (dv 1) (d_globS rfl T.c_LETTERS)))) da_nil)))))
theorem ok_look_at_name (T : Txt K mg) (G_is_name : FnD P w K mg base 1 T.f_is_name T.d_is_name ["word"] sp_is_name) (G_BadName___init__ : FnOk P w K mg base CX0 1 T.f_BadName___init__ T.d_BadName___init__ ["self"] (spEx K (He.ga K "BadName") "BadName")) {spO : SpX} (len : ∀ ds e Q E, spO ds e Q E → ds.length = 1) (hT : ∀ ds e Q E, spO ds e Q E → t_look_at_name (outX E) (endsD Q) (startD nm_look_at_name ds) e) : FnX P w K mg base 3 T.f_look_at_name T.d_look_at_name ["word"] spO := by
  have F_is_name := T.F_is_name
  have b_is_name : Binds K T.d_is_name ["word"] [] := F_is_name.bindsN fun _ _ _ _ _ _ us hl => match us, hl with | [_], _ => rfl
  have F_BadName___init__ := T.F_BadName___init__
  have b_BadName___init__ : Binds K T.d_BadName___init__ ["self"] [] := F_BadName___init__.bindsN fun _ _ _ _ _ _ us hl => match us, hl with | [_], _ => rfl
  refine fnX_ok T.F_look_at_name sc_look_at_name len (fun cdv A outer s H E xc hr => ?_) hT
  exact (dss_one (ds_if (dt_not (dt_tru (d_call G_is_name (hr.mono (by decide)) rfl T.m_is_name F_is_name.kp b_is_name (da_cons (dv 0) da_nil)))) (dss_one (ds_raise0 T.x_BadName rfl G_BadName___init__ (hr.mono (by decide)) b_BadName___init__ rfl T.m_BadName))
 dss_nil))
theorem ok_Stand___init__ (T : Txt K mg) {spO : SpD} (len : ∀ ds e Q, spO ds e Q → ds.length = 1) (hT : ∀ ds e Q, spO ds e Q → t_Stand___init__ (endsD Q) (startD nm_Stand___init__ ds) e) : FnD P w K mg base 1 T.f_Stand___init__ T.d_Stand___init__ ["self"] spO := by
  refine fnD_ok T.F_Stand___init__ sc_Stand___init__ len (fun cdv A outer s H E hr => ?_) hT
  exact (dss_cons (ds_setF T.cl_Stand T.na_Stand_places (dv 0) (d_lstC da_nil))
 (dss_cons (ds_setF T.cl_Stand T.na_Stand_heeded (dv 0) d_dicC)
 (dss_cons (ds_setF T.cl_Stand T.na_Stand_rows (dv 0) (d_lstC da_nil))
 (dss_cons (ds_setF T.cl_Stand T.na_Stand_entered (dv 0) d_int)
 (dss_one (ds_setF T.cl_Stand T.na_Stand_many (dv 0) d_int))))))
theorem ok_Stand_like (T : Txt K mg) (G_Stand___init__ : FnD P w K mg base 1 T.f_Stand___init__ T.d_Stand___init__ ["self"] sp_Stand___init__) {spO : SpD} (len : ∀ ds e Q, spO ds e Q → ds.length = 1) (hT : ∀ ds e Q, spO ds e Q → t_Stand_like (endsD Q) (startD nm_Stand_like ds) e) : FnD P w K mg base 3 T.f_Stand_like T.d_Stand_like ["self"] spO := by
  have F_Stand___init__ := T.F_Stand___init__
  have b_Stand___init__ : Binds K T.d_Stand___init__ ["self"] [] := F_Stand___init__.bindsN fun _ _ _ _ _ _ us hl => match us, hl with | [_], _ => rfl
  refine fnD_ok T.F_Stand_like sc_Stand_like len (fun cdv A outer s H E hr => ?_) hT
  exact (dss_cons (ds_set (i := 1) sc_Stand_like.nd rfl (by first | exact Or.inl rfl | exact Or.inr rfl) (d_make0 T.mk_Stand G_Stand___init__ (hr.mono (by decide)) rfl T.m_Stand b_Stand___init__))
 (dss_cons (ds_setF T.cl_Stand T.na_Stand_places (dv 1) (d_list true rfl rfl T.b_list (da_cons (d_fld T.cl_Stand T.na_Stand_places (dv 0)) da_nil)))
 (dss_cons (ds_setF T.cl_Stand T.na_Stand_heeded (dv 1) (d_dictC rfl T.b_dict (da_cons (d_fld T.cl_Stand T.na_Stand_heeded (dv 0)) da_nil)))
 (dss_cons (ds_setF T.cl_Stand T.na_Stand_rows (dv 1) (d_list true rfl rfl T.b_list (da_cons (d_fld T.cl_Stand T.na_Stand_rows (dv 0)) da_nil)))
 (dss_cons (ds_setF T.cl_Stand T.na_Stand_entered (dv 1) (d_fld T.cl_Stand T.na_Stand_entered (dv 0)))
 (dss_cons (ds_setF T.cl_Stand T.na_Stand_many (dv 1) (d_fld T.cl_Stand T.na_Stand_many (dv 0)))
 (dss_one (ds_ret (dv 1)))))))))
theorem ok_Stand_turns_of (T : Txt K mg) {spO : SpD} (len : ∀ ds e Q, spO ds e Q → ds.length = 2) (hT : ∀ ds e Q, spO ds e Q → t_Stand_turns_of (endsD Q) (startD nm_Stand_turns_of ds) e) : FnD P w K mg base 1 T.f_Stand_turns_of T.d_Stand_turns_of ["self", "name"] spO := by
  refine fnD_ok T.F_Stand_turns_of sc_Stand_turns_of len (fun cdv A outer s H E hr => ?_) hT
  exact (dss_one (ds_ret (d_len rfl T.b_len (da_cons (d_comp false (own := [("place", 2)]) rfl sc_Stand_turns_of.nd (di_seq (d_fld T.cl_Stand T.na_Stand_places (dv 0))) (blkOk_by (own := [("place", 2)]) (N := nm_Stand_turns_of) (sc := defScope st_Stand_turns_of) (by decide +kernel)) (by decide) (fun _ _ _ _ _ => (gt_one sc_Stand_turns_of.nd rfl (by first | exact Or.inl rfl | exact Or.inr rfl))) (fun _ _ _ _ _ => dts_one (dt_eq hr.units (d_ix hr.units (dv 2) d_int) (dv 1))) (fun _ _ _ _ _ => (dv 2))) da_nil))))
theorem ok_Stand_place_of (T : Txt K mg) (G_Stand_turns_of : FnD P w K mg base 1 T.f_Stand_turns_of T.d_Stand_turns_of ["self", "name"] sp_Stand_turns_of) (G_NoMark___init__ : FnOk P w K mg base CX0 1 T.f_NoMark___init__ T.d_NoMark___init__ ["self"] (spEx K (He.ga K "NoMark") "NoMark")) {spO : SpX} (len : ∀ ds e Q E, spO ds e Q E → ds.length = 2) (hT : ∀ ds e Q E, spO ds e Q E → t_Stand_place_of (outX E) (endsD Q) (startD nm_Stand_place_of ds) e) : FnX P w K mg base 3 T.f_Stand_place_of T.d_Stand_place_of ["self", "name"] spO := by
  have F_Stand_turns_of := T.F_Stand_turns_of
  have b_Stand_turns_of : Binds K T.d_Stand_turns_of ["self", "name"] [] := F_Stand_turns_of.bindsN fun _ _ _ _ _ _ us hl => match us, hl with | [_, _], _ => rfl
  have F_NoMark___init__ := T.F_NoMark___init__
  have b_NoMark___init__ : Binds K T.d_NoMark___init__ ["self"] [] := F_NoMark___init__.bindsN fun _ _ _ _ _ _ us hl => match us, hl with | [_], _ => rfl
  refine fnX_ok T.F_Stand_place_of sc_Stand_place_of len (fun cdv A outer s H E xc hr => ?_) hT
  exact (dss_cons (ds_set (i := 2) sc_Stand_place_of.nd rfl (by first | exact Or.inl rfl | exact Or.inr rfl) (d_meth T.cl_Stand T.me_Stand_turns_of G_Stand_turns_of (hr.mono (by decide)) b_Stand_turns_of (dv 0) (da_cons (dv 1) da_nil)))
 (dss_cons (ds_if (dt_eq hr.units (dv 2) d_int) (dss_one (ds_raise0 T.x_NoMark rfl G_NoMark___init__ (hr.mono (by decide)) b_NoMark___init__ rfl T.m_NoMark))
 dss_nil)
 (dss_one (ds_ret (d_indexDp (room65 hr) (d_fld T.cl_Stand T.na_Stand_places (dv 0)) (d_tup (da_cons (dv 1) (da_cons (dv 2) da_nil))))))))
theorem ok_Stand_mark_names (T : Txt K mg) {spO : SpD} (len : ∀ ds e Q, spO ds e Q → ds.length = 1) (hT : ∀ ds e Q, spO ds e Q → t_Stand_mark_names (endsD Q) (startD nm_Stand_mark_names ds) e) : FnD P w K mg base 1 T.f_Stand_mark_names T.d_Stand_mark_names ["self"] spO := by
  refine fnD_ok T.F_Stand_mark_names sc_Stand_mark_names len (fun cdv A outer s H E hr => ?_) hT
  exact (dss_one (ds_ret (d_comp false (own := [("name", 1), ("turn", 2)]) rfl sc_Stand_mark_names.nd (di_seq (d_fld T.cl_Stand T.na_Stand_places (dv 0))) (blkOk_by (own := [("name", 1), ("turn", 2)]) (N := nm_Stand_mark_names) (sc := defScope st_Stand_mark_names) (by decide +kernel)) (by decide) (fun _ _ _ _ _ => (gt_many rfl (gts_cons (gt_one sc_Stand_mark_names.nd rfl (by first | exact Or.inl rfl | exact Or.inr rfl)) (gts_cons (gt_one sc_Stand_mark_names.nd rfl (by first | exact Or.inl rfl | exact Or.inr rfl)) gts_nil)))) (fun _ _ _ _ _ => dts_one (dt_eq hr.units (dv 2) d_int)) (fun _ _ _ _ _ => (dv 1)))))
theorem ok_Stand_check_hand (T : Txt K mg) (G_NoHand___init__ : FnOk P w K mg base CX0 1 T.f_NoHand___init__ T.d_NoHand___init__ ["self"] (spEx K (He.ga K "NoHand") "NoHand")) {spO : SpX} (len : ∀ ds e Q E, spO ds e Q E → ds.length = 2) (hT : ∀ ds e Q E, spO ds e Q E → t_Stand_check_hand (outX E) (endsD Q) (startD nm_Stand_check_hand ds) e) : FnX P w K mg base 3 T.f_Stand_check_hand T.d_Stand_check_hand ["self", "name"] spO := by
  have F_NoHand___init__ := T.F_NoHand___init__
  have b_NoHand___init__ : Binds K T.d_NoHand___init__ ["self"] [] := F_NoHand___init__.bindsN fun _ _ _ _ _ _ us hl => match us, hl with | [_], _ => rfl
  refine fnX_ok T.F_Stand_check_hand sc_Stand_check_hand len (fun cdv A outer s H E xc hr => ?_) hT
  exact (dss_one (ds_if (dt_nin hr.units (dv 1) (d_fld T.cl_Stand T.na_Stand_heeded (dv 0))) (dss_one (ds_raise0 T.x_NoHand rfl G_NoHand___init__ (hr.mono (by decide)) b_NoHand___init__ rfl T.m_NoHand))
 dss_nil))
theorem ok_Stand_put_mark (T : Txt K mg) (Gx_look_at_name : FnX P w K mg base 3 T.f_look_at_name T.d_look_at_name ["word"] spx_look_at_name) (G_look_at_name : FnD P w K mg base 3 T.f_look_at_name T.d_look_at_name ["word"] sp_look_at_name) (G_Stand_turns_of : FnD P w K mg base 1 T.f_Stand_turns_of T.d_Stand_turns_of ["self", "name"] sp_Stand_turns_of) (G_Taken___init__ : FnOk P w K mg base CX0 1 T.f_Taken___init__ T.d_Taken___init__ ["self"] (spEx K (He.ga K "Taken") "Taken")) (G_Full___init__ : FnOk P w K mg base CX0 1 T.f_Full___init__ T.d_Full___init__ ["self"] (spEx K (He.ga K "Full") "Full")) {spO : SpX} (len : ∀ ds e Q E, spO ds e Q E → ds.length = 2) (hT : ∀ ds e Q E, spO ds e Q E → t_Stand_put_mark (outX E) (endsD Q) (startD nm_Stand_put_mark ds) e) : FnX P w K mg base 4 T.f_Stand_put_mark T.d_Stand_put_mark ["self", "name"] spO := by
  have F_look_at_name := T.F_look_at_name
  have b_look_at_name : Binds K T.d_look_at_name ["word"] [] := F_look_at_name.bindsN fun _ _ _ _ _ _ us hl => match us, hl with | [_], _ => rfl
  have F_Stand_turns_of := T.F_Stand_turns_of
  have b_Stand_turns_of : Binds K T.d_Stand_turns_of ["self", "name"] [] := F_Stand_turns_of.bindsN fun _ _ _ _ _ _ us hl => match us, hl with | [_, _], _ => rfl
  have F_Taken___init__ := T.F_Taken___init__
  have b_Taken___init__ : Binds K T.d_Taken___init__ ["self"] [] := F_Taken___init__.bindsN fun _ _ _ _ _ _ us hl => match us, hl with | [_], _ => rfl
  have F_Full___init__ := T.F_Full___init__
  have b_Full___init__ : Binds K T.d_Full___init__ ["self"] [] := F_Full___init__.bindsN fun _ _ _ _ _ _ us hl => match us, hl with | [_], _ => rfl
  refine fnX_ok T.F_Stand_put_mark sc_Stand_put_mark len (fun cdv A outer s H E xc hr => ?_) hT
  exact (dss_cons (ds_expr (d_callX Gx_look_at_name (hr.mono (by decide)) rfl T.m_look_at_name F_look_at_name.kp b_look_at_name (da_cons (dv 1) da_nil)))
 (dss_cons (ds_if (dt_gt (d_meth T.cl_Stand T.me_Stand_turns_of G_Stand_turns_of (hr.mono (by decide)) b_Stand_turns_of (dv 0) (da_cons (dv 1) da_nil)) d_int) (dss_one (ds_raise0 T.x_Taken rfl G_Taken___init__ (hr.mono (by decide)) b_Taken___init__ rfl T.m_Taken))
 dss_nil)
 (dss_cons (ds_if (dt_ge (d_len rfl T.b_len (da_cons (d_fld T.cl_Stand T.na_Stand_places (dv 0)) da_nil)) (d_globI rfl T.c_MOST_STANDS)) (dss_one (ds_raise0 T.x_Full rfl G_Full___init__ (hr.mono (by decide)) b_Full___init__ rfl T.m_Full))
 dss_nil)
 (dss_one (ds_expr (d_append (d_fld T.cl_Stand T.na_Stand_places (dv 0)) (d_tup (da_cons (dv 1) (da_cons d_int da_nil)))))))))
theorem ok_Stand_put_hand (T : Txt K mg) (Gx_look_at_name : FnX P w K mg base 3 T.f_look_at_name T.d_look_at_name ["word"] spx_look_at_name) (G_look_at_name : FnD P w K mg base 3 T.f_look_at_name T.d_look_at_name ["word"] sp_look_at_name) (G_Taken___init__ : FnOk P w K mg base CX0 1 T.f_Taken___init__ T.d_Taken___init__ ["self"] (spEx K (He.ga K "Taken") "Taken")) (G_Full___init__ : FnOk P w K mg base CX0 1 T.f_Full___init__ T.d_Full___init__ ["self"] (spEx K (He.ga K "Full") "Full")) {spO : SpX} (len : ∀ ds e Q E, spO ds e Q E → ds.length = 2) (hT : ∀ ds e Q E, spO ds e Q E → t_Stand_put_hand (outX E) (endsD Q) (startD nm_Stand_put_hand ds) e) : FnX P w K mg base 4 T.f_Stand_put_hand T.d_Stand_put_hand ["self", "name"] spO := by
  have F_look_at_name := T.F_look_at_name
  have b_look_at_name : Binds K T.d_look_at_name ["word"] [] := F_look_at_name.bindsN fun _ _ _ _ _ _ us hl => match us, hl with | [_], _ => rfl
  have F_Taken___init__ := T.F_Taken___init__
  have b_Taken___init__ : Binds K T.d_Taken___init__ ["self"] [] := F_Taken___init__.bindsN fun _ _ _ _ _ _ us hl => match us, hl with | [_], _ => rfl
  have F_Full___init__ := T.F_Full___init__
  have b_Full___init__ : Binds K T.d_Full___init__ ["self"] [] := F_Full___init__.bindsN fun _ _ _ _ _ _ us hl => match us, hl with | [_], _ => rfl
  refine fnX_ok T.F_Stand_put_hand sc_Stand_put_hand len (fun cdv A outer s H E xc hr => ?_) hT
  exact (dss_cons (ds_expr (d_callX Gx_look_at_name (hr.mono (by decide)) rfl T.m_look_at_name F_look_at_name.kp b_look_at_name (da_cons (dv 1) da_nil)))
 (dss_cons (ds_if (dt_in hr.units (dv 1) (d_fld T.cl_Stand T.na_Stand_heeded (dv 0))) (dss_one (ds_raise0 T.x_Taken rfl G_Taken___init__ (hr.mono (by decide)) b_Taken___init__ rfl T.m_Taken))
 dss_nil)
 (dss_cons (ds_if (dt_ge (d_len rfl T.b_len (da_cons (d_fld T.cl_Stand T.na_Stand_heeded (dv 0)) da_nil)) (d_globI rfl T.c_MOST_HANDS)) (dss_one (ds_raise0 T.x_Full rfl G_Full___init__ (hr.mono (by decide)) b_Full___init__ rfl T.m_Full))
 dss_nil)
 (dss_one (ds_sto hr.units (d_fld T.cl_Stand T.na_Stand_heeded (dv 0)) (dv 1) d_bl)))))
theorem ok_Stand_put_run (T : Txt K mg) (Gx_Stand_place_of : FnX P w K mg base 3 T.f_Stand_place_of T.d_Stand_place_of ["self", "name"] spx_Stand_place_of) (G_Stand_place_of : FnD P w K mg base 3 T.f_Stand_place_of T.d_Stand_place_of ["self", "name"] sp_Stand_place_of) (G_Same___init__ : FnOk P w K mg base CX0 1 T.f_Same___init__ T.d_Same___init__ ["self"] (spEx K (He.ga K "Same") "Same")) (Gx_Stand_check_hand : FnX P w K mg base 3 T.f_Stand_check_hand T.d_Stand_check_hand ["self", "name"] spx_Stand_check_hand) (G_Stand_check_hand : FnD P w K mg base 3 T.f_Stand_check_hand T.d_Stand_check_hand ["self", "name"] sp_Stand_check_hand) (G_BadRise___init__ : FnOk P w K mg base CX0 1 T.f_BadRise___init__ T.d_BadRise___init__ ["self"] (spEx K (He.ga K "BadRise") "BadRise")) (G_Full___init__ : FnOk P w K mg base CX0 1 T.f_Full___init__ T.d_Full___init__ ["self"] (spEx K (He.ga K "Full") "Full")) {spO : SpX} (len : ∀ ds e Q E, spO ds e Q E → ds.length = 5) (hT : ∀ ds e Q E, spO ds e Q E → t_Stand_put_run (outX E) (endsD Q) (startD nm_Stand_put_run ds) e) : FnX P w K mg base 4 T.f_Stand_put_run T.d_Stand_put_run ["self", "one", "other", "rise", "hand"] spO := by
  have F_Stand_place_of := T.F_Stand_place_of
  have b_Stand_place_of : Binds K T.d_Stand_place_of ["self", "name"] [] := F_Stand_place_of.bindsN fun _ _ _ _ _ _ us hl => match us, hl with | [_, _], _ => rfl
  have F_Same___init__ := T.F_Same___init__
  have b_Same___init__ : Binds K T.d_Same___init__ ["self"] [] := F_Same___init__.bindsN fun _ _ _ _ _ _ us hl => match us, hl with | [_], _ => rfl
  have F_Stand_check_hand := T.F_Stand_check_hand
  have b_Stand_check_hand : Binds K T.d_Stand_check_hand ["self", "name"] [] := F_Stand_check_hand.bindsN fun _ _ _ _ _ _ us hl => match us, hl with | [_, _], _ => rfl
  have F_BadRise___init__ := T.F_BadRise___init__
  have b_BadRise___init__ : Binds K T.d_BadRise___init__ ["self"] [] := F_BadRise___init__.bindsN fun _ _ _ _ _ _ us hl => match us, hl with | [_], _ => rfl
  have F_Full___init__ := T.F_Full___init__
  have b_Full___init__ : Binds K T.d_Full___init__ ["self"] [] := F_Full___init__.bindsN fun _ _ _ _ _ _ us hl => match us, hl with | [_], _ => rfl
  refine fnX_ok T.F_Stand_put_run sc_Stand_put_run len (fun cdv A outer s H E xc hr => ?_) hT
  exact (dss_cons (ds_set (i := 5) sc_Stand_put_run.nd rfl (by first | exact Or.inl rfl | exact Or.inr rfl) (d_methX T.cl_Stand T.me_Stand_place_of Gx_Stand_place_of (hr.mono (by decide)) b_Stand_place_of (dv 0) (da_cons (dv 1) da_nil)))
 (dss_cons (ds_set (i := 6) sc_Stand_put_run.nd rfl (by first | exact Or.inl rfl | exact Or.inr rfl) (d_methX T.cl_Stand T.me_Stand_place_of Gx_Stand_place_of (hr.mono (by decide)) b_Stand_place_of (dv 0) (da_cons (dv 2) da_nil)))
 (dss_cons (ds_if (dt_eq hr.units (dv 1) (dv 2)) (dss_one (ds_raise0 T.x_Same rfl G_Same___init__ (hr.mono (by decide)) b_Same___init__ rfl T.m_Same))
 dss_nil)
 (dss_cons (ds_expr (d_methX T.cl_Stand T.me_Stand_check_hand Gx_Stand_check_hand (hr.mono (by decide)) b_Stand_check_hand (dv 0) (da_cons (dv 4) da_nil)))
 (dss_cons (ds_if (dt_not (dt_lele (d_neg (d_globI rfl T.c_MOST_RISE)) (dv 3) (d_globI rfl T.c_MOST_RISE))) (dss_one (ds_raise0 T.x_BadRise rfl G_BadRise___init__ (hr.mono (by decide)) b_BadRise___init__ rfl T.m_BadRise))
 dss_nil)
 (dss_cons (ds_if (dt_ge (d_len rfl T.b_len (da_cons (d_fld T.cl_Stand T.na_Stand_rows (dv 0)) da_nil)) (d_globI rfl T.c_MOST_RUNS)) (dss_one (ds_raise0 T.x_Full rfl G_Full___init__ (hr.mono (by decide)) b_Full___init__ rfl T.m_Full))
 dss_nil)
 (dss_cons (ds_augF T.cl_Stand T.na_Stand_entered (dv 0) d_int)
 (dss_cons (ds_expr (d_append (d_fld T.cl_Stand T.na_Stand_rows (dv 0)) (d_tup (da_cons (d_fld T.cl_Stand T.na_Stand_entered (dv 0)) (da_cons (dv 5) (da_cons (dv 6) (da_cons (dv 3) (da_cons (dv 4) da_nil))))))))
 (dss_one (ds_ret (d_fld T.cl_Stand T.na_Stand_entered (dv 0))))))))))))
theorem ok_Stand_row_at (T : Txt K mg) (G_NoRun___init__ : FnOk P w K mg base CX0 1 T.f_NoRun___init__ T.d_NoRun___init__ ["self"] (spEx K (He.ga K "NoRun") "NoRun")) {spO : SpX} (len : ∀ ds e Q E, spO ds e Q E → ds.length = 2) (hT : ∀ ds e Q E, spO ds e Q E → t_Stand_row_at (outX E) (endsD Q) (startD nm_Stand_row_at ds) e) : FnX P w K mg base 3 T.f_Stand_row_at T.d_Stand_row_at ["self", "number"] spO := by
  have F_NoRun___init__ := T.F_NoRun___init__
  have b_NoRun___init__ : Binds K T.d_NoRun___init__ ["self"] [] := F_NoRun___init__.bindsN fun _ _ _ _ _ _ us hl => match us, hl with | [_], _ => rfl
  refine fnX_ok T.F_Stand_row_at sc_Stand_row_at len (fun cdv A outer s H E xc hr => ?_) hT
  exact (dss_cons (ds_for (passes_of rfl) rfl (di_enum rfl T.b_enumerate (d_fld T.cl_Stand T.na_Stand_rows (dv 0))) (gt_many rfl (gts_cons (gt_one sc_Stand_row_at.nd rfl (by first | exact Or.inl rfl | exact Or.inr rfl)) (gts_cons (gt_one sc_Stand_row_at.nd rfl (by first | exact Or.inl rfl | exact Or.inr rfl)) gts_nil)))
 (dss_one (ds_if (dt_eq hr.units (d_ix hr.units (dv 3) d_int) (dv 1)) (dss_one (ds_ret (dv 2)))
 dss_nil)))
 (dss_one (ds_raise0 T.x_NoRun rfl G_NoRun___init__ (hr.mono (by decide)) b_NoRun___init__ rfl T.m_NoRun)))
theorem ok_Stand_end_run (T : Txt K mg) (Gx_Stand_row_at : FnX P w K mg base 3 T.f_Stand_row_at T.d_Stand_row_at ["self", "number"] spx_Stand_row_at) (G_Stand_row_at : FnD P w K mg base 3 T.f_Stand_row_at T.d_Stand_row_at ["self", "number"] sp_Stand_row_at) {spO : SpX} (len : ∀ ds e Q E, spO ds e Q E → ds.length = 2) (hT : ∀ ds e Q E, spO ds e Q E → t_Stand_end_run (outX E) (endsD Q) (startD nm_Stand_end_run ds) e) : FnX P w K mg base 4 T.f_Stand_end_run T.d_Stand_end_run ["self", "number"] spO := by
  have F_Stand_row_at := T.F_Stand_row_at
  have b_Stand_row_at : Binds K T.d_Stand_row_at ["self", "number"] [] := F_Stand_row_at.bindsN fun _ _ _ _ _ _ us hl => match us, hl with | [_, _], _ => rfl
  refine fnX_ok T.F_Stand_end_run sc_Stand_end_run len (fun cdv A outer s H E xc hr => ?_) hT
  exact (dss_one (ds_expr (d_popI (d_fld T.cl_Stand T.na_Stand_rows (dv 0)) (d_methX T.cl_Stand T.me_Stand_row_at Gx_Stand_row_at (hr.mono (by decide)) b_Stand_row_at (dv 0) (da_cons (dv 1) da_nil)))))
theorem ok_Stand_mend_run (T : Txt K mg) (Gx_Stand_row_at : FnX P w K mg base 3 T.f_Stand_row_at T.d_Stand_row_at ["self", "number"] spx_Stand_row_at) (G_Stand_row_at : FnD P w K mg base 3 T.f_Stand_row_at T.d_Stand_row_at ["self", "number"] sp_Stand_row_at) (G_BadRise___init__ : FnOk P w K mg base CX0 1 T.f_BadRise___init__ T.d_BadRise___init__ ["self"] (spEx K (He.ga K "BadRise") "BadRise")) {spO : SpX} (len : ∀ ds e Q E, spO ds e Q E → ds.length = 3) (hT : ∀ ds e Q E, spO ds e Q E → t_Stand_mend_run (outX E) (endsD Q) (startD nm_Stand_mend_run ds) e) : FnX P w K mg base 4 T.f_Stand_mend_run T.d_Stand_mend_run ["self", "number", "rise"] spO := by
  have F_Stand_row_at := T.F_Stand_row_at
  have b_Stand_row_at : Binds K T.d_Stand_row_at ["self", "number"] [] := F_Stand_row_at.bindsN fun _ _ _ _ _ _ us hl => match us, hl with | [_, _], _ => rfl
  have F_BadRise___init__ := T.F_BadRise___init__
  have b_BadRise___init__ : Binds K T.d_BadRise___init__ ["self"] [] := F_BadRise___init__.bindsN fun _ _ _ _ _ _ us hl => match us, hl with | [_], _ => rfl
  refine fnX_ok T.F_Stand_mend_run sc_Stand_mend_run len (fun cdv A outer s H E xc hr => ?_) hT
  exact (dss_cons (ds_set (i := 3) sc_Stand_mend_run.nd rfl (by first | exact Or.inl rfl | exact Or.inr rfl) (d_methX T.cl_Stand T.me_Stand_row_at Gx_Stand_row_at (hr.mono (by decide)) b_Stand_row_at (dv 0) (da_cons (dv 1) da_nil)))
 (dss_cons (ds_if (dt_not (dt_lele (d_neg (d_globI rfl T.c_MOST_RISE)) (dv 2) (d_globI rfl T.c_MOST_RISE))) (dss_one (ds_raise0 T.x_BadRise rfl G_BadRise___init__ (hr.mono (by decide)) b_BadRise___init__ rfl T.m_BadRise))
 dss_nil)
 (dss_cons (ds_set (i := 4) sc_Stand_mend_run.nd rfl (by first | exact Or.inl rfl | exact Or.inr rfl) (d_ix hr.units (d_fld T.cl_Stand T.na_Stand_rows (dv 0)) (dv 3)))
 (dss_one (ds_sto hr.units (d_fld T.cl_Stand T.na_Stand_rows (dv 0)) (dv 3) (d_add (d_cut false (dv 4) do_none (do_some d_int)) (d_tup (da_cons (dv 2) (da_cons (d_ix hr.units (dv 4) d_int) da_nil)))))))))
theorem ok_Stand_settle (T : Txt K mg) (Gx_Stand_place_of : FnX P w K mg base 3 T.f_Stand_place_of T.d_Stand_place_of ["self", "name"] spx_Stand_place_of) (G_Stand_place_of : FnD P w K mg base 3 T.f_Stand_place_of T.d_Stand_place_of ["self", "name"] sp_Stand_place_of) (G_Full___init__ : FnOk P w K mg base CX0 1 T.f_Full___init__ T.d_Full___init__ ["self"] (spEx K (He.ga K "Full") "Full")) (G_Stand_turns_of : FnD P w K mg base 1 T.f_Stand_turns_of T.d_Stand_turns_of ["self", "name"] sp_Stand_turns_of) {spO : SpX} (len : ∀ ds e Q E, spO ds e Q E → ds.length = 2) (hT : ∀ ds e Q E, spO ds e Q E → t_Stand_settle (outX E) (endsD Q) (startD nm_Stand_settle ds) e) : FnX P w K mg base 4 T.f_Stand_settle T.d_Stand_settle ["self", "name"] spO := by
  have F_Stand_place_of := T.F_Stand_place_of
  have b_Stand_place_of : Binds K T.d_Stand_place_of ["self", "name"] [] := F_Stand_place_of.bindsN fun _ _ _ _ _ _ us hl => match us, hl with | [_, _], _ => rfl
  have F_Full___init__ := T.F_Full___init__
  have b_Full___init__ : Binds K T.d_Full___init__ ["self"] [] := F_Full___init__.bindsN fun _ _ _ _ _ _ us hl => match us, hl with | [_], _ => rfl
  have F_Stand_turns_of := T.F_Stand_turns_of
  have b_Stand_turns_of : Binds K T.d_Stand_turns_of ["self", "name"] [] := F_Stand_turns_of.bindsN fun _ _ _ _ _ _ us hl => match us, hl with | [_, _], _ => rfl
  refine fnX_ok T.F_Stand_settle sc_Stand_settle len (fun cdv A outer s H E xc hr => ?_) hT
  exact (dss_cons (ds_expr (d_methX T.cl_Stand T.me_Stand_place_of Gx_Stand_place_of (hr.mono (by decide)) b_Stand_place_of (dv 0) (da_cons (dv 1) da_nil)))
 (dss_cons (ds_if (dt_ge (d_len rfl T.b_len (da_cons (d_fld T.cl_Stand T.na_Stand_places (dv 0)) da_nil)) (d_globI rfl T.c_MOST_STANDS)) (dss_one (ds_raise0 T.x_Full rfl G_Full___init__ (hr.mono (by decide)) b_Full___init__ rfl T.m_Full))
 dss_nil)
 (dss_one (ds_expr (d_append (d_fld T.cl_Stand T.na_Stand_places (dv 0)) (d_tup (da_cons (dv 1) (da_cons (d_add (d_meth T.cl_Stand T.me_Stand_turns_of G_Stand_turns_of (hr.mono (by decide)) b_Stand_turns_of (dv 0) (da_cons (dv 1) da_nil)) d_int) da_nil))))))))
theorem ok_Stand_put_aside (T : Txt K mg) (Gx_Stand_check_hand : FnX P w K mg base 3 T.f_Stand_check_hand T.d_Stand_check_hand ["self", "name"] spx_Stand_check_hand) (G_Stand_check_hand : FnD P w K mg base 3 T.f_Stand_check_hand T.d_Stand_check_hand ["self", "name"] sp_Stand_check_hand) (G_Aside___init__ : FnOk P w K mg base CX0 1 T.f_Aside___init__ T.d_Aside___init__ ["self"] (spEx K (He.ga K "Aside") "Aside")) {spO : SpX} (len : ∀ ds e Q E, spO ds e Q E → ds.length = 2) (hT : ∀ ds e Q E, spO ds e Q E → t_Stand_put_aside (outX E) (endsD Q) (startD nm_Stand_put_aside ds) e) : FnX P w K mg base 4 T.f_Stand_put_aside T.d_Stand_put_aside ["self", "hand"] spO := by
  have F_Stand_check_hand := T.F_Stand_check_hand
  have b_Stand_check_hand : Binds K T.d_Stand_check_hand ["self", "name"] [] := F_Stand_check_hand.bindsN fun _ _ _ _ _ _ us hl => match us, hl with | [_, _], _ => rfl
  have F_Aside___init__ := T.F_Aside___init__
  have b_Aside___init__ : Binds K T.d_Aside___init__ ["self"] [] := F_Aside___init__.bindsN fun _ _ _ _ _ _ us hl => match us, hl with | [_], _ => rfl
  refine fnX_ok T.F_Stand_put_aside sc_Stand_put_aside len (fun cdv A outer s H E xc hr => ?_) hT
  exact (dss_cons (ds_expr (d_methX T.cl_Stand T.me_Stand_check_hand Gx_Stand_check_hand (hr.mono (by decide)) b_Stand_check_hand (dv 0) (da_cons (dv 1) da_nil)))
 (dss_cons (ds_if (dt_not (dt_tru (d_ix hr.units (d_fld T.cl_Stand T.na_Stand_heeded (dv 0)) (dv 1)))) (dss_one (ds_raise0 T.x_Aside rfl G_Aside___init__ (hr.mono (by decide)) b_Aside___init__ rfl T.m_Aside))
 dss_nil)
 (dss_one (ds_sto hr.units (d_fld T.cl_Stand T.na_Stand_heeded (dv 0)) (dv 1) d_bl))))
theorem ok_Stand_heed (T : Txt K mg) (Gx_Stand_check_hand : FnX P w K mg base 3 T.f_Stand_check_hand T.d_Stand_check_hand ["self", "name"] spx_Stand_check_hand) (G_Stand_check_hand : FnD P w K mg base 3 T.f_Stand_check_hand T.d_Stand_check_hand ["self", "name"] sp_Stand_check_hand) (G_NotAside___init__ : FnOk P w K mg base CX0 1 T.f_NotAside___init__ T.d_NotAside___init__ ["self"] (spEx K (He.ga K "NotAside") "NotAside")) {spO : SpX} (len : ∀ ds e Q E, spO ds e Q E → ds.length = 2) (hT : ∀ ds e Q E, spO ds e Q E → t_Stand_heed (outX E) (endsD Q) (startD nm_Stand_heed ds) e) : FnX P w K mg base 4 T.f_Stand_heed T.d_Stand_heed ["self", "hand"] spO := by
  have F_Stand_check_hand := T.F_Stand_check_hand
  have b_Stand_check_hand : Binds K T.d_Stand_check_hand ["self", "name"] [] := F_Stand_check_hand.bindsN fun _ _ _ _ _ _ us hl => match us, hl with | [_, _], _ => rfl
  have F_NotAside___init__ := T.F_NotAside___init__
  have b_NotAside___init__ : Binds K T.d_NotAside___init__ ["self"] [] := F_NotAside___init__.bindsN fun _ _ _ _ _ _ us hl => match us, hl with | [_], _ => rfl
  refine fnX_ok T.F_Stand_heed sc_Stand_heed len (fun cdv A outer s H E xc hr => ?_) hT
  exact (dss_cons (ds_expr (d_methX T.cl_Stand T.me_Stand_check_hand Gx_Stand_check_hand (hr.mono (by decide)) b_Stand_check_hand (dv 0) (da_cons (dv 1) da_nil)))
 (dss_cons (ds_if (dt_tru (d_ix hr.units (d_fld T.cl_Stand T.na_Stand_heeded (dv 0)) (dv 1))) (dss_one (ds_raise0 T.x_NotAside rfl G_NotAside___init__ (hr.mono (by decide)) b_NotAside___init__ rfl T.m_NotAside))
 dss_nil)
 (dss_one (ds_sto hr.units (d_fld T.cl_Stand T.na_Stand_heeded (dv 0)) (dv 1) d_bl))))
theorem ok_Stand_allow (T : Txt K mg) (G_BadNumber___init__ : FnOk P w K mg base CX0 1 T.f_BadNumber___init__ T.d_BadNumber___init__ ["self"] (spEx K (He.ga K "BadNumber") "BadNumber")) {spO : SpX} (len : ∀ ds e Q E, spO ds e Q E → ds.length = 2) (hT : ∀ ds e Q E, spO ds e Q E → t_Stand_allow (outX E) (endsD Q) (startD nm_Stand_allow ds) e) : FnX P w K mg base 3 T.f_Stand_allow T.d_Stand_allow ["self", "many"] spO := by
  have F_BadNumber___init__ := T.F_BadNumber___init__
  have b_BadNumber___init__ : Binds K T.d_BadNumber___init__ ["self"] [] := F_BadNumber___init__.bindsN fun _ _ _ _ _ _ us hl => match us, hl with | [_], _ => rfl
  refine fnX_ok T.F_Stand_allow sc_Stand_allow len (fun cdv A outer s H E xc hr => ?_) hT
  exact (dss_cons (ds_if (dt_not (dt_lele d_int (dv 1) (d_globI rfl T.c_MOST_FALSE))) (dss_one (ds_raise0 T.x_BadNumber rfl G_BadNumber___init__ (hr.mono (by decide)) b_BadNumber___init__ rfl T.m_BadNumber))
 dss_nil)
 (dss_one (ds_setF T.cl_Stand T.na_Stand_many (dv 0) (dv 1))))
theorem ok_Stand_hand_names (T : Txt K mg) {spO : SpD} (len : ∀ ds e Q, spO ds e Q → ds.length = 1) (hT : ∀ ds e Q, spO ds e Q → t_Stand_hand_names (endsD Q) (startD nm_Stand_hand_names ds) e) : FnD P w K mg base 1 T.f_Stand_hand_names T.d_Stand_hand_names ["self"] spO := by
  refine fnD_ok T.F_Stand_hand_names sc_Stand_hand_names len (fun cdv A outer s H E hr => ?_) hT
  exact (dss_one (ds_ret (d_list true rfl rfl T.b_list (da_cons (d_fld T.cl_Stand T.na_Stand_heeded (dv 0)) da_nil))))
theorem ok_Stand_counted (T : Txt K mg) {spO : SpD} (len : ∀ ds e Q, spO ds e Q → ds.length = 1) (hT : ∀ ds e Q, spO ds e Q → t_Stand_counted (endsD Q) (startD nm_Stand_counted ds) e) : FnD P w K mg base 1 T.f_Stand_counted T.d_Stand_counted ["self"] spO := by
  refine fnD_ok T.F_Stand_counted sc_Stand_counted len (fun cdv A outer s H E hr => ?_) hT
  exact (dss_one (ds_ret (d_comp false (own := [("row", 1)]) rfl sc_Stand_counted.nd (di_seq (d_fld T.cl_Stand T.na_Stand_rows (dv 0))) (blkOk_by (own := [("row", 1)]) (N := nm_Stand_counted) (sc := defScope st_Stand_counted) (by decide +kernel)) (by decide) (fun _ _ _ _ _ => (gt_one sc_Stand_counted.nd rfl (by first | exact Or.inl rfl | exact Or.inr rfl))) (fun _ _ _ _ _ => dts_one (dt_tru (d_ix hr.units (d_fld T.cl_Stand T.na_Stand_heeded (dv 0)) (d_ix hr.units (dv 1) d_int)))) (fun _ _ _ _ _ => (dv 1)))))
theorem ok_done_by (T : Txt K mg) (Gx_Stand_put_mark : FnX P w K mg base 4 T.f_Stand_put_mark T.d_Stand_put_mark ["self", "name"] spx_Stand_put_mark) (G_Stand_put_mark : FnD P w K mg base 4 T.f_Stand_put_mark T.d_Stand_put_mark ["self", "name"] sp_Stand_put_mark) (Gx_Stand_put_hand : FnX P w K mg base 4 T.f_Stand_put_hand T.d_Stand_put_hand ["self", "name"] spx_Stand_put_hand) (G_Stand_put_hand : FnD P w K mg base 4 T.f_Stand_put_hand T.d_Stand_put_hand ["self", "name"] sp_Stand_put_hand) (Gx_Stand_put_run : FnX P w K mg base 4 T.f_Stand_put_run T.d_Stand_put_run ["self", "one", "other", "rise", "hand"] spx_Stand_put_run) (G_Stand_put_run : FnD P w K mg base 4 T.f_Stand_put_run T.d_Stand_put_run ["self", "one", "other", "rise", "hand"] sp_Stand_put_run) (Gx_Stand_end_run : FnX P w K mg base 4 T.f_Stand_end_run T.d_Stand_end_run ["self", "number"] spx_Stand_end_run) (G_Stand_end_run : FnD P w K mg base 4 T.f_Stand_end_run T.d_Stand_end_run ["self", "number"] sp_Stand_end_run) (Gx_Stand_mend_run : FnX P w K mg base 4 T.f_Stand_mend_run T.d_Stand_mend_run ["self", "number", "rise"] spx_Stand_mend_run) (G_Stand_mend_run : FnD P w K mg base 4 T.f_Stand_mend_run T.d_Stand_mend_run ["self", "number", "rise"] sp_Stand_mend_run) (Gx_Stand_settle : FnX P w K mg base 4 T.f_Stand_settle T.d_Stand_settle ["self", "name"] spx_Stand_settle) (G_Stand_settle : FnD P w K mg base 4 T.f_Stand_settle T.d_Stand_settle ["self", "name"] sp_Stand_settle) (Gx_Stand_put_aside : FnX P w K mg base 4 T.f_Stand_put_aside T.d_Stand_put_aside ["self", "hand"] spx_Stand_put_aside) (G_Stand_put_aside : FnD P w K mg base 4 T.f_Stand_put_aside T.d_Stand_put_aside ["self", "hand"] sp_Stand_put_aside) (Gx_Stand_heed : FnX P w K mg base 4 T.f_Stand_heed T.d_Stand_heed ["self", "hand"] spx_Stand_heed) (G_Stand_heed : FnD P w K mg base 4 T.f_Stand_heed T.d_Stand_heed ["self", "hand"] sp_Stand_heed) (Gx_Stand_allow : FnX P w K mg base 3 T.f_Stand_allow T.d_Stand_allow ["self", "many"] spx_Stand_allow) (G_Stand_allow : FnD P w K mg base 3 T.f_Stand_allow T.d_Stand_allow ["self", "many"] sp_Stand_allow) {spO : SpX} (len : ∀ ds e Q E, spO ds e Q E → ds.length = 2) (hT : ∀ ds e Q E, spO ds e Q E → t_done_by (outX E) (endsD Q) (startD nm_done_by ds) e) : FnX P w K mg base 5 T.f_done_by T.d_done_by ["stand", "row"] spO := by
  have F_Stand_put_mark := T.F_Stand_put_mark
  have b_Stand_put_mark : Binds K T.d_Stand_put_mark ["self", "name"] [] := F_Stand_put_mark.bindsN fun _ _ _ _ _ _ us hl => match us, hl with | [_, _], _ => rfl
  have F_Stand_put_hand := T.F_Stand_put_hand
  have b_Stand_put_hand : Binds K T.d_Stand_put_hand ["self", "name"] [] := F_Stand_put_hand.bindsN fun _ _ _ _ _ _ us hl => match us, hl with | [_, _], _ => rfl
  have F_Stand_put_run := T.F_Stand_put_run
  have b_Stand_put_run : Binds K T.d_Stand_put_run ["self", "one", "other", "rise", "hand"] [] := F_Stand_put_run.bindsN fun _ _ _ _ _ _ us hl => match us, hl with | [_, _, _, _, _], _ => rfl
  have F_Stand_end_run := T.F_Stand_end_run
  have b_Stand_end_run : Binds K T.d_Stand_end_run ["self", "number"] [] := F_Stand_end_run.bindsN fun _ _ _ _ _ _ us hl => match us, hl with | [_, _], _ => rfl
  have F_Stand_mend_run := T.F_Stand_mend_run
  have b_Stand_mend_run : Binds K T.d_Stand_mend_run ["self", "number", "rise"] [] := F_Stand_mend_run.bindsN fun _ _ _ _ _ _ us hl => match us, hl with | [_, _, _], _ => rfl
  have F_Stand_settle := T.F_Stand_settle
  have b_Stand_settle : Binds K T.d_Stand_settle ["self", "name"] [] := F_Stand_settle.bindsN fun _ _ _ _ _ _ us hl => match us, hl with | [_, _], _ => rfl
  have F_Stand_put_aside := T.F_Stand_put_aside
  have b_Stand_put_aside : Binds K T.d_Stand_put_aside ["self", "hand"] [] := F_Stand_put_aside.bindsN fun _ _ _ _ _ _ us hl => match us, hl with | [_, _], _ => rfl
  have F_Stand_heed := T.F_Stand_heed
  have b_Stand_heed : Binds K T.d_Stand_heed ["self", "hand"] [] := F_Stand_heed.bindsN fun _ _ _ _ _ _ us hl => match us, hl with | [_, _], _ => rfl
  have F_Stand_allow := T.F_Stand_allow
  have b_Stand_allow : Binds K T.d_Stand_allow ["self", "many"] [] := F_Stand_allow.bindsN fun _ _ _ _ _ _ us hl => match us, hl with | [_, _], _ => rfl
  refine fnX_ok T.F_done_by sc_done_by len (fun cdv A outer s H E xc hr => ?_) hT
  exact (dss_cons (ds_set (i := 2) sc_done_by.nd rfl (by first | exact Or.inl rfl | exact Or.inr rfl) (d_ix hr.units (dv 1) d_int))
 (dss_cons (ds_if (dt_eq hr.units (dv 2) d_str) (dss_one (ds_ret (d_methX T.cl_Stand T.me_Stand_put_mark Gx_Stand_put_mark (hr.mono (by decide)) b_Stand_put_mark (dv 0) (da_cons (d_ix hr.units (dv 1) d_int) da_nil))))
 dss_nil)
 (dss_cons (ds_if (dt_eq hr.units (dv 2) d_str) (dss_one (ds_ret (d_methX T.cl_Stand T.me_Stand_put_hand Gx_Stand_put_hand (hr.mono (by decide)) b_Stand_put_hand (dv 0) (da_cons (d_ix hr.units (dv 1) d_int) da_nil))))
 dss_nil)
 (dss_cons (ds_if (dt_eq hr.units (dv 2) d_str) (dss_one (ds_ret (d_methX T.cl_Stand T.me_Stand_put_run Gx_Stand_put_run (hr.mono (by decide)) b_Stand_put_run (dv 0) (da_cons (d_ix hr.units (dv 1) d_int) (da_cons (d_ix hr.units (dv 1) d_int) (da_cons (d_ix hr.units (dv 1) d_int) (da_cons (d_ix hr.units (dv 1) d_int) da_nil)))))))
 dss_nil)
 (dss_cons (ds_if (dt_eq hr.units (dv 2) d_str) (dss_one (ds_ret (d_methX T.cl_Stand T.me_Stand_end_run Gx_Stand_end_run (hr.mono (by decide)) b_Stand_end_run (dv 0) (da_cons (d_ix hr.units (dv 1) d_int) da_nil))))
 dss_nil)
 (dss_cons (ds_if (dt_eq hr.units (dv 2) d_str) (dss_one (ds_ret (d_methX T.cl_Stand T.me_Stand_mend_run Gx_Stand_mend_run (hr.mono (by decide)) b_Stand_mend_run (dv 0) (da_cons (d_ix hr.units (dv 1) d_int) (da_cons (d_ix hr.units (dv 1) d_int) da_nil)))))
 dss_nil)
 (dss_cons (ds_if (dt_eq hr.units (dv 2) d_str) (dss_one (ds_ret (d_methX T.cl_Stand T.me_Stand_settle Gx_Stand_settle (hr.mono (by decide)) b_Stand_settle (dv 0) (da_cons (d_ix hr.units (dv 1) d_int) da_nil))))
 dss_nil)
 (dss_cons (ds_if (dt_eq hr.units (dv 2) d_str) (dss_one (ds_ret (d_methX T.cl_Stand T.me_Stand_put_aside Gx_Stand_put_aside (hr.mono (by decide)) b_Stand_put_aside (dv 0) (da_cons (d_ix hr.units (dv 1) d_int) da_nil))))
 dss_nil)
 (dss_cons (ds_if (dt_eq hr.units (dv 2) d_str) (dss_one (ds_ret (d_methX T.cl_Stand T.me_Stand_heed Gx_Stand_heed (hr.mono (by decide)) b_Stand_heed (dv 0) (da_cons (d_ix hr.units (dv 1) d_int) da_nil))))
 dss_nil)
 (dss_one (ds_ret (d_methX T.cl_Stand T.me_Stand_allow Gx_Stand_allow (hr.mono (by decide)) b_Stand_allow (dv 0) (da_cons (d_ix hr.units (dv 1) d_int) da_nil)))))))))))))
theorem ok_Fen___init__ (T : Txt K mg) (G_Stand___init__ : FnD P w K mg base 1 T.f_Stand___init__ T.d_Stand___init__ ["self"] sp_Stand___init__) {spO : SpD} (len : ∀ ds e Q, spO ds e Q → ds.length = 1) (hT : ∀ ds e Q, spO ds e Q → t_Fen___init__ (endsD Q) (startD nm_Fen___init__ ds) e) : FnD P w K mg base 3 T.f_Fen___init__ T.d_Fen___init__ ["self"] spO := by
  have F_Stand___init__ := T.F_Stand___init__
  have b_Stand___init__ : Binds K T.d_Stand___init__ ["self"] [] := F_Stand___init__.bindsN fun _ _ _ _ _ _ us hl => match us, hl with | [_], _ => rfl
  refine fnD_ok T.F_Fen___init__ sc_Fen___init__ len (fun cdv A outer s H E hr => ?_) hT
  exact (dss_cons (ds_setF T.cl_Fen T.na_Fen_kept (dv 0) (d_lstC (da_cons (d_view (d_make0 T.mk_Stand G_Stand___init__ (hr.mono (by decide)) rfl T.m_Stand b_Stand___init__)) da_nil)))
 (dss_cons (ds_setF T.cl_Fen T.na_Fen_done (dv 0) (d_lstC da_nil))
 (dss_one (ds_setF T.cl_Fen T.na_Fen_undone (dv 0) (d_lstC da_nil)))))
theorem ok_Fen_now (T : Txt K mg) {spO : SpD} (len : ∀ ds e Q, spO ds e Q → ds.length = 1) (hT : ∀ ds e Q, spO ds e Q → t_Fen_now (endsD Q) (startD nm_Fen_now ds) e) : FnD P w K mg base 1 T.f_Fen_now T.d_Fen_now ["self"] spO := by
  refine fnD_ok T.F_Fen_now sc_Fen_now len (fun cdv A outer s H E hr => ?_) hT
  exact (dss_one (ds_ret (d_ix hr.units (d_fld T.cl_Fen T.na_Fen_kept (dv 0)) (d_neg d_int))))
theorem ok_Fen_deed (T : Txt K mg) (G_Fen_now : FnD P w K mg base 1 T.f_Fen_now T.d_Fen_now ["self"] sp_Fen_now) (G_Stand_like : FnD P w K mg base 3 T.f_Stand_like T.d_Stand_like ["self"] sp_Stand_like) (Gx_done_by : FnX P w K mg base 5 T.f_done_by T.d_done_by ["stand", "row"] spx_done_by) (G_done_by : FnD P w K mg base 5 T.f_done_by T.d_done_by ["stand", "row"] sp_done_by) {spO : SpX} (len : ∀ ds e Q E, spO ds e Q E → ds.length = 2) (hT : ∀ ds e Q E, spO ds e Q E → t_Fen_deed (outX E) (endsD Q) (startD nm_Fen_deed ds) e) : FnX P w K mg base 6 T.f_Fen_deed T.d_Fen_deed ["self", "row"] spO := by
  have F_Fen_now := T.F_Fen_now
  have b_Fen_now : Binds K T.d_Fen_now ["self"] [] := F_Fen_now.bindsN fun _ _ _ _ _ _ us hl => match us, hl with | [_], _ => rfl
  have F_Stand_like := T.F_Stand_like
  have b_Stand_like : Binds K T.d_Stand_like ["self"] [] := F_Stand_like.bindsN fun _ _ _ _ _ _ us hl => match us, hl with | [_], _ => rfl
  have F_done_by := T.F_done_by
  have b_done_by : Binds K T.d_done_by ["stand", "row"] [] := F_done_by.bindsN fun _ _ _ _ _ _ us hl => match us, hl with | [_, _], _ => rfl
  refine fnX_ok T.F_Fen_deed sc_Fen_deed len (fun cdv A outer s H E xc hr => ?_) hT
  exact (dss_cons (ds_set (i := 2) sc_Fen_deed.nd rfl (by first | exact Or.inl rfl | exact Or.inr rfl) (d_meth0 T.cl_Stand T.me_Stand_like G_Stand_like (hr.mono (by decide)) b_Stand_like (d_meth0 T.cl_Fen T.me_Fen_now G_Fen_now (hr.mono (by decide)) b_Fen_now (dv 0))))
 (dss_cons (ds_set (i := 3) sc_Fen_deed.nd rfl (by first | exact Or.inl rfl | exact Or.inr rfl) (d_callX Gx_done_by (hr.mono (by decide)) rfl T.m_done_by F_done_by.kp b_done_by (da_cons (dv 2) (da_cons (dv 1) da_nil))))
 (dss_view (dss_cons (ds_expr (d_append (d_fld T.cl_Fen T.na_Fen_kept (dv 0)) (dv 2)))
 (dss_cons (ds_expr (d_append (d_fld T.cl_Fen T.na_Fen_done (dv 0)) (dv 1)))
 (dss_cons (ds_setF T.cl_Fen T.na_Fen_undone (dv 0) (d_lstC da_nil))
 (dss_one (ds_ret (dv 3)))))))))
theorem ok_Fen_strike (T : Txt K mg) (Gx_Fen_deed : FnX P w K mg base 6 T.f_Fen_deed T.d_Fen_deed ["self", "row"] spx_Fen_deed) (G_Fen_deed : FnD P w K mg base 6 T.f_Fen_deed T.d_Fen_deed ["self", "row"] sp_Fen_deed) {spO : SpX} (len : ∀ ds e Q E, spO ds e Q E → ds.length = 2) (hT : ∀ ds e Q E, spO ds e Q E → t_Fen_strike (outX E) (endsD Q) (startD nm_Fen_strike ds) e) : FnX P w K mg base 7 T.f_Fen_strike T.d_Fen_strike ["self", "number"] spO := by
  have F_Fen_deed := T.F_Fen_deed
  have b_Fen_deed : Binds K T.d_Fen_deed ["self", "row"] [] := F_Fen_deed.bindsN fun _ _ _ _ _ _ us hl => match us, hl with | [_, _], _ => rfl
  refine fnX_ok T.F_Fen_strike sc_Fen_strike len (fun cdv A outer s H E xc hr => ?_) hT
  exact (dss_one (ds_ret (d_methX T.cl_Fen T.me_Fen_deed Gx_Fen_deed (hr.mono (by decide)) b_Fen_deed (dv 0) (da_cons (d_tup (da_cons d_str (da_cons (dv 1) da_nil))) da_nil))))
theorem ok_Fen_mend (T : Txt K mg) (Gx_Fen_deed : FnX P w K mg base 6 T.f_Fen_deed T.d_Fen_deed ["self", "row"] spx_Fen_deed) (G_Fen_deed : FnD P w K mg base 6 T.f_Fen_deed T.d_Fen_deed ["self", "row"] sp_Fen_deed) {spO : SpX} (len : ∀ ds e Q E, spO ds e Q E → ds.length = 3) (hT : ∀ ds e Q E, spO ds e Q E → t_Fen_mend (outX E) (endsD Q) (startD nm_Fen_mend ds) e) : FnX P w K mg base 7 T.f_Fen_mend T.d_Fen_mend ["self", "number", "rise"] spO := by
  have F_Fen_deed := T.F_Fen_deed
  have b_Fen_deed : Binds K T.d_Fen_deed ["self", "row"] [] := F_Fen_deed.bindsN fun _ _ _ _ _ _ us hl => match us, hl with | [_, _], _ => rfl
  refine fnX_ok T.F_Fen_mend sc_Fen_mend len (fun cdv A outer s H E xc hr => ?_) hT
  exact (dss_one (ds_ret (d_methX T.cl_Fen T.me_Fen_deed Gx_Fen_deed (hr.mono (by decide)) b_Fen_deed (dv 0) (da_cons (d_tup (da_cons d_str (da_cons (dv 1) (da_cons (dv 2) da_nil)))) da_nil))))
theorem ok_Fen_back (T : Txt K mg) (G_NothingLeft___init__ : FnOk P w K mg base CX0 1 T.f_NothingLeft___init__ T.d_NothingLeft___init__ ["self"] (spEx K (He.ga K "NothingLeft") "NothingLeft")) {spO : SpX} (len : ∀ ds e Q E, spO ds e Q E → ds.length = 1) (hT : ∀ ds e Q E, spO ds e Q E → t_Fen_back (outX E) (endsD Q) (startD nm_Fen_back ds) e) : FnX P w K mg base 3 T.f_Fen_back T.d_Fen_back ["self"] spO := by
  have F_NothingLeft___init__ := T.F_NothingLeft___init__
  have b_NothingLeft___init__ : Binds K T.d_NothingLeft___init__ ["self"] [] := F_NothingLeft___init__.bindsN fun _ _ _ _ _ _ us hl => match us, hl with | [_], _ => rfl
  refine fnX_ok T.F_Fen_back sc_Fen_back len (fun cdv A outer s H E xc hr => ?_) hT
  exact (dss_cons (ds_if (dt_eq hr.units (d_fld T.cl_Fen T.na_Fen_done (dv 0)) (d_lst da_nil)) (dss_one (ds_raise0 T.x_NothingLeft rfl G_NothingLeft___init__ (hr.mono (by decide)) b_NothingLeft___init__ rfl T.m_NothingLeft))
 dss_nil)
 (dss_one (ds_expr (d_append (d_fld T.cl_Fen T.na_Fen_undone (dv 0)) (d_tup (da_cons (d_popL (d_fld T.cl_Fen T.na_Fen_done (dv 0))) (da_cons (d_popL (d_fld T.cl_Fen T.na_Fen_kept (dv 0))) da_nil)))))))
theorem ok_Fen_deeds (T : Txt K mg) {spO : SpD} (len : ∀ ds e Q, spO ds e Q → ds.length = 1) (hT : ∀ ds e Q, spO ds e Q → t_Fen_deeds (endsD Q) (startD nm_Fen_deeds ds) e) : FnD P w K mg base 1 T.f_Fen_deeds T.d_Fen_deeds ["self"] spO := by
  refine fnD_ok T.F_Fen_deeds sc_Fen_deeds len (fun cdv A outer s H E hr => ?_) hT
  exact (dss_one (ds_ret (d_list false rfl rfl T.b_list (da_cons (d_fld T.cl_Fen T.na_Fen_done (dv 0)) da_nil))))
theorem ok_Fen_marks (T : Txt K mg) (G_Fen_now : FnD P w K mg base 1 T.f_Fen_now T.d_Fen_now ["self"] sp_Fen_now) (G_Stand_mark_names : FnD P w K mg base 1 T.f_Stand_mark_names T.d_Stand_mark_names ["self"] sp_Stand_mark_names) {spO : SpD} (len : ∀ ds e Q, spO ds e Q → ds.length = 1) (hT : ∀ ds e Q, spO ds e Q → t_Fen_marks (endsD Q) (startD nm_Fen_marks ds) e) : FnD P w K mg base 2 T.f_Fen_marks T.d_Fen_marks ["self"] spO := by
  have F_Fen_now := T.F_Fen_now
  have b_Fen_now : Binds K T.d_Fen_now ["self"] [] := F_Fen_now.bindsN fun _ _ _ _ _ _ us hl => match us, hl with | [_], _ => rfl
  have F_Stand_mark_names := T.F_Stand_mark_names
  have b_Stand_mark_names : Binds K T.d_Stand_mark_names ["self"] [] := F_Stand_mark_names.bindsN fun _ _ _ _ _ _ us hl => match us, hl with | [_], _ => rfl
  refine fnD_ok T.F_Fen_marks sc_Fen_marks len (fun cdv A outer s H E hr => ?_) hT
  exact (dss_one (ds_ret (d_meth0 T.cl_Stand T.me_Stand_mark_names G_Stand_mark_names (hr.mono (by decide)) b_Stand_mark_names (d_meth0 T.cl_Fen T.me_Fen_now G_Fen_now (hr.mono (by decide)) b_Fen_now (dv 0)))))
theorem ok_Fen_hands (T : Txt K mg) (G_Fen_now : FnD P w K mg base 1 T.f_Fen_now T.d_Fen_now ["self"] sp_Fen_now) (Gc_Stand_hand_names : FnD P w K mg base 1 T.f_Stand_hand_names T.d_Stand_hand_names ["self"] spc_Stand_hand_names) (G_Stand_hand_names : FnD P w K mg base 1 T.f_Stand_hand_names T.d_Stand_hand_names ["self"] sp_Stand_hand_names) {spO : SpD} (len : ∀ ds e Q, spO ds e Q → ds.length = 1) (hT : ∀ ds e Q, spO ds e Q → t_Fen_hands (endsD Q) (startD nm_Fen_hands ds) e) : FnD P w K mg base 2 T.f_Fen_hands T.d_Fen_hands ["self"] spO := by
  have F_Fen_now := T.F_Fen_now
  have b_Fen_now : Binds K T.d_Fen_now ["self"] [] := F_Fen_now.bindsN fun _ _ _ _ _ _ us hl => match us, hl with | [_], _ => rfl
  have F_Stand_hand_names := T.F_Stand_hand_names
  have b_Stand_hand_names : Binds K T.d_Stand_hand_names ["self"] [] := F_Stand_hand_names.bindsN fun _ _ _ _ _ _ us hl => match us, hl with | [_], _ => rfl
  refine fnD_ok T.F_Fen_hands sc_Fen_hands len (fun cdv A outer s H E hr => ?_) hT
  exact (dss_one (ds_ret (d_meth0 T.cl_Stand T.me_Stand_hand_names G_Stand_hand_names (hr.mono (by decide)) b_Stand_hand_names (d_meth0 T.cl_Fen T.me_Fen_now G_Fen_now (hr.mono (by decide)) b_Fen_now (dv 0)))))
theorem ok_Fen_asides (T : Txt K mg) (G_Fen_now : FnD P w K mg base 1 T.f_Fen_now T.d_Fen_now ["self"] sp_Fen_now) (Gc_Stand_hand_names : FnD P w K mg base 1 T.f_Stand_hand_names T.d_Stand_hand_names ["self"] spc_Stand_hand_names) (G_Stand_hand_names : FnD P w K mg base 1 T.f_Stand_hand_names T.d_Stand_hand_names ["self"] sp_Stand_hand_names) {spO : SpD} (len : ∀ ds e Q, spO ds e Q → ds.length = 1) (hT : ∀ ds e Q, spO ds e Q → t_Fen_asides (endsD Q) (startD nm_Fen_asides ds) e) : FnD P w K mg base 2 T.f_Fen_asides T.d_Fen_asides ["self"] spO := by
  have F_Fen_now := T.F_Fen_now
  have b_Fen_now : Binds K T.d_Fen_now ["self"] [] := F_Fen_now.bindsN fun _ _ _ _ _ _ us hl => match us, hl with | [_], _ => rfl
  have F_Stand_hand_names := T.F_Stand_hand_names
  have b_Stand_hand_names : Binds K T.d_Stand_hand_names ["self"] [] := F_Stand_hand_names.bindsN fun _ _ _ _ _ _ us hl => match us, hl with | [_], _ => rfl
  refine fnD_ok T.F_Fen_asides sc_Fen_asides len (fun cdv A outer s H E hr => ?_) hT
  exact (dss_one (ds_ret (d_comp false (own := [("hand", 1)]) rfl sc_Fen_asides.nd (di_seq (d_meth0 T.cl_Stand T.me_Stand_hand_names G_Stand_hand_names (hr.mono (by decide)) b_Stand_hand_names (d_meth0 T.cl_Fen T.me_Fen_now G_Fen_now (hr.mono (by decide)) b_Fen_now (dv 0)))) (blkOk_by (own := [("hand", 1)]) (N := nm_Fen_asides) (sc := defScope st_Fen_asides) (by decide +kernel)) (by decide) (fun _ _ _ _ _ => (gt_one sc_Fen_asides.nd rfl (by first | exact Or.inl rfl | exact Or.inr rfl))) (fun _ _ _ _ _ => dts_one (dt_not (dt_tru (d_ix hr.units (d_fld T.cl_Stand T.na_Stand_heeded (d_meth0 T.cl_Fen T.me_Fen_now G_Fen_now (hr.mono (by decide)) b_Fen_now (dv 0))) (dv 1))))) (fun _ _ _ _ _ => (dv 1)))))
theorem ok_Fen_stands (T : Txt K mg) (G_Fen_now : FnD P w K mg base 1 T.f_Fen_now T.d_Fen_now ["self"] sp_Fen_now) {spO : SpD} (len : ∀ ds e Q, spO ds e Q → ds.length = 1) (hT : ∀ ds e Q, spO ds e Q → t_Fen_stands (endsD Q) (startD nm_Fen_stands ds) e) : FnD P w K mg base 2 T.f_Fen_stands T.d_Fen_stands ["self"] spO := by
  have F_Fen_now := T.F_Fen_now
  have b_Fen_now : Binds K T.d_Fen_now ["self"] [] := F_Fen_now.bindsN fun _ _ _ _ _ _ us hl => match us, hl with | [_], _ => rfl
  refine fnD_ok T.F_Fen_stands sc_Fen_stands len (fun cdv A outer s H E hr => ?_) hT
  exact (dss_one (ds_ret (d_list false rfl rfl T.b_list (da_cons (d_fld T.cl_Stand T.na_Stand_places (d_meth0 T.cl_Fen T.me_Fen_now G_Fen_now (hr.mono (by decide)) b_Fen_now (dv 0))) da_nil))))
theorem ok_Fen_allowed (T : Txt K mg) (G_Fen_now : FnD P w K mg base 1 T.f_Fen_now T.d_Fen_now ["self"] sp_Fen_now) {spO : SpD} (len : ∀ ds e Q, spO ds e Q → ds.length = 1) (hT : ∀ ds e Q, spO ds e Q → t_Fen_allowed (endsD Q) (startD nm_Fen_allowed ds) e) : FnD P w K mg base 2 T.f_Fen_allowed T.d_Fen_allowed ["self"] spO := by
  have F_Fen_now := T.F_Fen_now
  have b_Fen_now : Binds K T.d_Fen_now ["self"] [] := F_Fen_now.bindsN fun _ _ _ _ _ _ us hl => match us, hl with | [_], _ => rfl
  refine fnD_ok T.F_Fen_allowed sc_Fen_allowed len (fun cdv A outer s H E hr => ?_) hT
  exact (dss_one (ds_ret (d_fld T.cl_Stand T.na_Stand_many (d_meth0 T.cl_Fen T.me_Fen_now G_Fen_now (hr.mono (by decide)) b_Fen_now (dv 0)))))
theorem ok_Fen_runs (T : Txt K mg) (G_Fen_now : FnD P w K mg base 1 T.f_Fen_now T.d_Fen_now ["self"] sp_Fen_now) {spO : SpD} (len : ∀ ds e Q, spO ds e Q → ds.length = 1) (hT : ∀ ds e Q, spO ds e Q → t_Fen_runs (endsD Q) (startD nm_Fen_runs ds) e) : FnD P w K mg base 2 T.f_Fen_runs T.d_Fen_runs ["self"] spO := by
  have F_Fen_now := T.F_Fen_now
  have b_Fen_now : Binds K T.d_Fen_now ["self"] [] := F_Fen_now.bindsN fun _ _ _ _ _ _ us hl => match us, hl with | [_], _ => rfl
  refine fnD_ok T.F_Fen_runs sc_Fen_runs len (fun cdv A outer s H E hr => ?_) hT
  exact (dss_cons (ds_set (i := 1) sc_Fen_runs.nd rfl (by first | exact Or.inl rfl | exact Or.inr rfl) (d_fld T.cl_Stand T.na_Stand_places (d_meth0 T.cl_Fen T.me_Fen_now G_Fen_now (hr.mono (by decide)) b_Fen_now (dv 0))))
 (dss_one (ds_ret (d_comp false (own := [("row", 2)]) rfl sc_Fen_runs.nd (di_seq (d_fld T.cl_Stand T.na_Stand_rows (d_meth0 T.cl_Fen T.me_Fen_now G_Fen_now (hr.mono (by decide)) b_Fen_now (dv 0)))) (blkOk_by (own := [("row", 2)]) (N := nm_Fen_runs) (sc := defScope st_Fen_runs) (by decide +kernel)) (by decide) (fun _ _ _ _ _ => (gt_one sc_Fen_runs.nd rfl (by first | exact Or.inl rfl | exact Or.inr rfl))) (fun _ _ _ _ _ => dts_nil) (fun _ _ _ _ _ => (d_add (d_add (d_add (d_tup (da_cons (d_ix hr.units (dv 2) d_int) da_nil)) (d_ix hr.units (dv 1) (d_ix hr.units (dv 2) d_int))) (d_ix hr.units (dv 1) (d_ix hr.units (dv 2) d_int))) (d_cut false (dv 2) (do_some d_int) do_none)))))))
theorem ok_Fen_counting (T : Txt K mg) (G_Fen_now : FnD P w K mg base 1 T.f_Fen_now T.d_Fen_now ["self"] sp_Fen_now) (G_Stand_counted : FnD P w K mg base 1 T.f_Stand_counted T.d_Stand_counted ["self"] sp_Stand_counted) {spO : SpD} (len : ∀ ds e Q, spO ds e Q → ds.length = 1) (hT : ∀ ds e Q, spO ds e Q → t_Fen_counting (endsD Q) (startD nm_Fen_counting ds) e) : FnD P w K mg base 2 T.f_Fen_counting T.d_Fen_counting ["self"] spO := by
  have F_Fen_now := T.F_Fen_now
  have b_Fen_now : Binds K T.d_Fen_now ["self"] [] := F_Fen_now.bindsN fun _ _ _ _ _ _ us hl => match us, hl with | [_], _ => rfl
  have F_Stand_counted := T.F_Stand_counted
  have b_Stand_counted : Binds K T.d_Stand_counted ["self"] [] := F_Stand_counted.bindsN fun _ _ _ _ _ _ us hl => match us, hl with | [_], _ => rfl
  refine fnD_ok T.F_Fen_counting sc_Fen_counting len (fun cdv A outer s H E hr => ?_) hT
  exact (dss_one (ds_ret (d_comp false (own := [("row", 1)]) rfl sc_Fen_counting.nd (di_seq (d_meth0 T.cl_Stand T.me_Stand_counted G_Stand_counted (hr.mono (by decide)) b_Stand_counted (d_meth0 T.cl_Fen T.me_Fen_now G_Fen_now (hr.mono (by decide)) b_Fen_now (dv 0)))) (blkOk_by (own := [("row", 1)]) (N := nm_Fen_counting) (sc := defScope st_Fen_counting) (by decide +kernel)) (by decide) (fun _ _ _ _ _ => (gt_one sc_Fen_counting.nd rfl (by first | exact Or.inl rfl | exact Or.inr rfl))) (fun _ _ _ _ _ => dts_nil) (fun _ _ _ _ _ => (d_ix hr.units (dv 1) d_int)))))
theorem ok_law_box (T : Txt K mg) {spO : SpD} (len : ∀ ds e Q, spO ds e Q → ds.length = 1) (hT : ∀ ds e Q, spO ds e Q → t_law_box (endsD Q) (startD nm_law_box ds) e) : FnD P w K mg base 1 T.f_law_box T.d_law_box ["_law_script"] spO := by
  refine fnD_ok T.F_law_box sc_law_box len (fun cdv A outer s H E hr => ?_) hT
  exact (dss_one (ds_ret (d_lstC (da_cons (d_list false rfl rfl T.b_list (da_cons (d_cut false (dv 0) do_none (do_some d_int)) da_nil)) (da_cons d_int (da_cons d_int (da_cons d_int da_nil)))))))
theorem ok_law_take (T : Txt K mg) {spO : SpD} (len : ∀ ds e Q, spO ds e Q → ds.length = 2) (hT : ∀ ds e Q, spO ds e Q → t_law_take (endsD Q) (startD nm_law_take ds) e) : FnD P w K mg base 1 T.f_law_take T.d_law_take ["_law_box_here", "_law_many"] spO := by
  refine fnD_ok T.F_law_take sc_law_take len (fun cdv A outer s H E hr => ?_) hT
  exact (dss_cons (ds_if (dt_gt (d_ix hr.units (dv 0) d_int) d_int) (dss_cons (ds_set (i := 4) sc_law_take.nd rfl (by first | exact Or.inl rfl | exact Or.inr rfl) (d_ix hr.units (dv 0) d_int))
 (dss_cons (ds_sto hr.units (dv 0) d_int (d_div (dv 4) (dv 1)))
 (dss_one (ds_ret (d_mod (dv 4) (dv 1))))))
 dss_nil)
 (dss_cons (ds_set (i := 2) sc_law_take.nd rfl (by first | exact Or.inl rfl | exact Or.inr rfl) d_int)
 (dss_cons (ds_if (dt_lt (d_ix hr.units (dv 0) d_int) (d_len rfl T.b_len (da_cons (d_ix hr.units (dv 0) d_int) da_nil))) (dss_cons (ds_set (i := 2) sc_law_take.nd rfl (by first | exact Or.inl rfl | exact Or.inr rfl) (d_ix hr.units (d_ix hr.units (dv 0) d_int) (d_ix hr.units (dv 0) d_int)))
 (dss_one (ds_augSAdd hr.units (dv 0) d_int d_int)))
 dss_nil)
 (dss_cons (ds_if (dt_ge (dv 2) (d_pow d_int d_int)) (dss_cons (ds_sto hr.units (dv 0) d_int (d_div (dv 2) (dv 1)))
 (dss_one (ds_ret (d_mod (dv 2) (dv 1)))))
 dss_nil)
 (dss_cons (ds_set (i := 3) sc_law_take.nd rfl (by first | exact Or.inl rfl | exact Or.inr rfl) (d_ix hr.units (dv 0) d_int))
 (dss_cons (ds_set (i := 3) sc_law_take.nd rfl (by first | exact Or.inl rfl | exact Or.inr rfl) (d_add (d_add (d_pow (dv 3) d_int) (d_mul d_int (dv 3))) (d_mul d_int (d_mod (dv 2) d_int))))
 (dss_cons (ds_sto hr.units (dv 0) d_int (d_mod (d_add (dv 3) d_int) d_int))
 (dss_one (ds_ret (d_mod (d_div (d_ix hr.units (dv 0) d_int) d_int) (dv 1)))))))))))
theorem ok_law_same_step (T : Txt K mg) {k : Nat} (hk : 1 ≤ k + 1) {spI spO : SpD} (len : ∀ ds e Q, spO ds e Q → ds.length = 2) (G_law_same : FnD P w K mg base k T.f_law_same T.d_law_same ["_law_found", "_law_due_here"] spI) (hT : ∀ ds e Q, spO ds e Q → t_law_same spI (endsD Q) (startD nm_law_same ds) e) : FnD P w K mg base (k + 1) T.f_law_same T.d_law_same ["_law_found", "_law_due_here"] spO := by
  have F_law_same := T.F_law_same
  have b_law_same : Binds K T.d_law_same ["_law_found", "_law_due_here"] [] := F_law_same.bindsN fun _ _ _ _ _ _ us hl => match us, hl with | [_, _], _ => rfl
  refine fnD_ok T.F_law_same sc_law_same len (fun cdv A outer s H E hr => ?_) hT
  exact (dss_cons (ds_if (DW.dt (dw_or (dt_tru (d_isi "list" rfl T.b_isinstance (dv 1) (d_tyname rfl T.b_list (by decide +kernel)))) (dw_or1 (dt_tru (d_isi "tuple" rfl T.b_isinstance (dv 1) (d_tyname rfl T.b_tuple (by decide +kernel))))))) (dss_cons (ds_if (DW.dt (dw_or (dt_ne hr.units (d_isi "list" rfl T.b_isinstance (dv 0) (d_tyname rfl T.b_list (by decide +kernel))) (d_isi "list" rfl T.b_isinstance (dv 1) (d_tyname rfl T.b_list (by decide +kernel)))) (dw_or1 (dt_ne hr.units (d_isi "tuple" rfl T.b_isinstance (dv 0) (d_tyname rfl T.b_tuple (by decide +kernel))) (d_isi "tuple" rfl T.b_isinstance (dv 1) (d_tyname rfl T.b_tuple (by decide +kernel))))))) (dss_one (ds_ret d_bl))
 dss_nil)
 (dss_one (ds_ret (d_and (d_eq hr.units (d_len rfl T.b_len (da_cons (dv 0) da_nil)) (d_len rfl T.b_len (da_cons (dv 1) da_nil))) (d_one (d_all rfl rfl T.b_all (da_cons (d_comp false (own := [("_law_one", 2), ("_law_other", 3)]) rfl sc_law_same.nd (di_zip rfl T.b_zip (dv 0) (dv 1)) (blkOk_by (own := [("_law_one", 2), ("_law_other", 3)]) (N := nm_law_same) (sc := defScope st_law_same) (by decide +kernel)) (by decide) (fun _ _ _ _ _ => (gt_many rfl (gts_cons (gt_one sc_law_same.nd rfl (by first | exact Or.inl rfl | exact Or.inr rfl)) (gts_cons (gt_one sc_law_same.nd rfl (by first | exact Or.inl rfl | exact Or.inr rfl)) gts_nil)))) (fun _ _ _ _ _ => dts_nil) (fun _ _ _ _ _ => (d_call G_law_same (hr.mono (by omega)) rfl T.m_law_same F_law_same.kp b_law_same (da_cons (dv 2) (da_cons (dv 3) da_nil))))) da_nil)))))))
 dss_nil)
 (dss_cons (ds_if (DW.dt (dw_or (dt_isN (dv 0) d_non) (dw_or1 (dt_isN (dv 1) d_non)))) (dss_one (ds_ret (d_and (d_isN (dv 0) d_non) (d_one (d_isN (dv 1) d_non)))))
 dss_nil)
 (dss_cons (ds_if (DW.dt (dw_or (dt_ne hr.units (d_isi "bool" rfl T.b_isinstance (dv 0) (d_tyname rfl T.b_bool (by decide +kernel))) (d_isi "bool" rfl T.b_isinstance (dv 1) (d_tyname rfl T.b_bool (by decide +kernel)))) (dw_or1 (dt_ne hr.units (d_isi "int" rfl T.b_isinstance (dv 0) (d_tyname rfl T.b_int (by decide +kernel))) (d_isi "int" rfl T.b_isinstance (dv 1) (d_tyname rfl T.b_int (by decide +kernel))))))) (dss_one (ds_ret d_bl))
 dss_nil)
 (dss_one (ds_ret (d_and (d_eq hr.units (d_isi "str" rfl T.b_isinstance (dv 0) (d_tyname rfl T.b_str (by decide +kernel))) (d_isi "str" rfl T.b_isinstance (dv 1) (d_tyname rfl T.b_str (by decide +kernel)))) (d_one (d_eq hr.units (dv 0) (dv 1)))))))))
theorem ok_law_names (T : Txt K mg) (G_law_take : FnD P w K mg base 1 T.f_law_take T.d_law_take ["_law_box_here", "_law_many"] sp_law_take) {spO : SpD} (len : ∀ ds e Q, spO ds e Q → ds.length = 2) (hT : ∀ ds e Q, spO ds e Q → t_law_names (endsD Q) (startD nm_law_names ds) e) : FnD P w K mg base 2 T.f_law_names T.d_law_names ["_law_box_here", "_law_many"] spO := by
  have F_law_take := T.F_law_take
  have b_law_take : Binds K T.d_law_take ["_law_box_here", "_law_many"] [] := F_law_take.bindsN fun _ _ _ _ _ _ us hl => match us, hl with | [_, _], _ => rfl
  refine fnD_ok T.F_law_names sc_law_names len (fun cdv A outer s H E hr => ?_) hT
  exact (dss_cons (ds_set (i := 2) sc_law_names.nd rfl (by first | exact Or.inl rfl | exact Or.inr rfl) d_str)
 (dss_cons (ds_set (i := 3) sc_law_names.nd rfl (by first | exact Or.inl rfl | exact Or.inr rfl) (d_add d_int (d_call G_law_take (hr.mono (by decide)) rfl T.m_law_take F_law_take.kp b_law_take (da_cons (dv 0) (da_cons d_int da_nil)))))
 (dss_cons (ds_set (i := 4) sc_law_names.nd rfl (by first | exact Or.inl rfl | exact Or.inr rfl) (d_call G_law_take (hr.mono (by decide)) rfl T.m_law_take F_law_take.kp b_law_take (da_cons (dv 0) (da_cons (dv 3) da_nil))))
 (dss_cons (ds_set (i := 5) sc_law_names.nd rfl (by first | exact Or.inl rfl | exact Or.inr rfl) (d_eq hr.units (d_call G_law_take (hr.mono (by decide)) rfl T.m_law_take F_law_take.kp b_law_take (da_cons (dv 0) (da_cons d_int da_nil))) d_int))
 (dss_cons (ds_setLc false (i := 6) (own := [("_law_k", 8)]) rfl sc_law_names.nd rfl rfl (sw_true rfl rfl rfl (by decide +kernel)) (di_rng1 rfl T.b_range (dv 3)) (blkOk_by (own := [("_law_k", 8)]) (N := nm_law_names) (sc := defScope st_law_names) (by decide +kernel)) (by decide) (fun _ _ _ _ _ => (gt_one sc_law_names.nd rfl (by first | exact Or.inl rfl | exact Or.inr rfl))) (fun _ _ _ _ _ => dts_nil) (fun _ _ _ _ _ => (d_call G_law_take (hr.mono (by decide)) rfl T.m_law_take F_law_take.kp b_law_take (da_cons (dv 0) (da_cons d_int da_nil)))))
 (dss_cons (ds_set (i := 7) sc_law_names.nd rfl (by first | exact Or.inl rfl | exact Or.inr rfl) (d_lstC da_nil))
 (dss_cons (ds_for PassesOwn.never rfl (di_rng1 rfl T.b_range (dv 1)) (gt_one sc_law_names.nd rfl (by first | exact Or.inl rfl | exact Or.inr rfl))
 (dss_cons (ds_set (i := 9) sc_law_names.nd rfl (by first | exact Or.inl rfl | exact Or.inr rfl) (d_list true rfl rfl T.b_list (da_cons (dv 6) da_nil)))
 (dss_cons (ds_if (dt_not (dt_tru (dv 5))) (dss_one (ds_setLc true (i := 9) (own := [("_law_step_here", 10)]) rfl sc_law_names.nd rfl rfl (sw_true rfl rfl rfl (by decide +kernel)) (di_rng1 rfl T.b_range (d_add (d_add (dv 4) d_int) (d_call G_law_take (hr.mono (by decide)) rfl T.m_law_take F_law_take.kp b_law_take (da_cons (dv 0) (da_cons (d_sub (dv 3) (dv 4)) da_nil))))) (blkOk_by (own := [("_law_step_here", 10)]) (N := nm_law_names) (sc := defScope st_law_names) (by decide +kernel)) (by decide) (fun _ _ _ _ _ => (gt_one sc_law_names.nd rfl (by first | exact Or.inl rfl | exact Or.inr rfl))) (fun _ _ _ _ _ => dts_nil) (fun _ _ _ _ _ => (d_call G_law_take (hr.mono (by decide)) rfl T.m_law_take F_law_take.kp b_law_take (da_cons (dv 0) (da_cons d_int da_nil))))))
 dss_nil)
 (dss_cons (ds_sto hr.units (dv 9) (dv 4) (d_mod (d_add (d_ix hr.units (dv 6) (dv 4)) (d_mul d_int (dv 8))) d_int))
 (dss_one (ds_expr (d_append (dv 7) (d_join d_str (d_comp false (own := [("_law_one", 11)]) rfl sc_law_names.nd (di_seq (dv 9)) (blkOk_by (own := [("_law_one", 11)]) (N := nm_law_names) (sc := defScope st_law_names) (by decide +kernel)) (by decide) (fun _ _ _ _ _ => (gt_one sc_law_names.nd rfl (by first | exact Or.inl rfl | exact Or.inr rfl))) (fun _ _ _ _ _ => dts_nil) (fun _ _ _ _ _ => (d_ix hr.units (dv 2) (dv 11))))))))))))
 (dss_one (ds_ret (dv 7))))))))))
theorem ok_law_model (T : Txt K mg) {spO : SpD} (len : ∀ ds e Q, spO ds e Q → ds.length = 0) (hT : ∀ ds e Q, spO ds e Q → t_law_model (endsD Q) (startD nm_law_model ds) e) : FnD P w K mg base 1 T.f_law_model T.d_law_model [] spO := by
  refine fnD_ok T.F_law_model sc_law_model len (fun cdv A outer s H E hr => ?_) hT
  exact (dss_one (ds_ret (d_disp (dks_cons (d_lst da_nil) (dks_cons d_dicC (dks_cons (d_lst da_nil) (dks_cons d_int (dks_cons d_int (dks_cons (d_lst da_nil) dks_nil)))))))))
theorem ok_law_turns (T : Txt K mg) {spO : SpD} (len : ∀ ds e Q, spO ds e Q → ds.length = 2) (hT : ∀ ds e Q, spO ds e Q → t_law_turns (endsD Q) (startD nm_law_turns ds) e) : FnD P w K mg base 1 T.f_law_turns T.d_law_turns ["_law_model_here", "_law_name"] spO := by
  refine fnD_ok T.F_law_turns sc_law_turns len (fun cdv A outer s H E hr => ?_) hT
  exact (dss_one (ds_ret (d_len rfl T.b_len (da_cons (d_comp false (own := [("_law_place_here", 2)]) rfl sc_law_turns.nd (di_seq (d_ix hr.units (dv 0) d_str)) (blkOk_by (own := [("_law_place_here", 2)]) (N := nm_law_turns) (sc := defScope st_law_turns) (by decide +kernel)) (by decide) (fun _ _ _ _ _ => (gt_one sc_law_turns.nd rfl (by first | exact Or.inl rfl | exact Or.inr rfl))) (fun _ _ _ _ _ => dts_one (dt_eq hr.units (d_ix hr.units (dv 2) d_int) (dv 1))) (fun _ _ _ _ _ => (dv 2))) da_nil))))
theorem ok_law_place (T : Txt K mg) (G_law_turns : FnD P w K mg base 1 T.f_law_turns T.d_law_turns ["_law_model_here", "_law_name"] sp_law_turns) {spO : SpD} (len : ∀ ds e Q, spO ds e Q → ds.length = 2) (hT : ∀ ds e Q, spO ds e Q → t_law_place (endsD Q) (startD nm_law_place ds) e) : FnD P w K mg base 2 T.f_law_place T.d_law_place ["_law_model_here", "_law_name"] spO := by
  have F_law_turns := T.F_law_turns
  have b_law_turns : Binds K T.d_law_turns ["_law_model_here", "_law_name"] [] := F_law_turns.bindsN fun _ _ _ _ _ _ us hl => match us, hl with | [_, _], _ => rfl
  refine fnD_ok T.F_law_place sc_law_place len (fun cdv A outer s H E hr => ?_) hT
  exact (dss_one (ds_ret (d_indexDp (room65 hr) (d_ix hr.units (dv 0) d_str) (d_tup (da_cons (dv 1) (da_cons (d_call G_law_turns (hr.mono (by decide)) rfl T.m_law_turns F_law_turns.kp b_law_turns (da_cons (dv 0) (da_cons (dv 1) da_nil))) da_nil))))))
theorem ok_law_marks (T : Txt K mg) {spO : SpD} (len : ∀ ds e Q, spO ds e Q → ds.length = 1) (hT : ∀ ds e Q, spO ds e Q → t_law_marks (endsD Q) (startD nm_law_marks ds) e) : FnD P w K mg base 1 T.f_law_marks T.d_law_marks ["_law_model_here"] spO := by
  refine fnD_ok T.F_law_marks sc_law_marks len (fun cdv A outer s H E hr => ?_) hT
  exact (dss_one (ds_ret (d_comp false (own := [("_law_name", 1), ("_law_turn", 2)]) rfl sc_law_marks.nd (di_seq (d_ix hr.units (dv 0) d_str)) (blkOk_by (own := [("_law_name", 1), ("_law_turn", 2)]) (N := nm_law_marks) (sc := defScope st_law_marks) (by decide +kernel)) (by decide) (fun _ _ _ _ _ => (gt_many rfl (gts_cons (gt_one sc_law_marks.nd rfl (by first | exact Or.inl rfl | exact Or.inr rfl)) (gts_cons (gt_one sc_law_marks.nd rfl (by first | exact Or.inl rfl | exact Or.inr rfl)) gts_nil)))) (fun _ _ _ _ _ => dts_one (dt_eq hr.units (dv 2) d_int)) (fun _ _ _ _ _ => (dv 1)))))
theorem ok_law_counted (T : Txt K mg) {spO : SpD} (len : ∀ ds e Q, spO ds e Q → ds.length = 1) (hT : ∀ ds e Q, spO ds e Q → t_law_counted (endsD Q) (startD nm_law_counted ds) e) : FnD P w K mg base 1 T.f_law_counted T.d_law_counted ["_law_model_here"] spO := by
  refine fnD_ok T.F_law_counted sc_law_counted len (fun cdv A outer s H E hr => ?_) hT
  exact (dss_one (ds_ret (d_comp false (own := [("_law_row", 1)]) rfl sc_law_counted.nd (di_seq (d_ix hr.units (dv 0) d_str)) (blkOk_by (own := [("_law_row", 1)]) (N := nm_law_counted) (sc := defScope st_law_counted) (by decide +kernel)) (by decide) (fun _ _ _ _ _ => (gt_one sc_law_counted.nd rfl (by first | exact Or.inl rfl | exact Or.inr rfl))) (fun _ _ _ _ _ => dts_one (dt_tru (d_ix hr.units (d_ix hr.units (dv 0) d_str) (d_ix hr.units (dv 1) d_int)))) (fun _ _ _ _ _ => (dv 1)))))
theorem ok_law_done (T : Txt K mg) (G_law_turns : FnD P w K mg base 1 T.f_law_turns T.d_law_turns ["_law_model_here", "_law_name"] sp_law_turns) (G_law_place : FnD P w K mg base 2 T.f_law_place T.d_law_place ["_law_model_here", "_law_name"] sp_law_place) {spO : SpD} (len : ∀ ds e Q, spO ds e Q → ds.length = 2) (hT : ∀ ds e Q, spO ds e Q → t_law_done (endsD Q) (startD nm_law_done ds) e) : FnD P w K mg base 3 T.f_law_done T.d_law_done ["_law_model_here", "_law_deed"] spO := by
  have F_law_turns := T.F_law_turns
  have b_law_turns : Binds K T.d_law_turns ["_law_model_here", "_law_name"] [] := F_law_turns.bindsN fun _ _ _ _ _ _ us hl => match us, hl with | [_, _], _ => rfl
  have F_law_place := T.F_law_place
  have b_law_place : Binds K T.d_law_place ["_law_model_here", "_law_name"] [] := F_law_place.bindsN fun _ _ _ _ _ _ us hl => match us, hl with | [_, _], _ => rfl
  refine fnD_ok T.F_law_done sc_law_done len (fun cdv A outer s H E hr => ?_) hT
  exact (dss_cons (ds_set (i := 0) sc_law_done.nd rfl (by first | exact Or.inl rfl | exact Or.inr rfl) (d_dictC rfl T.b_dict (da_cons (dv 0) da_nil)))
 (dss_cons (ds_sto hr.units (dv 0) d_str (d_add (d_ix hr.units (dv 0) d_str) (d_lst (da_cons (dv 1) da_nil))))
 (dss_cons (ds_set (i := 2) sc_law_done.nd rfl (by first | exact Or.inl rfl | exact Or.inr rfl) (d_ix hr.units (dv 1) d_int))
 (dss_cons (ds_if (DW.dt (dw_or (dt_eq hr.units (dv 2) d_str) (dw_or1 (dt_eq hr.units (dv 2) d_str)))) (dss_one (ds_sto hr.units (dv 0) d_str (d_add (d_ix hr.units (dv 0) d_str) (d_lst (da_cons (d_tup (da_cons (d_ix hr.units (dv 1) d_int) (da_cons (d_add (d_call G_law_turns (hr.mono (by decide)) rfl T.m_law_turns F_law_turns.kp b_law_turns (da_cons (dv 0) (da_cons (d_ix hr.units (dv 1) d_int) da_nil))) d_int) da_nil))) da_nil)))))
 (dss_one (ds_if (dt_in hr.units (dv 2) (d_tup (da_cons d_str (da_cons d_str (da_cons d_str da_nil))))) (dss_cons (ds_set (i := 3) sc_law_done.nd rfl (by first | exact Or.inl rfl | exact Or.inr rfl) (d_dictC rfl T.b_dict (da_cons (d_ix hr.units (dv 0) d_str) da_nil)))
 (dss_cons (ds_sto hr.units (dv 3) (d_ix hr.units (dv 1) d_int) (d_ne hr.units (dv 2) d_str))
 (dss_one (ds_sto hr.units (dv 0) d_str (dv 3)))))
 (dss_one (ds_if (dt_eq hr.units (dv 2) d_str) (dss_cons (ds_augSAdd hr.units (dv 0) d_str d_int)
 (dss_cons (ds_set (i := 4) sc_law_done.nd rfl (by first | exact Or.inl rfl | exact Or.inr rfl) (d_add (d_tup (da_cons (d_ix hr.units (dv 0) d_str) (da_cons (d_call G_law_place (hr.mono (by decide)) rfl T.m_law_place F_law_place.kp b_law_place (da_cons (dv 0) (da_cons (d_ix hr.units (dv 1) d_int) da_nil))) (da_cons (d_call G_law_place (hr.mono (by decide)) rfl T.m_law_place F_law_place.kp b_law_place (da_cons (dv 0) (da_cons (d_ix hr.units (dv 1) d_int) da_nil))) da_nil)))) (d_cut false (dv 1) (do_some d_int) do_none)))
 (dss_one (ds_sto hr.units (dv 0) d_str (d_add (d_ix hr.units (dv 0) d_str) (d_lst (da_cons (dv 4) da_nil)))))))
 (dss_one (ds_if (dt_eq hr.units (dv 2) d_str) (dss_one (ds_sto hr.units (dv 0) d_str (d_comp false (own := [("_law_row", 4)]) rfl sc_law_done.nd (di_seq (d_ix hr.units (dv 0) d_str)) (blkOk_by (own := [("_law_row", 4)]) (N := nm_law_done) (sc := defScope st_law_done) (by decide +kernel)) (by decide) (fun _ _ _ _ _ => (gt_one sc_law_done.nd rfl (by first | exact Or.inl rfl | exact Or.inr rfl))) (fun _ _ _ _ _ => dts_one (dt_ne hr.units (d_ix hr.units (dv 4) d_int) (d_ix hr.units (dv 1) d_int))) (fun _ _ _ _ _ => (dv 4)))))
 (dss_one (ds_if (dt_eq hr.units (dv 2) d_str) (dss_cons (ds_set (i := 5) sc_law_done.nd rfl (by first | exact Or.inl rfl | exact Or.inr rfl) (d_lstC da_nil))
 (dss_cons (ds_for PassesOwn.never rfl (di_seq (d_ix hr.units (dv 0) d_str)) (gt_one sc_law_done.nd rfl (by first | exact Or.inl rfl | exact Or.inr rfl))
 (dss_one (ds_expr (d_append (dv 5) (d_ix hr.units (d_lst (da_cons (dv 4) (da_cons (d_add (d_cut false (dv 4) do_none (do_some d_int)) (d_tup (da_cons (d_ix hr.units (dv 1) d_int) (da_cons (d_ix hr.units (dv 4) d_int) da_nil)))) da_nil))) (d_intC rfl T.b_int (da_cons (d_eq hr.units (d_ix hr.units (dv 4) d_int) (d_ix hr.units (dv 1) d_int)) da_nil)))))))
 (dss_one (ds_sto hr.units (dv 0) d_str (dv 5)))))
 (dss_one (ds_sto hr.units (dv 0) d_str (d_ix hr.units (dv 1) d_int))))))))))))
 (dss_one (ds_ret (dv 0)))))))
theorem ok_law_due_told (T : Txt K mg) {spO : SpD} (len : ∀ ds e Q, spO ds e Q → ds.length = 2) (hT : ∀ ds e Q, spO ds e Q → t_law_due_told (endsD Q) (startD nm_law_due_told ds) e) : FnD P w K mg base 1 T.f_law_due_told T.d_law_due_told ["_law_model_here", "_law_deed"] spO := by
  refine fnD_ok T.F_law_due_told sc_law_due_told len (fun cdv A outer s H E hr => ?_) hT
  exact (dss_one (ds_ret (d_ix hr.units (d_lst (da_cons d_non (da_cons (d_add (d_ix hr.units (dv 0) d_str) d_int) da_nil))) (d_intC rfl T.b_int (da_cons (d_eq hr.units (d_ix hr.units (dv 1) d_int) d_str) da_nil)))))
theorem ok_law_step (T : Txt K mg) (G_law_same : FnD P w K mg base 5 T.f_law_same T.d_law_same ["_law_found", "_law_due_here"] sp_fsame) (G_law_due_told : FnD P w K mg base 1 T.f_law_due_told T.d_law_due_told ["_law_model_here", "_law_deed"] sp_law_due_told) (Gx_Fen_deed : FnX P w K mg base 6 T.f_Fen_deed T.d_Fen_deed ["self", "row"] spx_Fen_deed) (G_Fen_deed : FnD P w K mg base 6 T.f_Fen_deed T.d_Fen_deed ["self", "row"] sp_Fen_deed) (G_law_done : FnD P w K mg base 3 T.f_law_done T.d_law_done ["_law_model_here", "_law_deed"] sp_law_done) {spO : SpD} (len : ∀ ds e Q, spO ds e Q → ds.length = 3) (hT : ∀ ds e Q, spO ds e Q → t_law_step (endsD Q) (startD nm_law_step ds) e) : FnD P w K mg base 7 T.f_law_step T.d_law_step ["_law_fen", "_law_model_here", "_law_deed"] spO := by
  have F_law_same := T.F_law_same
  have b_law_same : Binds K T.d_law_same ["_law_found", "_law_due_here"] [] := F_law_same.bindsN fun _ _ _ _ _ _ us hl => match us, hl with | [_, _], _ => rfl
  have F_law_due_told := T.F_law_due_told
  have b_law_due_told : Binds K T.d_law_due_told ["_law_model_here", "_law_deed"] [] := F_law_due_told.bindsN fun _ _ _ _ _ _ us hl => match us, hl with | [_, _], _ => rfl
  have F_Fen_deed := T.F_Fen_deed
  have b_Fen_deed : Binds K T.d_Fen_deed ["self", "row"] [] := F_Fen_deed.bindsN fun _ _ _ _ _ _ us hl => match us, hl with | [_, _], _ => rfl
  have F_law_done := T.F_law_done
  have b_law_done : Binds K T.d_law_done ["_law_model_here", "_law_deed"] [] := F_law_done.bindsN fun _ _ _ _ _ _ us hl => match us, hl with | [_, _], _ => rfl
  refine fnD_ok T.F_law_step sc_law_step len (fun cdv A outer s H E hr => ?_) hT
  exact (dss_cons (ds_if (dt_not (dt_tru (d_call G_law_same (hr.mono (by decide)) rfl T.m_law_same F_law_same.kp b_law_same (da_cons (d_meth T.cl_Fen T.me_Fen_deed G_Fen_deed (hr.mono (by decide)) b_Fen_deed (dv 0) (da_cons (dv 2) da_nil)) (da_cons (d_call G_law_due_told (hr.mono (by decide)) rfl T.m_law_due_told F_law_due_told.kp b_law_due_told (da_cons (dv 1) (da_cons (dv 2) da_nil))) da_nil))))) (dss_one (ds_ret d_non))
 dss_nil)
 (dss_one (ds_ret (d_call G_law_done (hr.mono (by decide)) rfl T.m_law_done F_law_done.kp b_law_done (da_cons (dv 1) (da_cons (dv 2) da_nil))))))
theorem ok_law_seen (T : Txt K mg) (G_Fen_counting : FnD P w K mg base 2 T.f_Fen_counting T.d_Fen_counting ["self"] sp_Fen_counting) (G_Fen_runs : FnD P w K mg base 2 T.f_Fen_runs T.d_Fen_runs ["self"] sp_Fen_runs) (G_Fen_allowed : FnD P w K mg base 2 T.f_Fen_allowed T.d_Fen_allowed ["self"] sp_Fen_allowed) (G_Fen_stands : FnD P w K mg base 2 T.f_Fen_stands T.d_Fen_stands ["self"] sp_Fen_stands) (G_Fen_asides : FnD P w K mg base 2 T.f_Fen_asides T.d_Fen_asides ["self"] sp_Fen_asides) (G_Fen_hands : FnD P w K mg base 2 T.f_Fen_hands T.d_Fen_hands ["self"] sp_Fen_hands) (G_Fen_marks : FnD P w K mg base 2 T.f_Fen_marks T.d_Fen_marks ["self"] sp_Fen_marks) (G_Fen_deeds : FnD P w K mg base 1 T.f_Fen_deeds T.d_Fen_deeds ["self"] sp_Fen_deeds) {spO : SpD} (len : ∀ ds e Q, spO ds e Q → ds.length = 1) (hT : ∀ ds e Q, spO ds e Q → t_law_seen (endsD Q) (startD nm_law_seen ds) e) : FnD P w K mg base 3 T.f_law_seen T.d_law_seen ["_law_fen"] spO := by
  have F_Fen_counting := T.F_Fen_counting
  have b_Fen_counting : Binds K T.d_Fen_counting ["self"] [] := F_Fen_counting.bindsN fun _ _ _ _ _ _ us hl => match us, hl with | [_], _ => rfl
  have F_Fen_runs := T.F_Fen_runs
  have b_Fen_runs : Binds K T.d_Fen_runs ["self"] [] := F_Fen_runs.bindsN fun _ _ _ _ _ _ us hl => match us, hl with | [_], _ => rfl
  have F_Fen_allowed := T.F_Fen_allowed
  have b_Fen_allowed : Binds K T.d_Fen_allowed ["self"] [] := F_Fen_allowed.bindsN fun _ _ _ _ _ _ us hl => match us, hl with | [_], _ => rfl
  have F_Fen_stands := T.F_Fen_stands
  have b_Fen_stands : Binds K T.d_Fen_stands ["self"] [] := F_Fen_stands.bindsN fun _ _ _ _ _ _ us hl => match us, hl with | [_], _ => rfl
  have F_Fen_asides := T.F_Fen_asides
  have b_Fen_asides : Binds K T.d_Fen_asides ["self"] [] := F_Fen_asides.bindsN fun _ _ _ _ _ _ us hl => match us, hl with | [_], _ => rfl
  have F_Fen_hands := T.F_Fen_hands
  have b_Fen_hands : Binds K T.d_Fen_hands ["self"] [] := F_Fen_hands.bindsN fun _ _ _ _ _ _ us hl => match us, hl with | [_], _ => rfl
  have F_Fen_marks := T.F_Fen_marks
  have b_Fen_marks : Binds K T.d_Fen_marks ["self"] [] := F_Fen_marks.bindsN fun _ _ _ _ _ _ us hl => match us, hl with | [_], _ => rfl
  have F_Fen_deeds := T.F_Fen_deeds
  have b_Fen_deeds : Binds K T.d_Fen_deeds ["self"] [] := F_Fen_deeds.bindsN fun _ _ _ _ _ _ us hl => match us, hl with | [_], _ => rfl
  refine fnD_ok T.F_law_seen sc_law_seen len (fun cdv A outer s H E hr => ?_) hT
  exact (dss_cons (ds_set (i := 1) sc_law_seen.nd rfl (by first | exact Or.inl rfl | exact Or.inr rfl) (d_lst (da_cons (d_meth0 T.cl_Fen T.me_Fen_marks G_Fen_marks (hr.mono (by decide)) b_Fen_marks (dv 0)) (da_cons (d_meth0 T.cl_Fen T.me_Fen_hands G_Fen_hands (hr.mono (by decide)) b_Fen_hands (dv 0)) (da_cons (d_meth0 T.cl_Fen T.me_Fen_asides G_Fen_asides (hr.mono (by decide)) b_Fen_asides (dv 0)) (da_cons (d_meth0 T.cl_Fen T.me_Fen_stands G_Fen_stands (hr.mono (by decide)) b_Fen_stands (dv 0)) (da_cons (d_meth0 T.cl_Fen T.me_Fen_allowed G_Fen_allowed (hr.mono (by decide)) b_Fen_allowed (dv 0)) (da_cons (d_meth0 T.cl_Fen T.me_Fen_runs G_Fen_runs (hr.mono (by decide)) b_Fen_runs (dv 0)) (da_cons (d_meth0 T.cl_Fen T.me_Fen_counting G_Fen_counting (hr.mono (by decide)) b_Fen_counting (dv 0)) da_nil)))))))))
 (dss_one (ds_ret (d_add (dv 1) (d_lst (da_cons (d_meth0 T.cl_Fen T.me_Fen_deeds G_Fen_deeds (hr.mono (by decide)) b_Fen_deeds (dv 0)) da_nil))))))
theorem ok_law_due (T : Txt K mg) (G_law_marks : FnD P w K mg base 1 T.f_law_marks T.d_law_marks ["_law_model_here"] sp_law_marks) (G_law_counted : FnD P w K mg base 1 T.f_law_counted T.d_law_counted ["_law_model_here"] sp_law_counted) {spO : SpD} (len : ∀ ds e Q, spO ds e Q → ds.length = 1) (hT : ∀ ds e Q, spO ds e Q → t_law_due (endsD Q) (startD nm_law_due ds) e) : FnD P w K mg base 2 T.f_law_due T.d_law_due ["_law_model_here"] spO := by
  have F_law_marks := T.F_law_marks
  have b_law_marks : Binds K T.d_law_marks ["_law_model_here"] [] := F_law_marks.bindsN fun _ _ _ _ _ _ us hl => match us, hl with | [_], _ => rfl
  have F_law_counted := T.F_law_counted
  have b_law_counted : Binds K T.d_law_counted ["_law_model_here"] [] := F_law_counted.bindsN fun _ _ _ _ _ _ us hl => match us, hl with | [_], _ => rfl
  refine fnD_ok T.F_law_due sc_law_due len (fun cdv A outer s H E hr => ?_) hT
  exact (dss_cons (ds_set (i := 1) sc_law_due.nd rfl (by first | exact Or.inl rfl | exact Or.inr rfl) (d_ix hr.units (dv 0) d_str))
 (dss_cons (ds_setLc false (i := 2) (own := [("_law_row", 5)]) rfl sc_law_due.nd rfl rfl (sw_true rfl rfl rfl (by decide +kernel)) (di_seq (d_ix hr.units (dv 0) d_str)) (blkOk_by (own := [("_law_row", 5)]) (N := nm_law_due) (sc := defScope st_law_due) (by decide +kernel)) (by decide) (fun _ _ _ _ _ => (gt_one sc_law_due.nd rfl (by first | exact Or.inl rfl | exact Or.inr rfl))) (fun _ _ _ _ _ => dts_nil) (fun _ _ _ _ _ => (d_add (d_add (d_add (d_tup (da_cons (d_ix hr.units (dv 5) d_int) da_nil)) (d_ix hr.units (dv 1) (d_ix hr.units (dv 5) d_int))) (d_ix hr.units (dv 1) (d_ix hr.units (dv 5) d_int))) (d_cut false (dv 5) (do_some d_int) do_none))))
 (dss_cons (ds_lock (ds_setLc false (i := 3) (own := [("_law_hand", 6)]) rfl sc_law_due.nd rfl rfl (sw_true rfl rfl rfl (by decide +kernel)) (di_keysL (d_ix hr.units (dv 0) d_str)) (blkOk_by (own := [("_law_hand", 6)]) (N := nm_law_due) (sc := defScope st_law_due) (by decide +kernel)) (by decide) (fun _ _ _ _ _ => (gt_one sc_law_due.nd rfl (by first | exact Or.inl rfl | exact Or.inr rfl))) (fun _ _ _ _ _ => dts_one (dt_not (dt_tru (d_ix hr.units (d_ix hr.units (dv 0) d_str) (dv 6))))) (fun _ _ _ _ _ => (dv 6))))
 (dss_cons (ds_set (i := 4) sc_law_due.nd rfl (by first | exact Or.inl rfl | exact Or.inr rfl) (d_lst (da_cons (d_call G_law_marks (hr.mono (by decide)) rfl T.m_law_marks F_law_marks.kp b_law_marks (da_cons (dv 0) da_nil)) (da_cons (d_list false rfl rfl T.b_list (da_cons (d_ix hr.units (dv 0) d_str) da_nil)) (da_cons (dv 3) (da_cons (dv 1) (da_cons (d_ix hr.units (dv 0) d_str) (da_cons (dv 2) da_nil))))))))
 (dss_one (ds_ret (d_add (dv 4) (d_lst (da_cons (d_comp false (own := [("_law_row", 5)]) rfl sc_law_due.nd (di_seq (d_call G_law_counted (hr.mono (by decide)) rfl T.m_law_counted F_law_counted.kp b_law_counted (da_cons (dv 0) da_nil))) (blkOk_by (own := [("_law_row", 5)]) (N := nm_law_due) (sc := defScope st_law_due) (by decide +kernel)) (by decide) (fun _ _ _ _ _ => (gt_one sc_law_due.nd rfl (by first | exact Or.inl rfl | exact Or.inr rfl))) (fun _ _ _ _ _ => dts_nil) (fun _ _ _ _ _ => (d_ix hr.units (dv 5) d_int))) (da_cons (d_ix hr.units (dv 0) d_str) da_nil))))))))))
theorem ok_law_right (T : Txt K mg) (G_law_same : FnD P w K mg base 5 T.f_law_same T.d_law_same ["_law_found", "_law_due_here"] sp_fsame) (G_law_due : FnD P w K mg base 2 T.f_law_due T.d_law_due ["_law_model_here"] sp_law_due) (G_law_seen : FnD P w K mg base 3 T.f_law_seen T.d_law_seen ["_law_fen"] sp_law_seen) {spO : SpD} (len : ∀ ds e Q, spO ds e Q → ds.length = 2) (hT : ∀ ds e Q, spO ds e Q → t_law_right (endsD Q) (startD nm_law_right ds) e) : FnD P w K mg base 6 T.f_law_right T.d_law_right ["_law_fen", "_law_model_here"] spO := by
  have F_law_same := T.F_law_same
  have b_law_same : Binds K T.d_law_same ["_law_found", "_law_due_here"] [] := F_law_same.bindsN fun _ _ _ _ _ _ us hl => match us, hl with | [_, _], _ => rfl
  have F_law_due := T.F_law_due
  have b_law_due : Binds K T.d_law_due ["_law_model_here"] [] := F_law_due.bindsN fun _ _ _ _ _ _ us hl => match us, hl with | [_], _ => rfl
  have F_law_seen := T.F_law_seen
  have b_law_seen : Binds K T.d_law_seen ["_law_fen"] [] := F_law_seen.bindsN fun _ _ _ _ _ _ us hl => match us, hl with | [_], _ => rfl
  refine fnD_ok T.F_law_right sc_law_right len (fun cdv A outer s H E hr => ?_) hT
  exact (dss_one (ds_ret (d_call G_law_same (hr.mono (by decide)) rfl T.m_law_same F_law_same.kp b_law_same (da_cons (d_call G_law_seen (hr.mono (by decide)) rfl T.m_law_seen F_law_seen.kp b_law_seen (da_cons (dv 0) da_nil)) (da_cons (d_call G_law_due (hr.mono (by decide)) rfl T.m_law_due F_law_due.kp b_law_due (da_cons (dv 1) da_nil)) da_nil)))))
theorem ok_law_truth (T : Txt K mg) {spO : SpD} (len : ∀ ds e Q, spO ds e Q → ds.length = 1) (hT : ∀ ds e Q, spO ds e Q → t_law_truth (endsD Q) (startD nm_law_truth ds) e) : FnD P w K mg base 1 T.f_law_truth T.d_law_truth ["_law_place_here"] spO := by
  refine fnD_ok T.F_law_truth sc_law_truth len (fun cdv A outer s H E hr => ?_) hT
  exact (dss_one (ds_ret (d_sub (d_mod (d_mul (d_mul (dv 0) (dv 0)) d_int) d_int) (dv 0))))
theorem ok_law_run_deed (T : Txt K mg) (G_law_marks : FnD P w K mg base 1 T.f_law_marks T.d_law_marks ["_law_model_here"] sp_law_marks) (G_law_take : FnD P w K mg base 1 T.f_law_take T.d_law_take ["_law_box_here", "_law_many"] sp_law_take) (G_law_truth : FnD P w K mg base 1 T.f_law_truth T.d_law_truth ["_law_place_here"] sp_law_truth) (G_law_place : FnD P w K mg base 2 T.f_law_place T.d_law_place ["_law_model_here", "_law_name"] sp_law_place) {spO : SpD} (len : ∀ ds e Q, spO ds e Q → ds.length = 2) (hT : ∀ ds e Q, spO ds e Q → t_law_run_deed (endsD Q) (startD nm_law_run_deed ds) e) : FnD P w K mg base 3 T.f_law_run_deed T.d_law_run_deed ["_law_box_here", "_law_model_here"] spO := by
  have F_law_marks := T.F_law_marks
  have b_law_marks : Binds K T.d_law_marks ["_law_model_here"] [] := F_law_marks.bindsN fun _ _ _ _ _ _ us hl => match us, hl with | [_], _ => rfl
  have F_law_take := T.F_law_take
  have b_law_take : Binds K T.d_law_take ["_law_box_here", "_law_many"] [] := F_law_take.bindsN fun _ _ _ _ _ _ us hl => match us, hl with | [_, _], _ => rfl
  have F_law_truth := T.F_law_truth
  have b_law_truth : Binds K T.d_law_truth ["_law_place_here"] [] := F_law_truth.bindsN fun _ _ _ _ _ _ us hl => match us, hl with | [_], _ => rfl
  have F_law_place := T.F_law_place
  have b_law_place : Binds K T.d_law_place ["_law_model_here", "_law_name"] [] := F_law_place.bindsN fun _ _ _ _ _ _ us hl => match us, hl with | [_, _], _ => rfl
  refine fnD_ok T.F_law_run_deed sc_law_run_deed len (fun cdv A outer s H E hr => ?_) hT
  exact (dss_cons (ds_set (i := 2) sc_law_run_deed.nd rfl (by first | exact Or.inl rfl | exact Or.inr rfl) (d_call G_law_marks (hr.mono (by decide)) rfl T.m_law_marks F_law_marks.kp b_law_marks (da_cons (dv 1) da_nil)))
 (dss_cons (ds_set (i := 3) sc_law_run_deed.nd rfl (by first | exact Or.inl rfl | exact Or.inr rfl) (d_list false rfl rfl T.b_list (da_cons (d_ix hr.units (dv 1) d_str) da_nil)))
 (dss_cons (ds_if (DW.dt (dw_or (dt_lt (d_len rfl T.b_len (da_cons (dv 2) da_nil)) d_int) (dw_or (dt_eq hr.units (dv 3) (d_lst da_nil)) (dw_or1 (dt_ge (d_len rfl T.b_len (da_cons (d_ix hr.units (dv 1) d_str) da_nil)) d_int))))) (dss_one (ds_ret d_non))
 dss_nil)
 (dss_cons (ds_set (i := 4) sc_law_run_deed.nd rfl (by first | exact Or.inl rfl | exact Or.inr rfl) (d_call G_law_take (hr.mono (by decide)) rfl T.m_law_take F_law_take.kp b_law_take (da_cons (dv 0) (da_cons (d_len rfl T.b_len (da_cons (dv 2) da_nil)) da_nil))))
 (dss_cons (ds_par (i := 5) (j := 6) rfl sc_law_run_deed.nd rfl rfl (by decide) rfl rfl (d_ix hr.units (dv 2) (dv 4)) (d_ix hr.units (dv 2) (d_mod (d_add (d_add (dv 4) d_int) (d_call G_law_take (hr.mono (by decide)) rfl T.m_law_take F_law_take.kp b_law_take (da_cons (dv 0) (da_cons (d_sub (d_len rfl T.b_len (da_cons (dv 2) da_nil)) d_int) da_nil)))) (d_len rfl T.b_len (da_cons (dv 2) da_nil)))) rfl)
 (dss_cons (ds_set (i := 7) sc_law_run_deed.nd rfl (by first | exact Or.inl rfl | exact Or.inr rfl) (d_sub (d_call G_law_truth (hr.mono (by decide)) rfl T.m_law_truth F_law_truth.kp b_law_truth (da_cons (d_call G_law_place (hr.mono (by decide)) rfl T.m_law_place F_law_place.kp b_law_place (da_cons (dv 1) (da_cons (dv 6) da_nil))) da_nil)) (d_call G_law_truth (hr.mono (by decide)) rfl T.m_law_truth F_law_truth.kp b_law_truth (da_cons (d_call G_law_place (hr.mono (by decide)) rfl T.m_law_place F_law_place.kp b_law_place (da_cons (dv 1) (da_cons (dv 5) da_nil))) da_nil))))
 (dss_cons (ds_if (dt_eq hr.units (d_call G_law_take (hr.mono (by decide)) rfl T.m_law_take F_law_take.kp b_law_take (da_cons (dv 0) (da_cons d_int da_nil))) d_int) (dss_one (ds_set (i := 7) sc_law_run_deed.nd rfl (by first | exact Or.inl rfl | exact Or.inr rfl) (d_ix hr.units (d_lst (da_cons (d_add (dv 7) d_int) (da_cons (d_sub (dv 7) d_int) (da_cons (d_call G_law_take (hr.mono (by decide)) rfl T.m_law_take F_law_take.kp b_law_take (da_cons (dv 0) (da_cons d_int da_nil))) (da_cons (d_neg d_int) da_nil))))) (d_call G_law_take (hr.mono (by decide)) rfl T.m_law_take F_law_take.kp b_law_take (da_cons (dv 0) (da_cons d_int da_nil))))))
 dss_nil)
 (dss_one (ds_ret (d_tup (da_cons d_str (da_cons (dv 5) (da_cons (dv 6) (da_cons (dv 7) (da_cons (d_ix hr.units (dv 3) (d_call G_law_take (hr.mono (by decide)) rfl T.m_law_take F_law_take.kp b_law_take (da_cons (dv 0) (da_cons (d_len rfl T.b_len (da_cons (dv 3) da_nil)) da_nil)))) da_nil)))))))))))))))
theorem ok_law_begun (T : Txt K mg) (G_law_names : FnD P w K mg base 2 T.f_law_names T.d_law_names ["_law_box_here", "_law_many"] sp_law_names) (G_Fen___init__ : FnD P w K mg base 3 T.f_Fen___init__ T.d_Fen___init__ ["self"] sp_Fen___init__) (G_law_model : FnD P w K mg base 1 T.f_law_model T.d_law_model [] sp_law_model) (G_law_take : FnD P w K mg base 1 T.f_law_take T.d_law_take ["_law_box_here", "_law_many"] sp_law_take) (G_law_step : FnD P w K mg base 7 T.f_law_step T.d_law_step ["_law_fen", "_law_model_here", "_law_deed"] sp_law_step) (G_law_run_deed : FnD P w K mg base 3 T.f_law_run_deed T.d_law_run_deed ["_law_box_here", "_law_model_here"] sp_law_run_deed) {spO : SpD} (len : ∀ ds e Q, spO ds e Q → ds.length = 4) (hT : ∀ ds e Q, spO ds e Q → t_law_begun (endsD Q) (startD nm_law_begun ds) e) : FnD P w K mg base 8 T.f_law_begun T.d_law_begun ["_law_box_here", "_law_most_marks", "_law_most_hands", "_law_most_runs"] spO := by
  have F_law_names := T.F_law_names
  have b_law_names : Binds K T.d_law_names ["_law_box_here", "_law_many"] [] := F_law_names.bindsN fun _ _ _ _ _ _ us hl => match us, hl with | [_, _], _ => rfl
  have F_Fen___init__ := T.F_Fen___init__
  have b_Fen___init__ : Binds K T.d_Fen___init__ ["self"] [] := F_Fen___init__.bindsN fun _ _ _ _ _ _ us hl => match us, hl with | [_], _ => rfl
  have F_law_model := T.F_law_model
  have b_law_model : Binds K T.d_law_model [] [] := F_law_model.bindsN fun _ _ _ _ _ _ us hl => match us, hl with | [], _ => rfl
  have F_law_take := T.F_law_take
  have b_law_take : Binds K T.d_law_take ["_law_box_here", "_law_many"] [] := F_law_take.bindsN fun _ _ _ _ _ _ us hl => match us, hl with | [_, _], _ => rfl
  have F_law_step := T.F_law_step
  have b_law_step : Binds K T.d_law_step ["_law_fen", "_law_model_here", "_law_deed"] [] := F_law_step.bindsN fun _ _ _ _ _ _ us hl => match us, hl with | [_, _, _], _ => rfl
  have F_law_run_deed := T.F_law_run_deed
  have b_law_run_deed : Binds K T.d_law_run_deed ["_law_box_here", "_law_model_here"] [] := F_law_run_deed.bindsN fun _ _ _ _ _ _ us hl => match us, hl with | [_, _], _ => rfl
  refine fnD_ok T.F_law_begun sc_law_begun len (fun cdv A outer s H E hr => ?_) hT
  exact (dss_cons (ds_set (i := 4) sc_law_begun.nd rfl (by first | exact Or.inl rfl | exact Or.inr rfl) (d_call G_law_names (hr.mono (by decide)) rfl T.m_law_names F_law_names.kp b_law_names (da_cons (dv 0) (da_cons d_int da_nil))))
 (dss_cons (ds_set (i := 5) sc_law_begun.nd rfl (by first | exact Or.inl rfl | exact Or.inr rfl) (d_make0 T.mk_Fen G_Fen___init__ (hr.mono (by decide)) rfl T.m_Fen b_Fen___init__))
 (dss_cons (ds_set (i := 6) sc_law_begun.nd rfl (by first | exact Or.inl rfl | exact Or.inr rfl) (d_call0 G_law_model (hr.mono (by decide)) rfl T.m_law_model F_law_model.kp b_law_model))
 (dss_cons (ds_setLc true (i := 7) (own := [("_law_k", 9)]) rfl sc_law_begun.nd rfl rfl (sw_true rfl rfl rfl (by decide +kernel)) (di_rng1 rfl T.b_range (d_add d_int (d_call G_law_take (hr.mono (by decide)) rfl T.m_law_take F_law_take.kp b_law_take (da_cons (dv 0) (da_cons (dv 1) da_nil))))) (blkOk_by (own := [("_law_k", 9)]) (N := nm_law_begun) (sc := defScope st_law_begun) (by decide +kernel)) (by decide) (fun _ _ _ _ _ => (gt_one sc_law_begun.nd rfl (by first | exact Or.inl rfl | exact Or.inr rfl))) (fun _ _ _ _ _ => dts_nil) (fun _ _ _ _ _ => (d_tup (da_cons d_str (da_cons (d_ix hr.units (dv 4) (dv 9)) da_nil)))))
 (dss_cons (ds_set (i := 7) sc_law_begun.nd rfl (by first | exact Or.inl rfl | exact Or.inr rfl) (d_addC (dv 7) (d_comp false (own := [("_law_k", 9)]) rfl sc_law_begun.nd (di_rng1 rfl T.b_range (d_add d_int (d_call G_law_take (hr.mono (by decide)) rfl T.m_law_take F_law_take.kp b_law_take (da_cons (dv 0) (da_cons (dv 2) da_nil))))) (blkOk_by (own := [("_law_k", 9)]) (N := nm_law_begun) (sc := defScope st_law_begun) (by decide +kernel)) (by decide) (fun _ _ _ _ _ => (gt_one sc_law_begun.nd rfl (by first | exact Or.inl rfl | exact Or.inr rfl))) (fun _ _ _ _ _ => dts_nil) (fun _ _ _ _ _ => (d_tup (da_cons d_str (da_cons (d_ix hr.units (dv 4) (d_sub d_int (dv 9))) da_nil)))))))
 (dss_cons (ds_expr (d_append (dv 7) (d_tup (da_cons d_str (da_cons (d_call G_law_take (hr.mono (by decide)) rfl T.m_law_take F_law_take.kp b_law_take (da_cons (dv 0) (da_cons d_int da_nil))) da_nil)))))
 (dss_cons (ds_for PassesOwn.never rfl (di_seq (dv 7)) (gt_one sc_law_begun.nd rfl (by first | exact Or.inl rfl | exact Or.inr rfl))
 (dss_one (ds_if (dt_notN (dv 6) d_non) (dss_one (ds_set (i := 6) sc_law_begun.nd rfl (by first | exact Or.inl rfl | exact Or.inr rfl) (d_call G_law_step (hr.mono (by decide)) rfl T.m_law_step F_law_step.kp b_law_step (da_cons (dv 5) (da_cons (dv 6) (da_cons (dv 8) da_nil))))))
 dss_nil)))
 (dss_cons (ds_for PassesOwn.never rfl (di_rng1 rfl T.b_range (d_call G_law_take (hr.mono (by decide)) rfl T.m_law_take F_law_take.kp b_law_take (da_cons (dv 0) (da_cons (d_add (dv 3) d_int) da_nil)))) (gt_one sc_law_begun.nd rfl (by first | exact Or.inl rfl | exact Or.inr rfl))
 (dss_one (ds_if (dt_notN (dv 6) d_non) (dss_cons (ds_set (i := 8) sc_law_begun.nd rfl (by first | exact Or.inl rfl | exact Or.inr rfl) (d_call G_law_run_deed (hr.mono (by decide)) rfl T.m_law_run_deed F_law_run_deed.kp b_law_run_deed (da_cons (dv 0) (da_cons (dv 6) da_nil))))
 (dss_one (ds_if (dt_notN (dv 8) d_non) (dss_one (ds_set (i := 6) sc_law_begun.nd rfl (by first | exact Or.inl rfl | exact Or.inr rfl) (d_call G_law_step (hr.mono (by decide)) rfl T.m_law_step F_law_step.kp b_law_step (da_cons (dv 5) (da_cons (dv 6) (da_cons (dv 8) da_nil))))))
 dss_nil)))
 dss_nil)))
 (dss_one (ds_ret (d_tup (da_cons (dv 5) (da_cons (dv 6) (da_cons (dv 4) da_nil))))))))))))))
theorem ok_law_no_run (T : Txt K mg) (Gx_Fen_strike : FnX P w K mg base 7 T.f_Fen_strike T.d_Fen_strike ["self", "number"] spx_Fen_strike) (G_Fen_strike : FnD P w K mg base 7 T.f_Fen_strike T.d_Fen_strike ["self", "number"] sp_Fen_strike) (Gx_Fen_mend : FnX P w K mg base 7 T.f_Fen_mend T.d_Fen_mend ["self", "number", "rise"] spx_Fen_mend) (G_Fen_mend : FnD P w K mg base 7 T.f_Fen_mend T.d_Fen_mend ["self", "number", "rise"] sp_Fen_mend) {spO : SpD} (len : ∀ ds e Q, spO ds e Q → ds.length = 3) (hT : ∀ ds e Q, spO ds e Q → t_law_no_run (endsD Q) (startD nm_law_no_run ds) e) : FnD P w K mg base 8 T.f_law_no_run T.d_law_no_run ["_law_fen", "_law_number", "_law_way"] spO := by
  have F_Fen_strike := T.F_Fen_strike
  have b_Fen_strike : Binds K T.d_Fen_strike ["self", "number"] [] := F_Fen_strike.bindsN fun _ _ _ _ _ _ us hl => match us, hl with | [_, _], _ => rfl
  have F_Fen_mend := T.F_Fen_mend
  have b_Fen_mend : Binds K T.d_Fen_mend ["self", "number", "rise"] [] := F_Fen_mend.bindsN fun _ _ _ _ _ _ us hl => match us, hl with | [_, _, _], _ => rfl
  refine fnD_ok T.F_law_no_run sc_law_no_run len (fun cdv A outer s H E hr => ?_) hT
  exact (dss_cons (ds_set (i := 3) sc_law_no_run.nd rfl (by first | exact Or.inl rfl | exact Or.inr rfl) d_bl)
 (dss_cons (ds_try rfl rfl ⟨rfl, by decide, .inl T.m_NoRun⟩ T.hx_NoRun (fun pn xe xc po => (dss_one (ds_if (dt_eq hr.units (dv 2) d_int) (dss_one (ds_expr (d_methX T.cl_Fen T.me_Fen_strike Gx_Fen_strike (hr.mono (by decide)) b_Fen_strike (dv 0) (da_cons (dv 1) da_nil))))
 (dss_one (ds_expr (d_methX T.cl_Fen T.me_Fen_mend Gx_Fen_mend (hr.mono (by decide)) b_Fen_mend (dv 0) (da_cons (dv 1) (da_cons d_int da_nil))))))))
 (fun _ _ _ => (dss_one (ds_set (i := 3) sc_law_no_run.nd rfl (by first | exact Or.inl rfl | exact Or.inr rfl) d_bl))))
 (dss_one (ds_ret (dv 3)))))
theorem ok_law (T : Txt K mg) (G_law_box : FnD P w K mg base 1 T.f_law_box T.d_law_box ["_law_script"] sp_law_box) (G_law_begun : FnD P w K mg base 8 T.f_law_begun T.d_law_begun ["_law_box_here", "_law_most_marks", "_law_most_hands", "_law_most_runs"] sp_law_begun) (G_law_take : FnD P w K mg base 1 T.f_law_take T.d_law_take ["_law_box_here", "_law_many"] sp_law_take) (G_law_run_deed : FnD P w K mg base 3 T.f_law_run_deed T.d_law_run_deed ["_law_box_here", "_law_model_here"] sp_law_run_deed) (G_law_step : FnD P w K mg base 7 T.f_law_step T.d_law_step ["_law_fen", "_law_model_here", "_law_deed"] sp_law_step) (Gx_Fen_back : FnX P w K mg base 3 T.f_Fen_back T.d_Fen_back ["self"] spx_Fen_back) (G_Fen_back : FnD P w K mg base 3 T.f_Fen_back T.d_Fen_back ["self"] sp_Fen_back) (G_law_same : FnD P w K mg base 5 T.f_law_same T.d_law_same ["_law_found", "_law_due_here"] sp_fsame) (G_Fen_runs : FnD P w K mg base 2 T.f_Fen_runs T.d_Fen_runs ["self"] sp_Fen_runs) (G_law_no_run : FnD P w K mg base 8 T.f_law_no_run T.d_law_no_run ["_law_fen", "_law_number", "_law_way"] sp_law_no_run) (G_law_right : FnD P w K mg base 6 T.f_law_right T.d_law_right ["_law_fen", "_law_model_here"] sp_law_right) {spO : SpD} (len : ∀ ds e Q, spO ds e Q → ds.length = 1) (hT : ∀ ds e Q, spO ds e Q → t_law (endsD Q) (startD nm_law ds) e) : FnD P w K mg base 9 T.f_law T.d_law ["_law_script"] spO := by
  have F_law_box := T.F_law_box
  have b_law_box : Binds K T.d_law_box ["_law_script"] [] := F_law_box.bindsN fun _ _ _ _ _ _ us hl => match us, hl with | [_], _ => rfl
  have F_law_begun := T.F_law_begun
  have b_law_begun : Binds K T.d_law_begun ["_law_box_here", "_law_most_marks", "_law_most_hands", "_law_most_runs"] [] := F_law_begun.bindsN fun _ _ _ _ _ _ us hl => match us, hl with | [_, _, _, _], _ => rfl
  have F_law_take := T.F_law_take
  have b_law_take : Binds K T.d_law_take ["_law_box_here", "_law_many"] [] := F_law_take.bindsN fun _ _ _ _ _ _ us hl => match us, hl with | [_, _], _ => rfl
  have F_law_run_deed := T.F_law_run_deed
  have b_law_run_deed : Binds K T.d_law_run_deed ["_law_box_here", "_law_model_here"] [] := F_law_run_deed.bindsN fun _ _ _ _ _ _ us hl => match us, hl with | [_, _], _ => rfl
  have F_law_step := T.F_law_step
  have b_law_step : Binds K T.d_law_step ["_law_fen", "_law_model_here", "_law_deed"] [] := F_law_step.bindsN fun _ _ _ _ _ _ us hl => match us, hl with | [_, _, _], _ => rfl
  have F_Fen_back := T.F_Fen_back
  have b_Fen_back : Binds K T.d_Fen_back ["self"] [] := F_Fen_back.bindsN fun _ _ _ _ _ _ us hl => match us, hl with | [_], _ => rfl
  have F_law_same := T.F_law_same
  have b_law_same : Binds K T.d_law_same ["_law_found", "_law_due_here"] [] := F_law_same.bindsN fun _ _ _ _ _ _ us hl => match us, hl with | [_, _], _ => rfl
  have F_Fen_runs := T.F_Fen_runs
  have b_Fen_runs : Binds K T.d_Fen_runs ["self"] [] := F_Fen_runs.bindsN fun _ _ _ _ _ _ us hl => match us, hl with | [_], _ => rfl
  have F_law_no_run := T.F_law_no_run
  have b_law_no_run : Binds K T.d_law_no_run ["_law_fen", "_law_number", "_law_way"] [] := F_law_no_run.bindsN fun _ _ _ _ _ _ us hl => match us, hl with | [_, _, _], _ => rfl
  have F_law_right := T.F_law_right
  have b_law_right : Binds K T.d_law_right ["_law_fen", "_law_model_here"] [] := F_law_right.bindsN fun _ _ _ _ _ _ us hl => match us, hl with | [_, _], _ => rfl
  refine fnD_ok T.F_law sc_law len (fun cdv A outer s H E hr => ?_) hT
  exact (dss_cons (ds_set (i := 1) sc_law.nd rfl (by first | exact Or.inl rfl | exact Or.inr rfl) (d_call G_law_box (hr.mono (by decide)) rfl T.m_law_box F_law_box.kp b_law_box (da_cons (dv 0) da_nil)))
 (dss_cons (ds_asg (d_call G_law_begun (hr.mono (by decide)) rfl T.m_law_begun F_law_begun.kp b_law_begun (da_cons (dv 1) (da_cons d_int (da_cons d_int (da_cons d_int da_nil))))) (gt_many rfl (gts_cons (gt_one sc_law.nd rfl (by first | exact Or.inl rfl | exact Or.inr rfl)) (gts_cons (gt_one sc_law.nd rfl (by first | exact Or.inl rfl | exact Or.inr rfl)) (gts_cons (gt_one sc_law.nd rfl (by first | exact Or.inl rfl | exact Or.inr rfl)) gts_nil)))))
 (dss_cons (ds_if (dt_isN (dv 3) d_non) (dss_one (ds_ret d_bl))
 dss_nil)
 (dss_cons (ds_for PassesOwn.never rfl (di_rng1 rfl T.b_range (d_add d_int (d_call G_law_take (hr.mono (by decide)) rfl T.m_law_take F_law_take.kp b_law_take (da_cons (dv 1) (da_cons d_int da_nil))))) (gt_one sc_law.nd rfl (by first | exact Or.inl rfl | exact Or.inr rfl))
 (dss_cons (ds_set (i := 6) sc_law.nd rfl (by first | exact Or.inl rfl | exact Or.inr rfl) (d_call G_law_run_deed (hr.mono (by decide)) rfl T.m_law_run_deed F_law_run_deed.kp b_law_run_deed (da_cons (dv 1) (da_cons (dv 3) da_nil))))
 (dss_cons (ds_set (i := 7) sc_law.nd rfl (by first | exact Or.inl rfl | exact Or.inr rfl) (d_call G_law_take (hr.mono (by decide)) rfl T.m_law_take F_law_take.kp b_law_take (da_cons (dv 1) (da_cons d_int da_nil))))
 (dss_cons (ds_if (DW.dt (dw_and (dt_eq hr.units (dv 7) d_int) (dw_and1 (dt_ne hr.units (d_ix hr.units (dv 3) d_str) (d_lst da_nil))))) (dss_one (ds_set (i := 6) sc_law.nd rfl (by first | exact Or.inl rfl | exact Or.inr rfl) (d_tup (da_cons d_str (da_cons (d_ix hr.units (d_ix hr.units (d_ix hr.units (dv 3) d_str) (d_call G_law_take (hr.mono (by decide)) rfl T.m_law_take F_law_take.kp b_law_take (da_cons (dv 1) (da_cons (d_len rfl T.b_len (da_cons (d_ix hr.units (dv 3) d_str) da_nil)) da_nil)))) d_int) da_nil)))))
 dss_nil)
 (dss_cons (ds_if (dt_notN (dv 6) d_non) (dss_cons (ds_set (i := 10) sc_law.nd rfl (by first | exact Or.inl rfl | exact Or.inr rfl) (d_call G_law_step (hr.mono (by decide)) rfl T.m_law_step F_law_step.kp b_law_step (da_cons (dv 2) (da_cons (dv 3) (da_cons (dv 6) da_nil)))))
 (dss_cons (ds_if (dt_isN (dv 10) d_non) (dss_one (ds_ret d_bl))
 dss_nil)
 (dss_one (ds_if (dt_eq hr.units (d_call G_law_take (hr.mono (by decide)) rfl T.m_law_take F_law_take.kp b_law_take (da_cons (dv 1) (da_cons d_int da_nil))) d_int) (dss_one (ds_expr (d_meth0 T.cl_Fen T.me_Fen_back G_Fen_back (hr.mono (by decide)) b_Fen_back (dv 2))))
 (dss_one (ds_set (i := 3) sc_law.nd rfl (by first | exact Or.inl rfl | exact Or.inr rfl) (dv 10)))))))
 dss_nil)
 (dss_cons (ds_setLc false (i := 8) (own := [("_law_row", 11)]) rfl sc_law.nd rfl rfl (sw_true rfl rfl rfl (by decide +kernel)) (di_seq (d_ix hr.units (dv 3) d_str)) (blkOk_by (own := [("_law_row", 11)]) (N := nm_law) (sc := defScope st_law) (by decide +kernel)) (by decide) (fun _ _ _ _ _ => (gt_one sc_law.nd rfl (by first | exact Or.inl rfl | exact Or.inr rfl))) (fun _ _ _ _ _ => dts_nil) (fun _ _ _ _ _ => (d_ix hr.units (dv 11) d_int)))
 (dss_cons (ds_if (dt_not (dt_tru (d_call G_law_same (hr.mono (by decide)) rfl T.m_law_same F_law_same.kp b_law_same (da_cons (d_comp false (own := [("_law_row", 11)]) rfl sc_law.nd (di_seq (d_meth0 T.cl_Fen T.me_Fen_runs G_Fen_runs (hr.mono (by decide)) b_Fen_runs (dv 2))) (blkOk_by (own := [("_law_row", 11)]) (N := nm_law) (sc := defScope st_law) (by decide +kernel)) (by decide) (fun _ _ _ _ _ => (gt_one sc_law.nd rfl (by first | exact Or.inl rfl | exact Or.inr rfl))) (fun _ _ _ _ _ => dts_nil) (fun _ _ _ _ _ => (d_ix hr.units (dv 11) d_int))) (da_cons (dv 8) da_nil))))) (dss_one (ds_ret d_bl))
 dss_nil)
 (dss_one (ds_for PassesOwn.never rfl (di_seq (d_tup (da_cons d_int (da_cons (d_add (d_ix hr.units (dv 3) d_str) d_int) (da_cons (d_call G_law_take (hr.mono (by decide)) rfl T.m_law_take F_law_take.kp b_law_take (da_cons (dv 1) (da_cons d_int da_nil))) da_nil))))) (gt_one sc_law.nd rfl (by first | exact Or.inl rfl | exact Or.inr rfl))
 (dss_one (ds_if (DW.dt (dw_and (dt_nin hr.units (dv 9) (dv 8)) (dw_and1 (dt_not (dt_tru (d_call G_law_no_run (hr.mono (by decide)) rfl T.m_law_no_run F_law_no_run.kp b_law_no_run (da_cons (dv 2) (da_cons (dv 9) (da_cons (d_mod (dv 7) d_int) da_nil))))))))) (dss_one (ds_ret d_bl))
 dss_nil)))))))))))
 (dss_one (ds_ret (d_call G_law_right (hr.mono (by decide)) rfl T.m_law_right F_law_right.kp b_law_right (da_cons (dv 2) (da_cons (dv 3) da_nil)))))))))
theorem ok_BadName___init__ (T : Txt K mg) : FnOk P w K mg base CX0 1 T.f_BadName___init__ T.d_BadName___init__ ["self"] (spEx K (He.ga K "BadName") "BadName") := exInit_ok T.F_BadName___init__ sc_BadName___init__ fun cdv A outer s H E => pss_one (ps_ost (pv 0) pe_str)
theorem ok_Taken___init__ (T : Txt K mg) : FnOk P w K mg base CX0 1 T.f_Taken___init__ T.d_Taken___init__ ["self"] (spEx K (He.ga K "Taken") "Taken") := exInit_ok T.F_Taken___init__ sc_Taken___init__ fun cdv A outer s H E => pss_one (ps_ost (pv 0) pe_str)
theorem ok_Full___init__ (T : Txt K mg) : FnOk P w K mg base CX0 1 T.f_Full___init__ T.d_Full___init__ ["self"] (spEx K (He.ga K "Full") "Full") := exInit_ok T.F_Full___init__ sc_Full___init__ fun cdv A outer s H E => pss_one (ps_ost (pv 0) pe_str)
theorem ok_NoMark___init__ (T : Txt K mg) : FnOk P w K mg base CX0 1 T.f_NoMark___init__ T.d_NoMark___init__ ["self"] (spEx K (He.ga K "NoMark") "NoMark") := exInit_ok T.F_NoMark___init__ sc_NoMark___init__ fun cdv A outer s H E => pss_one (ps_ost (pv 0) pe_str)
theorem ok_NoHand___init__ (T : Txt K mg) : FnOk P w K mg base CX0 1 T.f_NoHand___init__ T.d_NoHand___init__ ["self"] (spEx K (He.ga K "NoHand") "NoHand") := exInit_ok T.F_NoHand___init__ sc_NoHand___init__ fun cdv A outer s H E => pss_one (ps_ost (pv 0) pe_str)
theorem ok_Same___init__ (T : Txt K mg) : FnOk P w K mg base CX0 1 T.f_Same___init__ T.d_Same___init__ ["self"] (spEx K (He.ga K "Same") "Same") := exInit_ok T.F_Same___init__ sc_Same___init__ fun cdv A outer s H E => pss_one (ps_ost (pv 0) pe_str)
theorem ok_BadRise___init__ (T : Txt K mg) : FnOk P w K mg base CX0 1 T.f_BadRise___init__ T.d_BadRise___init__ ["self"] (spEx K (He.ga K "BadRise") "BadRise") := exInit_ok T.F_BadRise___init__ sc_BadRise___init__ fun cdv A outer s H E => pss_one (ps_ost (pv 0) pe_str)
theorem ok_NoRun___init__ (T : Txt K mg) : FnOk P w K mg base CX0 1 T.f_NoRun___init__ T.d_NoRun___init__ ["self"] (spEx K (He.ga K "NoRun") "NoRun") := exInit_ok T.F_NoRun___init__ sc_NoRun___init__ fun cdv A outer s H E => pss_one (ps_ost (pv 0) pe_str)
theorem ok_Aside___init__ (T : Txt K mg) : FnOk P w K mg base CX0 1 T.f_Aside___init__ T.d_Aside___init__ ["self"] (spEx K (He.ga K "Aside") "Aside") := exInit_ok T.F_Aside___init__ sc_Aside___init__ fun cdv A outer s H E => pss_one (ps_ost (pv 0) pe_str)
theorem ok_NotAside___init__ (T : Txt K mg) : FnOk P w K mg base CX0 1 T.f_NotAside___init__ T.d_NotAside___init__ ["self"] (spEx K (He.ga K "NotAside") "NotAside") := exInit_ok T.F_NotAside___init__ sc_NotAside___init__ fun cdv A outer s H E => pss_one (ps_ost (pv 0) pe_str)
theorem ok_BadNumber___init__ (T : Txt K mg) : FnOk P w K mg base CX0 1 T.f_BadNumber___init__ T.d_BadNumber___init__ ["self"] (spEx K (He.ga K "BadNumber") "BadNumber") := exInit_ok T.F_BadNumber___init__ sc_BadNumber___init__ fun cdv A outer s H E => pss_one (ps_ost (pv 0) pe_str)
theorem ok_NothingLeft___init__ (T : Txt K mg) : FnOk P w K mg base CX0 1 T.f_NothingLeft___init__ T.d_NothingLeft___init__ ["self"] (spEx K (He.ga K "NothingLeft") "NothingLeft") := exInit_ok T.F_NothingLeft___init__ sc_NothingLeft___init__ fun cdv A outer s H E => pss_one (ps_ost (pv 0) pe_str)
end
end FL.K39

set_option Elab.async false
set_option linter.all false
set_option maxRecDepth 100000
/-! What the head looks at, for a top with classes: only what the module's names lead to. -/
namespace FL
open PySem PySem.Spec PyProof.Rows L2
def entV (o : Obj) : List Value := match o.data with
  | .dict es _ => es.toList.map (·.val)
  | _ => []
def refsM (g : Addr → Option Obj) : Value → List Addr
  | .ref b => (match g b with
    | some ⟨_, _, .func fd, _⟩ => b :: He.refV fd.code
    | _ => [])
  | _ => []
def refsT (g : Addr → Option Obj) : Value → List Addr
  | .ref b => (match g b with
    | some ⟨_, _, .func fd, _⟩ => b :: He.refV fd.code
    | some ⟨_, _, .cls cd, _⟩ => b :: cd.ns :: (match g cd.ns with
      | some o => (entV o).flatMap (refsM g)
      | none => [])
    | _ => [])
  | _ => []
/-- the addresses that count -/
def rch (g : Addr → Option Obj) : List Addr := mainGlobals :: match g mainGlobals with
  | some o => (entV o).flatMap (refsT g)
  | none => []
abbrev AlL : Type := He.AlD × Bool
def obsL (fa : List He.Fa) (fn : List He.DefD) (ex : PySem.W.Frag → Bool) (g : Addr → Option Obj) : AlL := (He.obsD fa fn (He.frG g (rch g)), ex (He.frG g (rch g)))
def hookL (fa : List He.Fa) (fn : List He.DefD) (ex : PySem.W.Frag → Bool) : PySem.W.Hook where
  α := AlL
  obs := fun s => obsL fa fn ex s.heap.get?
  val := fun _ => (He.valD fn, true)
  says := fun _ h => ∃ K : PySem.W.Frag, K.In h ∧ He.SaysD fa fn K ∧ ex K = true
  of := fun _ _ e => ⟨_, He.frG_in, congrArg (fun z : AlL => z.1) e, congrArg (fun z : AlL => z.2) e⟩
  keeps := fun _ _ _ ⟨K, hK, c⟩ k => ⟨K, PySem.W.Frag.In.keeps hK k, c⟩
theorem obsL_eq {fa : List He.Fa} {fn : List He.DefD} {ex : PySem.W.Frag → Bool} {g : Addr → Option Obj} {s : Shared} (h : ∀ a, g a = s.heap.get? a) : obsL fa fn ex g = (hookL fa fn ex).obs s := by
  rw [show g = s.heap.get? from funext h]
  rfl
end FL

set_option Elab.async false
set_option linter.all false
set_option maxRecDepth 100000
set_option maxHeartbeats 0
namespace FL.K39
open PySem PySem.Spec PyProof.Rows L2
def D_is_name : He.DefD := ⟨("is_name", none), "is_name", "is_name", defArgs st_is_name, defBody st_is_name, defScope st_is_name, [], []⟩
def D_look_at_name : He.DefD := ⟨("look_at_name", none), "look_at_name", "look_at_name", defArgs st_look_at_name, defBody st_look_at_name, defScope st_look_at_name, [], []⟩
def D_Stand___init__ : He.DefD := ⟨("Stand", some "__init__"), "__init__", "Stand.__init__", defArgs st_Stand___init__, defBody st_Stand___init__, defScope st_Stand___init__, [], []⟩
def D_Stand_like : He.DefD := ⟨("Stand", some "like"), "like", "Stand.like", defArgs st_Stand_like, defBody st_Stand_like, defScope st_Stand_like, [], []⟩
def D_Stand_turns_of : He.DefD := ⟨("Stand", some "turns_of"), "turns_of", "Stand.turns_of", defArgs st_Stand_turns_of, defBody st_Stand_turns_of, defScope st_Stand_turns_of, [], []⟩
def D_Stand_place_of : He.DefD := ⟨("Stand", some "place_of"), "place_of", "Stand.place_of", defArgs st_Stand_place_of, defBody st_Stand_place_of, defScope st_Stand_place_of, [], []⟩
def D_Stand_mark_names : He.DefD := ⟨("Stand", some "mark_names"), "mark_names", "Stand.mark_names", defArgs st_Stand_mark_names, defBody st_Stand_mark_names, defScope st_Stand_mark_names, [], []⟩
def D_Stand_check_hand : He.DefD := ⟨("Stand", some "check_hand"), "check_hand", "Stand.check_hand", defArgs st_Stand_check_hand, defBody st_Stand_check_hand, defScope st_Stand_check_hand, [], []⟩
def D_Stand_put_mark : He.DefD := ⟨("Stand", some "put_mark"), "put_mark", "Stand.put_mark", defArgs st_Stand_put_mark, defBody st_Stand_put_mark, defScope st_Stand_put_mark, [], []⟩
def D_Stand_put_hand : He.DefD := ⟨("Stand", some "put_hand"), "put_hand", "Stand.put_hand", defArgs st_Stand_put_hand, defBody st_Stand_put_hand, defScope st_Stand_put_hand, [], []⟩
def D_Stand_put_run : He.DefD := ⟨("Stand", some "put_run"), "put_run", "Stand.put_run", defArgs st_Stand_put_run, defBody st_Stand_put_run, defScope st_Stand_put_run, [], []⟩
def D_Stand_row_at : He.DefD := ⟨("Stand", some "row_at"), "row_at", "Stand.row_at", defArgs st_Stand_row_at, defBody st_Stand_row_at, defScope st_Stand_row_at, [], []⟩
def D_Stand_end_run : He.DefD := ⟨("Stand", some "end_run"), "end_run", "Stand.end_run", defArgs st_Stand_end_run, defBody st_Stand_end_run, defScope st_Stand_end_run, [], []⟩
def D_Stand_mend_run : He.DefD := ⟨("Stand", some "mend_run"), "mend_run", "Stand.mend_run", defArgs st_Stand_mend_run, defBody st_Stand_mend_run, defScope st_Stand_mend_run, [], []⟩
def D_Stand_settle : He.DefD := ⟨("Stand", some "settle"), "settle", "Stand.settle", defArgs st_Stand_settle, defBody st_Stand_settle, defScope st_Stand_settle, [], []⟩
def D_Stand_put_aside : He.DefD := ⟨("Stand", some "put_aside"), "put_aside", "Stand.put_aside", defArgs st_Stand_put_aside, defBody st_Stand_put_aside, defScope st_Stand_put_aside, [], []⟩
def D_Stand_heed : He.DefD := ⟨("Stand", some "heed"), "heed", "Stand.heed", defArgs st_Stand_heed, defBody st_Stand_heed, defScope st_Stand_heed, [], []⟩
def D_Stand_allow : He.DefD := ⟨("Stand", some "allow"), "allow", "Stand.allow", defArgs st_Stand_allow, defBody st_Stand_allow, defScope st_Stand_allow, [], []⟩
def D_Stand_hand_names : He.DefD := ⟨("Stand", some "hand_names"), "hand_names", "Stand.hand_names", defArgs st_Stand_hand_names, defBody st_Stand_hand_names, defScope st_Stand_hand_names, [], []⟩
def D_Stand_counted : He.DefD := ⟨("Stand", some "counted"), "counted", "Stand.counted", defArgs st_Stand_counted, defBody st_Stand_counted, defScope st_Stand_counted, [], []⟩
def D_done_by : He.DefD := ⟨("done_by", none), "done_by", "done_by", defArgs st_done_by, defBody st_done_by, defScope st_done_by, [], []⟩
def D_Fen___init__ : He.DefD := ⟨("Fen", some "__init__"), "__init__", "Fen.__init__", defArgs st_Fen___init__, defBody st_Fen___init__, defScope st_Fen___init__, [], []⟩
def D_Fen_now : He.DefD := ⟨("Fen", some "now"), "now", "Fen.now", defArgs st_Fen_now, defBody st_Fen_now, defScope st_Fen_now, [], []⟩
def D_Fen_deed : He.DefD := ⟨("Fen", some "deed"), "deed", "Fen.deed", defArgs st_Fen_deed, defBody st_Fen_deed, defScope st_Fen_deed, [], []⟩
def D_Fen_strike : He.DefD := ⟨("Fen", some "strike"), "strike", "Fen.strike", defArgs st_Fen_strike, defBody st_Fen_strike, defScope st_Fen_strike, [], []⟩
def D_Fen_mend : He.DefD := ⟨("Fen", some "mend"), "mend", "Fen.mend", defArgs st_Fen_mend, defBody st_Fen_mend, defScope st_Fen_mend, [], []⟩
def D_Fen_back : He.DefD := ⟨("Fen", some "back"), "back", "Fen.back", defArgs st_Fen_back, defBody st_Fen_back, defScope st_Fen_back, [], []⟩
def D_Fen_deeds : He.DefD := ⟨("Fen", some "deeds"), "deeds", "Fen.deeds", defArgs st_Fen_deeds, defBody st_Fen_deeds, defScope st_Fen_deeds, [], []⟩
def D_Fen_marks : He.DefD := ⟨("Fen", some "marks"), "marks", "Fen.marks", defArgs st_Fen_marks, defBody st_Fen_marks, defScope st_Fen_marks, [], []⟩
def D_Fen_hands : He.DefD := ⟨("Fen", some "hands"), "hands", "Fen.hands", defArgs st_Fen_hands, defBody st_Fen_hands, defScope st_Fen_hands, [], []⟩
def D_Fen_asides : He.DefD := ⟨("Fen", some "asides"), "asides", "Fen.asides", defArgs st_Fen_asides, defBody st_Fen_asides, defScope st_Fen_asides, [], []⟩
def D_Fen_stands : He.DefD := ⟨("Fen", some "stands"), "stands", "Fen.stands", defArgs st_Fen_stands, defBody st_Fen_stands, defScope st_Fen_stands, [], []⟩
def D_Fen_allowed : He.DefD := ⟨("Fen", some "allowed"), "allowed", "Fen.allowed", defArgs st_Fen_allowed, defBody st_Fen_allowed, defScope st_Fen_allowed, [], []⟩
def D_Fen_runs : He.DefD := ⟨("Fen", some "runs"), "runs", "Fen.runs", defArgs st_Fen_runs, defBody st_Fen_runs, defScope st_Fen_runs, [], []⟩
def D_Fen_counting : He.DefD := ⟨("Fen", some "counting"), "counting", "Fen.counting", defArgs st_Fen_counting, defBody st_Fen_counting, defScope st_Fen_counting, [], []⟩
def D_law_box : He.DefD := ⟨("_law_box", none), "_law_box", "_law_box", defArgs st_law_box, defBody st_law_box, defScope st_law_box, [], []⟩
def D_law_take : He.DefD := ⟨("_law_take", none), "_law_take", "_law_take", defArgs st_law_take, defBody st_law_take, defScope st_law_take, [], []⟩
def D_law_same : He.DefD := ⟨("_law_same", none), "_law_same", "_law_same", defArgs st_law_same, defBody st_law_same, defScope st_law_same, [], []⟩
def D_law_names : He.DefD := ⟨("_law_names", none), "_law_names", "_law_names", defArgs st_law_names, defBody st_law_names, defScope st_law_names, [], []⟩
def D_law_model : He.DefD := ⟨("_law_model", none), "_law_model", "_law_model", defArgs st_law_model, defBody st_law_model, defScope st_law_model, [], []⟩
def D_law_turns : He.DefD := ⟨("_law_turns", none), "_law_turns", "_law_turns", defArgs st_law_turns, defBody st_law_turns, defScope st_law_turns, [], []⟩
def D_law_place : He.DefD := ⟨("_law_place", none), "_law_place", "_law_place", defArgs st_law_place, defBody st_law_place, defScope st_law_place, [], []⟩
def D_law_marks : He.DefD := ⟨("_law_marks", none), "_law_marks", "_law_marks", defArgs st_law_marks, defBody st_law_marks, defScope st_law_marks, [], []⟩
def D_law_counted : He.DefD := ⟨("_law_counted", none), "_law_counted", "_law_counted", defArgs st_law_counted, defBody st_law_counted, defScope st_law_counted, [], []⟩
def D_law_done : He.DefD := ⟨("_law_done", none), "_law_done", "_law_done", defArgs st_law_done, defBody st_law_done, defScope st_law_done, [], []⟩
def D_law_due_told : He.DefD := ⟨("_law_due_told", none), "_law_due_told", "_law_due_told", defArgs st_law_due_told, defBody st_law_due_told, defScope st_law_due_told, [], []⟩
def D_law_step : He.DefD := ⟨("_law_step", none), "_law_step", "_law_step", defArgs st_law_step, defBody st_law_step, defScope st_law_step, [], []⟩
def D_law_seen : He.DefD := ⟨("_law_seen", none), "_law_seen", "_law_seen", defArgs st_law_seen, defBody st_law_seen, defScope st_law_seen, [], []⟩
def D_law_due : He.DefD := ⟨("_law_due", none), "_law_due", "_law_due", defArgs st_law_due, defBody st_law_due, defScope st_law_due, [], []⟩
def D_law_right : He.DefD := ⟨("_law_right", none), "_law_right", "_law_right", defArgs st_law_right, defBody st_law_right, defScope st_law_right, [], []⟩
def D_law_truth : He.DefD := ⟨("_law_truth", none), "_law_truth", "_law_truth", defArgs st_law_truth, defBody st_law_truth, defScope st_law_truth, [], []⟩
def D_law_run_deed : He.DefD := ⟨("_law_run_deed", none), "_law_run_deed", "_law_run_deed", defArgs st_law_run_deed, defBody st_law_run_deed, defScope st_law_run_deed, [], []⟩
def D_law_begun : He.DefD := ⟨("_law_begun", none), "_law_begun", "_law_begun", defArgs st_law_begun, defBody st_law_begun, defScope st_law_begun, [], []⟩
def D_law_no_run : He.DefD := ⟨("_law_no_run", none), "_law_no_run", "_law_no_run", defArgs st_law_no_run, defBody st_law_no_run, defScope st_law_no_run, [], []⟩
def D_law : He.DefD := ⟨("law", none), "law", "law", defArgs st_law, defBody st_law, defScope st_law, [], []⟩
def D_BadName___init__ : He.DefD := ⟨("BadName", some "__init__"), "__init__", "BadName.__init__", defArgs st_BadName___init__, defBody st_BadName___init__, defScope st_BadName___init__, [], []⟩
def D_Taken___init__ : He.DefD := ⟨("Taken", some "__init__"), "__init__", "Taken.__init__", defArgs st_Taken___init__, defBody st_Taken___init__, defScope st_Taken___init__, [], []⟩
def D_Full___init__ : He.DefD := ⟨("Full", some "__init__"), "__init__", "Full.__init__", defArgs st_Full___init__, defBody st_Full___init__, defScope st_Full___init__, [], []⟩
def D_NoMark___init__ : He.DefD := ⟨("NoMark", some "__init__"), "__init__", "NoMark.__init__", defArgs st_NoMark___init__, defBody st_NoMark___init__, defScope st_NoMark___init__, [], []⟩
def D_NoHand___init__ : He.DefD := ⟨("NoHand", some "__init__"), "__init__", "NoHand.__init__", defArgs st_NoHand___init__, defBody st_NoHand___init__, defScope st_NoHand___init__, [], []⟩
def D_Same___init__ : He.DefD := ⟨("Same", some "__init__"), "__init__", "Same.__init__", defArgs st_Same___init__, defBody st_Same___init__, defScope st_Same___init__, [], []⟩
def D_BadRise___init__ : He.DefD := ⟨("BadRise", some "__init__"), "__init__", "BadRise.__init__", defArgs st_BadRise___init__, defBody st_BadRise___init__, defScope st_BadRise___init__, [], []⟩
def D_NoRun___init__ : He.DefD := ⟨("NoRun", some "__init__"), "__init__", "NoRun.__init__", defArgs st_NoRun___init__, defBody st_NoRun___init__, defScope st_NoRun___init__, [], []⟩
def D_Aside___init__ : He.DefD := ⟨("Aside", some "__init__"), "__init__", "Aside.__init__", defArgs st_Aside___init__, defBody st_Aside___init__, defScope st_Aside___init__, [], []⟩
def D_NotAside___init__ : He.DefD := ⟨("NotAside", some "__init__"), "__init__", "NotAside.__init__", defArgs st_NotAside___init__, defBody st_NotAside___init__, defScope st_NotAside___init__, [], []⟩
def D_BadNumber___init__ : He.DefD := ⟨("BadNumber", some "__init__"), "__init__", "BadNumber.__init__", defArgs st_BadNumber___init__, defBody st_BadNumber___init__, defScope st_BadNumber___init__, [], []⟩
def D_NothingLeft___init__ : He.DefD := ⟨("NothingLeft", some "__init__"), "__init__", "NothingLeft.__init__", defArgs st_NothingLeft___init__, defBody st_NothingLeft___init__, defScope st_NothingLeft___init__, [], []⟩
def fn : List He.DefD := (D_is_name :: (D_look_at_name :: (D_Stand___init__ :: (D_Stand_like :: (D_Stand_turns_of :: (D_Stand_place_of :: (D_Stand_mark_names :: (D_Stand_check_hand :: (D_Stand_put_mark :: (D_Stand_put_hand :: (D_Stand_put_run :: (D_Stand_row_at :: (D_Stand_end_run :: (D_Stand_mend_run :: (D_Stand_settle :: (D_Stand_put_aside :: (D_Stand_heed :: (D_Stand_allow :: (D_Stand_hand_names :: (D_Stand_counted :: (D_done_by :: (D_Fen___init__ :: (D_Fen_now :: (D_Fen_deed :: (D_Fen_strike :: (D_Fen_mend :: (D_Fen_back :: (D_Fen_deeds :: (D_Fen_marks :: (D_Fen_hands :: (D_Fen_asides :: (D_Fen_stands :: (D_Fen_allowed :: (D_Fen_runs :: (D_Fen_counting :: (D_law_box :: (D_law_take :: (D_law_same :: (D_law_names :: (D_law_model :: (D_law_turns :: (D_law_place :: (D_law_marks :: (D_law_counted :: (D_law_done :: (D_law_due_told :: (D_law_step :: (D_law_seen :: (D_law_due :: (D_law_right :: (D_law_truth :: (D_law_run_deed :: (D_law_begun :: (D_law_no_run :: (D_law :: (D_BadName___init__ :: (D_Taken___init__ :: (D_Full___init__ :: (D_NoMark___init__ :: (D_NoHand___init__ :: (D_Same___init__ :: (D_BadRise___init__ :: (D_NoRun___init__ :: (D_Aside___init__ :: (D_NotAside___init__ :: (D_BadNumber___init__ :: (D_NothingLeft___init__ :: [])))))))))))))))))))))))))))))))))))))))))))))))))))))))))))))))))))
def fa : List He.Fa := (.glo "is_name" :: (.glo "look_at_name" :: (.glo "done_by" :: (.glo "_law_box" :: (.glo "_law_take" :: (.glo "_law_same" :: (.glo "_law_names" :: (.glo "_law_model" :: (.glo "_law_turns" :: (.glo "_law_place" :: (.glo "_law_marks" :: (.glo "_law_counted" :: (.glo "_law_done" :: (.glo "_law_due_told" :: (.glo "_law_step" :: (.glo "_law_seen" :: (.glo "_law_due" :: (.glo "_law_right" :: (.glo "_law_truth" :: (.glo "_law_run_deed" :: (.glo "_law_begun" :: (.glo "_law_no_run" :: (.glo "law" :: (.int "LONGEST" 8 :: (.str "LETTERS" "abcdefghijklmnopqrstuvwxyz" :: (.glo "BadName" :: (.cls "Stand" :: (.noat "Stand" "places" :: (.noat "Stand" "heeded" :: (.noat "Stand" "rows" :: (.noat "Stand" "entered" :: (.noat "Stand" "many" :: (.mkr "Stand" :: (.glo "Stand" :: (.meth "Stand" "turns_of" :: (.glo "NoMark" :: (.glo "NoHand" :: (.glo "Taken" :: (.int "MOST_STANDS" 12 :: (.glo "Full" :: (.int "MOST_HANDS" 10 :: (.meth "Stand" "place_of" :: (.glo "Same" :: (.meth "Stand" "check_hand" :: (.int "MOST_RISE" 1000000000 :: (.glo "BadRise" :: (.int "MOST_RUNS" 40 :: (.glo "NoRun" :: (.meth "Stand" "row_at" :: (.glo "Aside" :: (.glo "NotAside" :: (.int "MOST_FALSE" 3 :: (.glo "BadNumber" :: (.meth "Stand" "put_mark" :: (.meth "Stand" "put_hand" :: (.meth "Stand" "put_run" :: (.meth "Stand" "end_run" :: (.meth "Stand" "mend_run" :: (.meth "Stand" "settle" :: (.meth "Stand" "put_aside" :: (.meth "Stand" "heed" :: (.meth "Stand" "allow" :: (.cls "Fen" :: (.noat "Fen" "kept" :: (.noat "Fen" "done" :: (.noat "Fen" "undone" :: (.meth "Fen" "now" :: (.meth "Stand" "like" :: (.meth "Fen" "deed" :: (.glo "NothingLeft" :: (.meth "Stand" "mark_names" :: (.meth "Stand" "hand_names" :: (.meth "Stand" "counted" :: (.meth "Fen" "counting" :: (.meth "Fen" "runs" :: (.meth "Fen" "allowed" :: (.meth "Fen" "stands" :: (.meth "Fen" "asides" :: (.meth "Fen" "hands" :: (.meth "Fen" "marks" :: (.meth "Fen" "deeds" :: (.mkr "Fen" :: (.glo "Fen" :: (.meth "Fen" "strike" :: (.meth "Fen" "mend" :: (.meth "Fen" "back" :: (.free "len" :: (.free "all" :: (.free "list" :: (.free "dict" :: (.free "enumerate" :: (.free "isinstance" :: (.free "tuple" :: (.free "zip" :: (.free "bool" :: (.free "int" :: (.free "str" :: (.free "range" :: []))))))))))))))))))))))))))))))))))))))))))))))))))))))))))))))))))))))))))))))))))))))))))))))))))
def ex (K : PySem.W.Frag) : Bool := exkB K "BadName" && (exkB K "NoMark" && (exkB K "NoHand" && (exkB K "Taken" && (exkB K "Full" && (exkB K "Same" && (exkB K "BadRise" && (exkB K "NoRun" && (exkB K "Aside" && (exkB K "NotAside" && (exkB K "BadNumber" && (exkB K "NothingLeft" && (clauseB K "NoRun" && (true)))))))))))))
abbrev R : PySem.W.OpenRow := PySem.W.OpenLaw.row PySem.Challenge.rw_fenlevel_k39_whole_numbers_are_given_onc
abbrev hk : PySem.W.Hook := hookL fa fn ex
def ob (s : PySem.W.SharedT) : AlL := obsL fa fn ex (HandSHeadRun.getT s)
theorem ob_eq (s : PySem.W.SharedT) : ob s = hk.obs s.abs := obsL_eq (HandSHeadRun.getT_eq s)
abbrev loose : List Str := (("_wall" : Str) :: (("FenError" : Str) :: (("BadName" : Str) :: (("Taken" : Str) :: (("Full" : Str) :: (("NoMark" : Str) :: (("NoHand" : Str) :: (("Same" : Str) :: (("BadRise" : Str) :: (("NoRun" : Str) :: (("Aside" : Str) :: (("NotAside" : Str) :: (("BadNumber" : Str) :: (("NothingLeft" : Str) :: (("LETTERS" : Str) :: (("LONGEST" : Str) :: (("is_name" : Str) :: (("look_at_name" : Str) :: (("MOST_STANDS" : Str) :: (("MOST_HANDS" : Str) :: (("MOST_RUNS" : Str) :: (("MOST_RISE" : Str) :: (("MOST_FALSE" : Str) :: (("Stand" : Str) :: (("done_by" : Str) :: (("Fen" : Str) :: (("_law_box" : Str) :: (("_law_take" : Str) :: (("_law_same" : Str) :: (("_law_names" : Str) :: (("_law_model" : Str) :: (("_law_turns" : Str) :: (("_law_place" : Str) :: (("_law_marks" : Str) :: (("_law_counted" : Str) :: (("_law_done" : Str) :: (("_law_due_told" : Str) :: (("_law_step" : Str) :: (("_law_seen" : Str) :: (("_law_due" : Str) :: (("_law_right" : Str) :: (("_law_truth" : Str) :: (("_law_run_deed" : Str) :: (("_law_begun" : Str) :: (("_law_no_run" : Str) :: [])))))))))))))))))))))))))))))))))))))))))))))
theorem run (w : World) : HandSHeadRun.RunEq R (PySem.W.view R.prog [50]) hk ob 20000 loose w := by
  intro os
  kernel_rfl
theorem facts {P : Program} {w : World} {K : PySem.W.Frag} {h : Heap} {mg : Str → Option Value} {f : Addr} (X : K.In h) (G : h.Ns mainGlobals mg) (hfa : mg ("law" : Str) = some (.ref f)) (c : He.SaysD fa fn K) (cx : ex K = true) :
    ∃ fd : FuncData, (∀ (s : Shared) (v : Value), BindsTo s fd ⟨[v], []⟩ [("_law_script", v)]) ∧ ∀ base : Heap, K.In base → base.Ns mainGlobals mg → FnD P w K mg base 9 f fd ["_law_script"] spLaw := by
  obtain ⟨x0, cx⟩ := He.ba cx
  obtain ⟨x1, cx⟩ := He.ba cx
  obtain ⟨x2, cx⟩ := He.ba cx
  obtain ⟨x3, cx⟩ := He.ba cx
  obtain ⟨x4, cx⟩ := He.ba cx
  obtain ⟨x5, cx⟩ := He.ba cx
  obtain ⟨x6, cx⟩ := He.ba cx
  obtain ⟨x7, cx⟩ := He.ba cx
  obtain ⟨x8, cx⟩ := He.ba cx
  obtain ⟨x9, cx⟩ := He.ba cx
  obtain ⟨x10, cx⟩ := He.ba cx
  obtain ⟨x11, cx⟩ := He.ba cx
  obtain ⟨x12, cx⟩ := He.ba cx
  obtain ⟨d_is_name, F_is_name⟩ := c.def_ 0 (d := D_is_name) rfl
  obtain ⟨d_look_at_name, F_look_at_name⟩ := c.def_ 1 (d := D_look_at_name) rfl
  obtain ⟨d_Stand___init__, F_Stand___init__⟩ := c.def_ 2 (d := D_Stand___init__) rfl
  obtain ⟨d_Stand_like, F_Stand_like⟩ := c.def_ 3 (d := D_Stand_like) rfl
  obtain ⟨d_Stand_turns_of, F_Stand_turns_of⟩ := c.def_ 4 (d := D_Stand_turns_of) rfl
  obtain ⟨d_Stand_place_of, F_Stand_place_of⟩ := c.def_ 5 (d := D_Stand_place_of) rfl
  obtain ⟨d_Stand_mark_names, F_Stand_mark_names⟩ := c.def_ 6 (d := D_Stand_mark_names) rfl
  obtain ⟨d_Stand_check_hand, F_Stand_check_hand⟩ := c.def_ 7 (d := D_Stand_check_hand) rfl
  obtain ⟨d_Stand_put_mark, F_Stand_put_mark⟩ := c.def_ 8 (d := D_Stand_put_mark) rfl
  obtain ⟨d_Stand_put_hand, F_Stand_put_hand⟩ := c.def_ 9 (d := D_Stand_put_hand) rfl
  obtain ⟨d_Stand_put_run, F_Stand_put_run⟩ := c.def_ 10 (d := D_Stand_put_run) rfl
  obtain ⟨d_Stand_row_at, F_Stand_row_at⟩ := c.def_ 11 (d := D_Stand_row_at) rfl
  obtain ⟨d_Stand_end_run, F_Stand_end_run⟩ := c.def_ 12 (d := D_Stand_end_run) rfl
  obtain ⟨d_Stand_mend_run, F_Stand_mend_run⟩ := c.def_ 13 (d := D_Stand_mend_run) rfl
  obtain ⟨d_Stand_settle, F_Stand_settle⟩ := c.def_ 14 (d := D_Stand_settle) rfl
  obtain ⟨d_Stand_put_aside, F_Stand_put_aside⟩ := c.def_ 15 (d := D_Stand_put_aside) rfl
  obtain ⟨d_Stand_heed, F_Stand_heed⟩ := c.def_ 16 (d := D_Stand_heed) rfl
  obtain ⟨d_Stand_allow, F_Stand_allow⟩ := c.def_ 17 (d := D_Stand_allow) rfl
  obtain ⟨d_Stand_hand_names, F_Stand_hand_names⟩ := c.def_ 18 (d := D_Stand_hand_names) rfl
  obtain ⟨d_Stand_counted, F_Stand_counted⟩ := c.def_ 19 (d := D_Stand_counted) rfl
  obtain ⟨d_done_by, F_done_by⟩ := c.def_ 20 (d := D_done_by) rfl
  obtain ⟨d_Fen___init__, F_Fen___init__⟩ := c.def_ 21 (d := D_Fen___init__) rfl
  obtain ⟨d_Fen_now, F_Fen_now⟩ := c.def_ 22 (d := D_Fen_now) rfl
  obtain ⟨d_Fen_deed, F_Fen_deed⟩ := c.def_ 23 (d := D_Fen_deed) rfl
  obtain ⟨d_Fen_strike, F_Fen_strike⟩ := c.def_ 24 (d := D_Fen_strike) rfl
  obtain ⟨d_Fen_mend, F_Fen_mend⟩ := c.def_ 25 (d := D_Fen_mend) rfl
  obtain ⟨d_Fen_back, F_Fen_back⟩ := c.def_ 26 (d := D_Fen_back) rfl
  obtain ⟨d_Fen_deeds, F_Fen_deeds⟩ := c.def_ 27 (d := D_Fen_deeds) rfl
  obtain ⟨d_Fen_marks, F_Fen_marks⟩ := c.def_ 28 (d := D_Fen_marks) rfl
  obtain ⟨d_Fen_hands, F_Fen_hands⟩ := c.def_ 29 (d := D_Fen_hands) rfl
  obtain ⟨d_Fen_asides, F_Fen_asides⟩ := c.def_ 30 (d := D_Fen_asides) rfl
  obtain ⟨d_Fen_stands, F_Fen_stands⟩ := c.def_ 31 (d := D_Fen_stands) rfl
  obtain ⟨d_Fen_allowed, F_Fen_allowed⟩ := c.def_ 32 (d := D_Fen_allowed) rfl
  obtain ⟨d_Fen_runs, F_Fen_runs⟩ := c.def_ 33 (d := D_Fen_runs) rfl
  obtain ⟨d_Fen_counting, F_Fen_counting⟩ := c.def_ 34 (d := D_Fen_counting) rfl
  obtain ⟨d_law_box, F_law_box⟩ := c.def_ 35 (d := D_law_box) rfl
  obtain ⟨d_law_take, F_law_take⟩ := c.def_ 36 (d := D_law_take) rfl
  obtain ⟨d_law_same, F_law_same⟩ := c.def_ 37 (d := D_law_same) rfl
  obtain ⟨d_law_names, F_law_names⟩ := c.def_ 38 (d := D_law_names) rfl
  obtain ⟨d_law_model, F_law_model⟩ := c.def_ 39 (d := D_law_model) rfl
  obtain ⟨d_law_turns, F_law_turns⟩ := c.def_ 40 (d := D_law_turns) rfl
  obtain ⟨d_law_place, F_law_place⟩ := c.def_ 41 (d := D_law_place) rfl
  obtain ⟨d_law_marks, F_law_marks⟩ := c.def_ 42 (d := D_law_marks) rfl
  obtain ⟨d_law_counted, F_law_counted⟩ := c.def_ 43 (d := D_law_counted) rfl
  obtain ⟨d_law_done, F_law_done⟩ := c.def_ 44 (d := D_law_done) rfl
  obtain ⟨d_law_due_told, F_law_due_told⟩ := c.def_ 45 (d := D_law_due_told) rfl
  obtain ⟨d_law_step, F_law_step⟩ := c.def_ 46 (d := D_law_step) rfl
  obtain ⟨d_law_seen, F_law_seen⟩ := c.def_ 47 (d := D_law_seen) rfl
  obtain ⟨d_law_due, F_law_due⟩ := c.def_ 48 (d := D_law_due) rfl
  obtain ⟨d_law_right, F_law_right⟩ := c.def_ 49 (d := D_law_right) rfl
  obtain ⟨d_law_truth, F_law_truth⟩ := c.def_ 50 (d := D_law_truth) rfl
  obtain ⟨d_law_run_deed, F_law_run_deed⟩ := c.def_ 51 (d := D_law_run_deed) rfl
  obtain ⟨d_law_begun, F_law_begun⟩ := c.def_ 52 (d := D_law_begun) rfl
  obtain ⟨d_law_no_run, F_law_no_run⟩ := c.def_ 53 (d := D_law_no_run) rfl
  obtain ⟨d_law, F_law⟩ := c.def_ 54 (d := D_law) rfl
  obtain ⟨d_BadName___init__, F_BadName___init__⟩ := c.def_ 55 (d := D_BadName___init__) rfl
  obtain ⟨d_Taken___init__, F_Taken___init__⟩ := c.def_ 56 (d := D_Taken___init__) rfl
  obtain ⟨d_Full___init__, F_Full___init__⟩ := c.def_ 57 (d := D_Full___init__) rfl
  obtain ⟨d_NoMark___init__, F_NoMark___init__⟩ := c.def_ 58 (d := D_NoMark___init__) rfl
  obtain ⟨d_NoHand___init__, F_NoHand___init__⟩ := c.def_ 59 (d := D_NoHand___init__) rfl
  obtain ⟨d_Same___init__, F_Same___init__⟩ := c.def_ 60 (d := D_Same___init__) rfl
  obtain ⟨d_BadRise___init__, F_BadRise___init__⟩ := c.def_ 61 (d := D_BadRise___init__) rfl
  obtain ⟨d_NoRun___init__, F_NoRun___init__⟩ := c.def_ 62 (d := D_NoRun___init__) rfl
  obtain ⟨d_Aside___init__, F_Aside___init__⟩ := c.def_ 63 (d := D_Aside___init__) rfl
  obtain ⟨d_NotAside___init__, F_NotAside___init__⟩ := c.def_ 64 (d := D_NotAside___init__) rfl
  obtain ⟨d_BadNumber___init__, F_BadNumber___init__⟩ := c.def_ 65 (d := D_BadNumber___init__) rfl
  obtain ⟨d_NothingLeft___init__, F_NothingLeft___init__⟩ := c.def_ 66 (d := D_NothingLeft___init__) rfl
  have e := hfa.symm.trans (He.glo_ok X G (c.fact 22 (f := .glo "law") rfl))
  cases e
  have b := FunD.bindsA (ps := ["_law_script"]) F_law fun _ _ _ _ _ _ us hl => match us, hl with | [_], _ => rfl
  let T : Txt K mg := ⟨_, d_is_name,
    _, d_look_at_name,
    _, d_Stand___init__,
    _, d_Stand_like,
    _, d_Stand_turns_of,
    _, d_Stand_place_of,
    _, d_Stand_mark_names,
    _, d_Stand_check_hand,
    _, d_Stand_put_mark,
    _, d_Stand_put_hand,
    _, d_Stand_put_run,
    _, d_Stand_row_at,
    _, d_Stand_end_run,
    _, d_Stand_mend_run,
    _, d_Stand_settle,
    _, d_Stand_put_aside,
    _, d_Stand_heed,
    _, d_Stand_allow,
    _, d_Stand_hand_names,
    _, d_Stand_counted,
    _, d_done_by,
    _, d_Fen___init__,
    _, d_Fen_now,
    _, d_Fen_deed,
    _, d_Fen_strike,
    _, d_Fen_mend,
    _, d_Fen_back,
    _, d_Fen_deeds,
    _, d_Fen_marks,
    _, d_Fen_hands,
    _, d_Fen_asides,
    _, d_Fen_stands,
    _, d_Fen_allowed,
    _, d_Fen_runs,
    _, d_Fen_counting,
    _, d_law_box,
    _, d_law_take,
    _, d_law_same,
    _, d_law_names,
    _, d_law_model,
    _, d_law_turns,
    _, d_law_place,
    _, d_law_marks,
    _, d_law_counted,
    _, d_law_done,
    _, d_law_due_told,
    _, d_law_step,
    _, d_law_seen,
    _, d_law_due,
    _, d_law_right,
    _, d_law_truth,
    _, d_law_run_deed,
    _, d_law_begun,
    _, d_law_no_run,
    _, d_law,
    _, d_BadName___init__,
    _, d_Taken___init__,
    _, d_Full___init__,
    _, d_NoMark___init__,
    _, d_NoHand___init__,
    _, d_Same___init__,
    _, d_BadRise___init__,
    _, d_NoRun___init__,
    _, d_Aside___init__,
    _, d_NotAside___init__,
    _, d_BadNumber___init__,
    _, d_NothingLeft___init__,
    He.glo_ok X G (c.fact 0 (f := .glo "is_name") rfl),
    F_is_name,
    He.glo_ok X G (c.fact 1 (f := .glo "look_at_name") rfl),
    F_look_at_name,
    F_Stand___init__,
    F_Stand_like,
    F_Stand_turns_of,
    F_Stand_place_of,
    F_Stand_mark_names,
    F_Stand_check_hand,
    F_Stand_put_mark,
    F_Stand_put_hand,
    F_Stand_put_run,
    F_Stand_row_at,
    F_Stand_end_run,
    F_Stand_mend_run,
    F_Stand_settle,
    F_Stand_put_aside,
    F_Stand_heed,
    F_Stand_allow,
    F_Stand_hand_names,
    F_Stand_counted,
    He.glo_ok X G (c.fact 2 (f := .glo "done_by") rfl),
    F_done_by,
    F_Fen___init__,
    F_Fen_now,
    F_Fen_deed,
    F_Fen_strike,
    F_Fen_mend,
    F_Fen_back,
    F_Fen_deeds,
    F_Fen_marks,
    F_Fen_hands,
    F_Fen_asides,
    F_Fen_stands,
    F_Fen_allowed,
    F_Fen_runs,
    F_Fen_counting,
    He.glo_ok X G (c.fact 3 (f := .glo "_law_box") rfl),
    F_law_box,
    He.glo_ok X G (c.fact 4 (f := .glo "_law_take") rfl),
    F_law_take,
    He.glo_ok X G (c.fact 5 (f := .glo "_law_same") rfl),
    F_law_same,
    He.glo_ok X G (c.fact 6 (f := .glo "_law_names") rfl),
    F_law_names,
    He.glo_ok X G (c.fact 7 (f := .glo "_law_model") rfl),
    F_law_model,
    He.glo_ok X G (c.fact 8 (f := .glo "_law_turns") rfl),
    F_law_turns,
    He.glo_ok X G (c.fact 9 (f := .glo "_law_place") rfl),
    F_law_place,
    He.glo_ok X G (c.fact 10 (f := .glo "_law_marks") rfl),
    F_law_marks,
    He.glo_ok X G (c.fact 11 (f := .glo "_law_counted") rfl),
    F_law_counted,
    He.glo_ok X G (c.fact 12 (f := .glo "_law_done") rfl),
    F_law_done,
    He.glo_ok X G (c.fact 13 (f := .glo "_law_due_told") rfl),
    F_law_due_told,
    He.glo_ok X G (c.fact 14 (f := .glo "_law_step") rfl),
    F_law_step,
    He.glo_ok X G (c.fact 15 (f := .glo "_law_seen") rfl),
    F_law_seen,
    He.glo_ok X G (c.fact 16 (f := .glo "_law_due") rfl),
    F_law_due,
    He.glo_ok X G (c.fact 17 (f := .glo "_law_right") rfl),
    F_law_right,
    He.glo_ok X G (c.fact 18 (f := .glo "_law_truth") rfl),
    F_law_truth,
    He.glo_ok X G (c.fact 19 (f := .glo "_law_run_deed") rfl),
    F_law_run_deed,
    He.glo_ok X G (c.fact 20 (f := .glo "_law_begun") rfl),
    F_law_begun,
    He.glo_ok X G (c.fact 21 (f := .glo "_law_no_run") rfl),
    F_law_no_run,
    He.glo_ok X G (c.fact 22 (f := .glo "law") rfl),
    F_law,
    F_BadName___init__,
    F_Taken___init__,
    F_Full___init__,
    F_NoMark___init__,
    F_NoHand___init__,
    F_Same___init__,
    F_BadRise___init__,
    F_NoRun___init__,
    F_Aside___init__,
    F_NotAside___init__,
    F_BadNumber___init__,
    F_NothingLeft___init__,
    He.int_ok X G (c.fact 23 (f := .int "LONGEST" 8) rfl),
    He.str_ok X G (c.fact 24 (f := .str "LETTERS" "abcdefghijklmnopqrstuvwxyz") rfl),
    exkB_ok x0 (by decide),
    He.glo_ok X G (c.fact 25 (f := .glo "BadName") rfl),
    He.cls_ok (c.fact 26 (f := .cls "Stand") rfl),
    He.noat_ok (c.fact 27 (f := .noat "Stand" "places") rfl),
    He.noat_ok (c.fact 28 (f := .noat "Stand" "heeded") rfl),
    He.noat_ok (c.fact 29 (f := .noat "Stand" "rows") rfl),
    He.noat_ok (c.fact 30 (f := .noat "Stand" "entered") rfl),
    He.noat_ok (c.fact 31 (f := .noat "Stand" "many") rfl),
    He.mkr_ok (c.fact 32 (f := .mkr "Stand") rfl),
    He.glo_ok X G (c.fact 33 (f := .glo "Stand") rfl),
    He.meth_ok (c.fact 34 (f := .meth "Stand" "turns_of") rfl),
    exkB_ok x1 (by decide),
    He.glo_ok X G (c.fact 35 (f := .glo "NoMark") rfl),
    exkB_ok x2 (by decide),
    He.glo_ok X G (c.fact 36 (f := .glo "NoHand") rfl),
    exkB_ok x3 (by decide),
    He.glo_ok X G (c.fact 37 (f := .glo "Taken") rfl),
    He.int_ok X G (c.fact 38 (f := .int "MOST_STANDS" 12) rfl),
    exkB_ok x4 (by decide),
    He.glo_ok X G (c.fact 39 (f := .glo "Full") rfl),
    He.int_ok X G (c.fact 40 (f := .int "MOST_HANDS" 10) rfl),
    He.meth_ok (c.fact 41 (f := .meth "Stand" "place_of") rfl),
    exkB_ok x5 (by decide),
    He.glo_ok X G (c.fact 42 (f := .glo "Same") rfl),
    He.meth_ok (c.fact 43 (f := .meth "Stand" "check_hand") rfl),
    He.int_ok X G (c.fact 44 (f := .int "MOST_RISE" 1000000000) rfl),
    exkB_ok x6 (by decide),
    He.glo_ok X G (c.fact 45 (f := .glo "BadRise") rfl),
    He.int_ok X G (c.fact 46 (f := .int "MOST_RUNS" 40) rfl),
    exkB_ok x7 (by decide),
    He.glo_ok X G (c.fact 47 (f := .glo "NoRun") rfl),
    He.meth_ok (c.fact 48 (f := .meth "Stand" "row_at") rfl),
    exkB_ok x8 (by decide),
    He.glo_ok X G (c.fact 49 (f := .glo "Aside") rfl),
    exkB_ok x9 (by decide),
    He.glo_ok X G (c.fact 50 (f := .glo "NotAside") rfl),
    He.int_ok X G (c.fact 51 (f := .int "MOST_FALSE" 3) rfl),
    exkB_ok x10 (by decide),
    He.glo_ok X G (c.fact 52 (f := .glo "BadNumber") rfl),
    He.meth_ok (c.fact 53 (f := .meth "Stand" "put_mark") rfl),
    He.meth_ok (c.fact 54 (f := .meth "Stand" "put_hand") rfl),
    He.meth_ok (c.fact 55 (f := .meth "Stand" "put_run") rfl),
    He.meth_ok (c.fact 56 (f := .meth "Stand" "end_run") rfl),
    He.meth_ok (c.fact 57 (f := .meth "Stand" "mend_run") rfl),
    He.meth_ok (c.fact 58 (f := .meth "Stand" "settle") rfl),
    He.meth_ok (c.fact 59 (f := .meth "Stand" "put_aside") rfl),
    He.meth_ok (c.fact 60 (f := .meth "Stand" "heed") rfl),
    He.meth_ok (c.fact 61 (f := .meth "Stand" "allow") rfl),
    He.cls_ok (c.fact 62 (f := .cls "Fen") rfl),
    He.noat_ok (c.fact 63 (f := .noat "Fen" "kept") rfl),
    He.noat_ok (c.fact 64 (f := .noat "Fen" "done") rfl),
    He.noat_ok (c.fact 65 (f := .noat "Fen" "undone") rfl),
    He.meth_ok (c.fact 66 (f := .meth "Fen" "now") rfl),
    He.meth_ok (c.fact 67 (f := .meth "Stand" "like") rfl),
    He.meth_ok (c.fact 68 (f := .meth "Fen" "deed") rfl),
    exkB_ok x11 (by decide),
    He.glo_ok X G (c.fact 69 (f := .glo "NothingLeft") rfl),
    He.meth_ok (c.fact 70 (f := .meth "Stand" "mark_names") rfl),
    He.meth_ok (c.fact 71 (f := .meth "Stand" "hand_names") rfl),
    He.meth_ok (c.fact 72 (f := .meth "Stand" "counted") rfl),
    He.meth_ok (c.fact 73 (f := .meth "Fen" "counting") rfl),
    He.meth_ok (c.fact 74 (f := .meth "Fen" "runs") rfl),
    He.meth_ok (c.fact 75 (f := .meth "Fen" "allowed") rfl),
    He.meth_ok (c.fact 76 (f := .meth "Fen" "stands") rfl),
    He.meth_ok (c.fact 77 (f := .meth "Fen" "asides") rfl),
    He.meth_ok (c.fact 78 (f := .meth "Fen" "hands") rfl),
    He.meth_ok (c.fact 79 (f := .meth "Fen" "marks") rfl),
    He.meth_ok (c.fact 80 (f := .meth "Fen" "deeds") rfl),
    He.mkr_ok (c.fact 81 (f := .mkr "Fen") rfl),
    He.glo_ok X G (c.fact 82 (f := .glo "Fen") rfl),
    He.meth_ok (c.fact 83 (f := .meth "Fen" "strike") rfl),
    He.meth_ok (c.fact 84 (f := .meth "Fen" "mend") rfl),
    clauseB_ok x12,
    He.meth_ok (c.fact 85 (f := .meth "Fen" "back") rfl),
    He.free_ok X G (c.fact 86 (f := .free "len") rfl),
    He.free_ok X G (c.fact 87 (f := .free "all") rfl),
    He.free_ok X G (c.fact 88 (f := .free "list") rfl),
    He.free_ok X G (c.fact 89 (f := .free "dict") rfl),
    He.free_ok X G (c.fact 90 (f := .free "enumerate") rfl),
    He.free_ok X G (c.fact 91 (f := .free "isinstance") rfl),
    He.free_ok X G (c.fact 92 (f := .free "tuple") rfl),
    He.free_ok X G (c.fact 93 (f := .free "zip") rfl),
    He.free_ok X G (c.fact 94 (f := .free "bool") rfl),
    He.free_ok X G (c.fact 95 (f := .free "int") rfl),
    He.free_ok X G (c.fact 96 (f := .free "str") rfl),
    He.free_ok X G (c.fact 97 (f := .free "range") rfl)⟩
  refine ⟨d_law, fun s v => b s [v] rfl, fun base _ _ => ?_⟩
  have G_BadName___init__ := ok_BadName___init__ (P := P) (w := w) (mg := mg) (base := base) T
  have G_Taken___init__ := ok_Taken___init__ (P := P) (w := w) (mg := mg) (base := base) T
  have G_Full___init__ := ok_Full___init__ (P := P) (w := w) (mg := mg) (base := base) T
  have G_NoMark___init__ := ok_NoMark___init__ (P := P) (w := w) (mg := mg) (base := base) T
  have G_NoHand___init__ := ok_NoHand___init__ (P := P) (w := w) (mg := mg) (base := base) T
  have G_Same___init__ := ok_Same___init__ (P := P) (w := w) (mg := mg) (base := base) T
  have G_BadRise___init__ := ok_BadRise___init__ (P := P) (w := w) (mg := mg) (base := base) T
  have G_NoRun___init__ := ok_NoRun___init__ (P := P) (w := w) (mg := mg) (base := base) T
  have G_Aside___init__ := ok_Aside___init__ (P := P) (w := w) (mg := mg) (base := base) T
  have G_NotAside___init__ := ok_NotAside___init__ (P := P) (w := w) (mg := mg) (base := base) T
  have G_BadNumber___init__ := ok_BadNumber___init__ (P := P) (w := w) (mg := mg) (base := base) T
  have G_NothingLeft___init__ := ok_NothingLeft___init__ (P := P) (w := w) (mg := mg) (base := base) T
  have G_is_name : FnD P w K mg base 1 T.f_is_name T.d_is_name ["word"] sp_is_name := ok_is_name T  len_is_name (fun ds e Q h => nmy rfl (rd_is_name ds e Q h))
  have G_Stand___init__ : FnD P w K mg base 1 T.f_Stand___init__ T.d_Stand___init__ ["self"] sp_Stand___init__ := ok_Stand___init__ T  len_Stand___init__ (fun ds e Q h => nmy rfl (rd_Stand___init__ ds e Q h))
  have G_Stand_turns_of : FnD P w K mg base 1 T.f_Stand_turns_of T.d_Stand_turns_of ["self", "name"] sp_Stand_turns_of := ok_Stand_turns_of T  len_Stand_turns_of (fun ds e Q h => nmy rfl (rd_Stand_turns_of ds e Q h))
  have G_Stand_mark_names : FnD P w K mg base 1 T.f_Stand_mark_names T.d_Stand_mark_names ["self"] sp_Stand_mark_names := ok_Stand_mark_names T  len_Stand_mark_names (fun ds e Q h => nmy rfl (rd_Stand_mark_names ds e Q h))
  have Gc_Stand_hand_names : FnD P w K mg base 1 T.f_Stand_hand_names T.d_Stand_hand_names ["self"] spc_Stand_hand_names := ok_Stand_hand_names T  len_Stand_hand_names (fun ds e Q h => nmy rfl (rd_Stand_hand_names ds e Q h))
  have G_Stand_hand_names : FnD P w K mg base 1 T.f_Stand_hand_names T.d_Stand_hand_names ["self"] sp_Stand_hand_names := Gc_Stand_hand_names.view tree_Stand_hand_names
  have G_Stand_counted : FnD P w K mg base 1 T.f_Stand_counted T.d_Stand_counted ["self"] sp_Stand_counted := ok_Stand_counted T  len_Stand_counted (fun ds e Q h => nmy rfl (rd_Stand_counted ds e Q h))
  have G_Fen_now : FnD P w K mg base 1 T.f_Fen_now T.d_Fen_now ["self"] sp_Fen_now := ok_Fen_now T  len_Fen_now (fun ds e Q h => nmy rfl (rd_Fen_now ds e Q h))
  have G_Fen_deeds : FnD P w K mg base 1 T.f_Fen_deeds T.d_Fen_deeds ["self"] sp_Fen_deeds := ok_Fen_deeds T  len_Fen_deeds (fun ds e Q h => nmy rfl (rd_Fen_deeds ds e Q h))
  have G_law_box : FnD P w K mg base 1 T.f_law_box T.d_law_box ["_law_script"] sp_law_box := ok_law_box T  len_law_box (fun ds e Q h => nmy rfl (rd_law_box ds e Q h))
  have G_law_take : FnD P w K mg base 1 T.f_law_take T.d_law_take ["_law_box_here", "_law_many"] sp_law_take := ok_law_take T  len_law_take (fun ds e Q h => nmy rfl (rd_law_take ds e Q h))
  have G_law_model : FnD P w K mg base 1 T.f_law_model T.d_law_model [] sp_law_model := ok_law_model T  len_law_model (fun ds e Q h => nmy rfl (rd_law_model ds e Q h))
  have G_law_turns : FnD P w K mg base 1 T.f_law_turns T.d_law_turns ["_law_model_here", "_law_name"] sp_law_turns := ok_law_turns T  len_law_turns (fun ds e Q h => nmy rfl (rd_law_turns ds e Q h))
  have G_law_marks : FnD P w K mg base 1 T.f_law_marks T.d_law_marks ["_law_model_here"] sp_law_marks := ok_law_marks T  len_law_marks (fun ds e Q h => nmy rfl (rd_law_marks ds e Q h))
  have G_law_counted : FnD P w K mg base 1 T.f_law_counted T.d_law_counted ["_law_model_here"] sp_law_counted := ok_law_counted T  len_law_counted (fun ds e Q h => nmy rfl (rd_law_counted ds e Q h))
  have G_law_due_told : FnD P w K mg base 1 T.f_law_due_told T.d_law_due_told ["_law_model_here", "_law_deed"] sp_law_due_told := ok_law_due_told T  len_law_due_told (fun ds e Q h => nmy rfl (rd_law_due_told ds e Q h))
  have G_law_truth : FnD P w K mg base 1 T.f_law_truth T.d_law_truth ["_law_place_here"] sp_law_truth := ok_law_truth T  len_law_truth (fun ds e Q h => nmy rfl (rd_law_truth ds e Q h))
  have G_Fen_marks : FnD P w K mg base 2 T.f_Fen_marks T.d_Fen_marks ["self"] sp_Fen_marks := ok_Fen_marks T G_Fen_now G_Stand_mark_names len_Fen_marks (fun ds e Q h => nmy rfl (rd_Fen_marks ds e Q h))
  have G_Fen_hands : FnD P w K mg base 2 T.f_Fen_hands T.d_Fen_hands ["self"] sp_Fen_hands := ok_Fen_hands T G_Fen_now Gc_Stand_hand_names G_Stand_hand_names len_Fen_hands (fun ds e Q h => nmy rfl (rd_Fen_hands ds e Q h))
  have G_Fen_asides : FnD P w K mg base 2 T.f_Fen_asides T.d_Fen_asides ["self"] sp_Fen_asides := ok_Fen_asides T G_Fen_now Gc_Stand_hand_names G_Stand_hand_names len_Fen_asides (fun ds e Q h => nmy rfl (rd_Fen_asides ds e Q h))
  have G_Fen_stands : FnD P w K mg base 2 T.f_Fen_stands T.d_Fen_stands ["self"] sp_Fen_stands := ok_Fen_stands T G_Fen_now len_Fen_stands (fun ds e Q h => nmy rfl (rd_Fen_stands ds e Q h))
  have G_Fen_allowed : FnD P w K mg base 2 T.f_Fen_allowed T.d_Fen_allowed ["self"] sp_Fen_allowed := ok_Fen_allowed T G_Fen_now len_Fen_allowed (fun ds e Q h => nmy rfl (rd_Fen_allowed ds e Q h))
  have G_Fen_runs : FnD P w K mg base 2 T.f_Fen_runs T.d_Fen_runs ["self"] sp_Fen_runs := ok_Fen_runs T G_Fen_now len_Fen_runs (fun ds e Q h => nmy rfl (rd_Fen_runs ds e Q h))
  have G_Fen_counting : FnD P w K mg base 2 T.f_Fen_counting T.d_Fen_counting ["self"] sp_Fen_counting := ok_Fen_counting T G_Fen_now G_Stand_counted len_Fen_counting (fun ds e Q h => nmy rfl (rd_Fen_counting ds e Q h))
  have G_law_names : FnD P w K mg base 2 T.f_law_names T.d_law_names ["_law_box_here", "_law_many"] sp_law_names := ok_law_names T G_law_take len_law_names (fun ds e Q h => nmy rfl (rd_law_names ds e Q h))
  have G_law_place : FnD P w K mg base 2 T.f_law_place T.d_law_place ["_law_model_here", "_law_name"] sp_law_place := ok_law_place T G_law_turns len_law_place (fun ds e Q h => nmy rfl (rd_law_place ds e Q h))
  have G_law_due : FnD P w K mg base 2 T.f_law_due T.d_law_due ["_law_model_here"] sp_law_due := ok_law_due T G_law_marks G_law_counted len_law_due (fun ds e Q h => nmy rfl (rd_law_due ds e Q h))
  have Gx_look_at_name : FnX P w K mg base 3 T.f_look_at_name T.d_look_at_name ["word"] spx_look_at_name := ok_look_at_name T G_is_name G_BadName___init__ lenx_look_at_name (fun ds e Q E h => nmy rfl (rdx_look_at_name ds e Q E h))
  have G_look_at_name : FnD P w K mg base 3 T.f_look_at_name T.d_look_at_name ["word"] sp_look_at_name := Gx_look_at_name.fn (fun _ _ _ h => h)
  have G_Stand_like : FnD P w K mg base 3 T.f_Stand_like T.d_Stand_like ["self"] sp_Stand_like := ok_Stand_like T G_Stand___init__ len_Stand_like (fun ds e Q h => nmy rfl (rd_Stand_like ds e Q h))
  have Gx_Stand_place_of : FnX P w K mg base 3 T.f_Stand_place_of T.d_Stand_place_of ["self", "name"] spx_Stand_place_of := ok_Stand_place_of T G_Stand_turns_of G_NoMark___init__ lenx_Stand_place_of (fun ds e Q E h => nmy rfl (rdx_Stand_place_of ds e Q E h))
  have G_Stand_place_of : FnD P w K mg base 3 T.f_Stand_place_of T.d_Stand_place_of ["self", "name"] sp_Stand_place_of := Gx_Stand_place_of.fn (fun _ _ _ h => h)
  have Gx_Stand_check_hand : FnX P w K mg base 3 T.f_Stand_check_hand T.d_Stand_check_hand ["self", "name"] spx_Stand_check_hand := ok_Stand_check_hand T G_NoHand___init__ lenx_Stand_check_hand (fun ds e Q E h => nmy rfl (rdx_Stand_check_hand ds e Q E h))
  have G_Stand_check_hand : FnD P w K mg base 3 T.f_Stand_check_hand T.d_Stand_check_hand ["self", "name"] sp_Stand_check_hand := Gx_Stand_check_hand.fn (fun _ _ _ h => h)
  have Gx_Stand_row_at : FnX P w K mg base 3 T.f_Stand_row_at T.d_Stand_row_at ["self", "number"] spx_Stand_row_at := ok_Stand_row_at T G_NoRun___init__ lenx_Stand_row_at (fun ds e Q E h => nmy rfl (rdx_Stand_row_at ds e Q E h))
  have G_Stand_row_at : FnD P w K mg base 3 T.f_Stand_row_at T.d_Stand_row_at ["self", "number"] sp_Stand_row_at := Gx_Stand_row_at.fn (fun _ _ _ h => h)
  have Gx_Stand_allow : FnX P w K mg base 3 T.f_Stand_allow T.d_Stand_allow ["self", "many"] spx_Stand_allow := ok_Stand_allow T G_BadNumber___init__ lenx_Stand_allow (fun ds e Q E h => nmy rfl (rdx_Stand_allow ds e Q E h))
  have G_Stand_allow : FnD P w K mg base 3 T.f_Stand_allow T.d_Stand_allow ["self", "many"] sp_Stand_allow := Gx_Stand_allow.fn (fun _ _ _ h => h)
  have G_Fen___init__ : FnD P w K mg base 3 T.f_Fen___init__ T.d_Fen___init__ ["self"] sp_Fen___init__ := ok_Fen___init__ T G_Stand___init__ len_Fen___init__ (fun ds e Q h => nmy rfl (rd_Fen___init__ ds e Q h))
  have Gx_Fen_back : FnX P w K mg base 3 T.f_Fen_back T.d_Fen_back ["self"] spx_Fen_back := ok_Fen_back T G_NothingLeft___init__ lenx_Fen_back (fun ds e Q E h => nmy rfl (rdx_Fen_back ds e Q E h))
  have G_Fen_back : FnD P w K mg base 3 T.f_Fen_back T.d_Fen_back ["self"] sp_Fen_back := Gx_Fen_back.fn (fun _ _ _ h => h)
  have G_law_done : FnD P w K mg base 3 T.f_law_done T.d_law_done ["_law_model_here", "_law_deed"] sp_law_done := ok_law_done T G_law_turns G_law_place len_law_done (fun ds e Q h => nmy rfl (rd_law_done ds e Q h))
  have G_law_seen : FnD P w K mg base 3 T.f_law_seen T.d_law_seen ["_law_fen"] sp_law_seen := ok_law_seen T G_Fen_counting G_Fen_runs G_Fen_allowed G_Fen_stands G_Fen_asides G_Fen_hands G_Fen_marks G_Fen_deeds len_law_seen (fun ds e Q h => nmy rfl (rd_law_seen ds e Q h))
  have G_law_run_deed : FnD P w K mg base 3 T.f_law_run_deed T.d_law_run_deed ["_law_box_here", "_law_model_here"] sp_law_run_deed := ok_law_run_deed T G_law_marks G_law_take G_law_truth G_law_place len_law_run_deed (fun ds e Q h => nmy rfl (rd_law_run_deed ds e Q h))
  have Gx_Stand_put_mark : FnX P w K mg base 4 T.f_Stand_put_mark T.d_Stand_put_mark ["self", "name"] spx_Stand_put_mark := ok_Stand_put_mark T Gx_look_at_name G_look_at_name G_Stand_turns_of G_Taken___init__ G_Full___init__ lenx_Stand_put_mark (fun ds e Q E h => nmy rfl (rdx_Stand_put_mark ds e Q E h))
  have G_Stand_put_mark : FnD P w K mg base 4 T.f_Stand_put_mark T.d_Stand_put_mark ["self", "name"] sp_Stand_put_mark := Gx_Stand_put_mark.fn (fun _ _ _ h => h)
  have Gx_Stand_put_hand : FnX P w K mg base 4 T.f_Stand_put_hand T.d_Stand_put_hand ["self", "name"] spx_Stand_put_hand := ok_Stand_put_hand T Gx_look_at_name G_look_at_name G_Taken___init__ G_Full___init__ lenx_Stand_put_hand (fun ds e Q E h => nmy rfl (rdx_Stand_put_hand ds e Q E h))
  have G_Stand_put_hand : FnD P w K mg base 4 T.f_Stand_put_hand T.d_Stand_put_hand ["self", "name"] sp_Stand_put_hand := Gx_Stand_put_hand.fn (fun _ _ _ h => h)
  have Gx_Stand_put_run : FnX P w K mg base 4 T.f_Stand_put_run T.d_Stand_put_run ["self", "one", "other", "rise", "hand"] spx_Stand_put_run := ok_Stand_put_run T Gx_Stand_place_of G_Stand_place_of G_Same___init__ Gx_Stand_check_hand G_Stand_check_hand G_BadRise___init__ G_Full___init__ lenx_Stand_put_run (fun ds e Q E h => nmy rfl (rdx_Stand_put_run ds e Q E h))
  have G_Stand_put_run : FnD P w K mg base 4 T.f_Stand_put_run T.d_Stand_put_run ["self", "one", "other", "rise", "hand"] sp_Stand_put_run := Gx_Stand_put_run.fn (fun _ _ _ h => h)
  have Gx_Stand_end_run : FnX P w K mg base 4 T.f_Stand_end_run T.d_Stand_end_run ["self", "number"] spx_Stand_end_run := ok_Stand_end_run T Gx_Stand_row_at G_Stand_row_at lenx_Stand_end_run (fun ds e Q E h => nmy rfl (rdx_Stand_end_run ds e Q E h))
  have G_Stand_end_run : FnD P w K mg base 4 T.f_Stand_end_run T.d_Stand_end_run ["self", "number"] sp_Stand_end_run := Gx_Stand_end_run.fn (fun _ _ _ h => h)
  have Gx_Stand_mend_run : FnX P w K mg base 4 T.f_Stand_mend_run T.d_Stand_mend_run ["self", "number", "rise"] spx_Stand_mend_run := ok_Stand_mend_run T Gx_Stand_row_at G_Stand_row_at G_BadRise___init__ lenx_Stand_mend_run (fun ds e Q E h => nmy rfl (rdx_Stand_mend_run ds e Q E h))
  have G_Stand_mend_run : FnD P w K mg base 4 T.f_Stand_mend_run T.d_Stand_mend_run ["self", "number", "rise"] sp_Stand_mend_run := Gx_Stand_mend_run.fn (fun _ _ _ h => h)
  have Gx_Stand_settle : FnX P w K mg base 4 T.f_Stand_settle T.d_Stand_settle ["self", "name"] spx_Stand_settle := ok_Stand_settle T Gx_Stand_place_of G_Stand_place_of G_Full___init__ G_Stand_turns_of lenx_Stand_settle (fun ds e Q E h => nmy rfl (rdx_Stand_settle ds e Q E h))
  have G_Stand_settle : FnD P w K mg base 4 T.f_Stand_settle T.d_Stand_settle ["self", "name"] sp_Stand_settle := Gx_Stand_settle.fn (fun _ _ _ h => h)
  have Gx_Stand_put_aside : FnX P w K mg base 4 T.f_Stand_put_aside T.d_Stand_put_aside ["self", "hand"] spx_Stand_put_aside := ok_Stand_put_aside T Gx_Stand_check_hand G_Stand_check_hand G_Aside___init__ lenx_Stand_put_aside (fun ds e Q E h => nmy rfl (rdx_Stand_put_aside ds e Q E h))
  have G_Stand_put_aside : FnD P w K mg base 4 T.f_Stand_put_aside T.d_Stand_put_aside ["self", "hand"] sp_Stand_put_aside := Gx_Stand_put_aside.fn (fun _ _ _ h => h)
  have Gx_Stand_heed : FnX P w K mg base 4 T.f_Stand_heed T.d_Stand_heed ["self", "hand"] spx_Stand_heed := ok_Stand_heed T Gx_Stand_check_hand G_Stand_check_hand G_NotAside___init__ lenx_Stand_heed (fun ds e Q E h => nmy rfl (rdx_Stand_heed ds e Q E h))
  have G_Stand_heed : FnD P w K mg base 4 T.f_Stand_heed T.d_Stand_heed ["self", "hand"] sp_Stand_heed := Gx_Stand_heed.fn (fun _ _ _ h => h)
  have Gx_done_by : FnX P w K mg base 5 T.f_done_by T.d_done_by ["stand", "row"] spx_done_by := ok_done_by T Gx_Stand_put_mark G_Stand_put_mark Gx_Stand_put_hand G_Stand_put_hand Gx_Stand_put_run G_Stand_put_run Gx_Stand_end_run G_Stand_end_run Gx_Stand_mend_run G_Stand_mend_run Gx_Stand_settle G_Stand_settle Gx_Stand_put_aside G_Stand_put_aside Gx_Stand_heed G_Stand_heed Gx_Stand_allow G_Stand_allow lenx_done_by (fun ds e Q E h => nmy rfl (rdx_done_by ds e Q E h))
  have G_done_by : FnD P w K mg base 5 T.f_done_by T.d_done_by ["stand", "row"] sp_done_by := Gx_done_by.fn (fun _ _ _ h => h)
  have S0 : FnD P w K mg base 1 T.f_law_same T.d_law_same ["_law_found", "_law_due_here"] (sp_sameD 0) := ok_law_same_step T  (k := 0) (by decide) (spI := spNo) (fun ds e Q h => len_sameD 0 ds e Q h) FnD.no (fun ds e Q h => nmy rfl (rd_sameD 0 (by decide) _ (fun m h => by cases h) ds e Q h))
  have S1 : FnD P w K mg base 2 T.f_law_same T.d_law_same ["_law_found", "_law_due_here"] (sp_sameD 1) := ok_law_same_step T  (k := 1) (by decide) (fun ds e Q h => len_sameD 1 ds e Q h) S0 (fun ds e Q h => nmy rfl (rd_sameD 1 (by decide) _ (fun m h => by cases h; rfl) ds e Q h))
  have S2 : FnD P w K mg base 3 T.f_law_same T.d_law_same ["_law_found", "_law_due_here"] (sp_sameD 2) := ok_law_same_step T  (k := 2) (by decide) (fun ds e Q h => len_sameD 2 ds e Q h) S1 (fun ds e Q h => nmy rfl (rd_sameD 2 (by decide) _ (fun m h => by cases h; rfl) ds e Q h))
  have S3 : FnD P w K mg base 4 T.f_law_same T.d_law_same ["_law_found", "_law_due_here"] (sp_sameD 3) := ok_law_same_step T  (k := 3) (by decide) (fun ds e Q h => len_sameD 3 ds e Q h) S2 (fun ds e Q h => nmy rfl (rd_sameD 3 (by decide) _ (fun m h => by cases h; rfl) ds e Q h))
  have G_law_same : FnD P w K mg base 5 T.f_law_same T.d_law_same ["_law_found", "_law_due_here"] sp_fsame := S3.mono (by decide)
  have Gx_Fen_deed : FnX P w K mg base 6 T.f_Fen_deed T.d_Fen_deed ["self", "row"] spx_Fen_deed := ok_Fen_deed T G_Fen_now G_Stand_like Gx_done_by G_done_by lenx_Fen_deed (fun ds e Q E h => nmy rfl (rdx_Fen_deed ds e Q E h))
  have G_Fen_deed : FnD P w K mg base 6 T.f_Fen_deed T.d_Fen_deed ["self", "row"] sp_Fen_deed := Gx_Fen_deed.fn (fun _ _ _ h => h)
  have G_law_right : FnD P w K mg base 6 T.f_law_right T.d_law_right ["_law_fen", "_law_model_here"] sp_law_right := ok_law_right T G_law_same G_law_due G_law_seen len_law_right (fun ds e Q h => nmy rfl (rd_law_right ds e Q h))
  have Gx_Fen_strike : FnX P w K mg base 7 T.f_Fen_strike T.d_Fen_strike ["self", "number"] spx_Fen_strike := ok_Fen_strike T Gx_Fen_deed G_Fen_deed lenx_Fen_strike (fun ds e Q E h => nmy rfl (rdx_Fen_strike ds e Q E h))
  have G_Fen_strike : FnD P w K mg base 7 T.f_Fen_strike T.d_Fen_strike ["self", "number"] sp_Fen_strike := Gx_Fen_strike.fn (fun _ _ _ h => h)
  have Gx_Fen_mend : FnX P w K mg base 7 T.f_Fen_mend T.d_Fen_mend ["self", "number", "rise"] spx_Fen_mend := ok_Fen_mend T Gx_Fen_deed G_Fen_deed lenx_Fen_mend (fun ds e Q E h => nmy rfl (rdx_Fen_mend ds e Q E h))
  have G_Fen_mend : FnD P w K mg base 7 T.f_Fen_mend T.d_Fen_mend ["self", "number", "rise"] sp_Fen_mend := Gx_Fen_mend.fn (fun _ _ _ h => h)
  have G_law_step : FnD P w K mg base 7 T.f_law_step T.d_law_step ["_law_fen", "_law_model_here", "_law_deed"] sp_law_step := ok_law_step T G_law_same G_law_due_told Gx_Fen_deed G_Fen_deed G_law_done len_law_step (fun ds e Q h => nmy rfl (rd_law_step ds e Q h))
  have G_law_begun : FnD P w K mg base 8 T.f_law_begun T.d_law_begun ["_law_box_here", "_law_most_marks", "_law_most_hands", "_law_most_runs"] sp_law_begun := ok_law_begun T G_law_names G_Fen___init__ G_law_model G_law_take G_law_step G_law_run_deed len_law_begun (fun ds e Q h => nmy rfl (rd_law_begun ds e Q h))
  have G_law_no_run : FnD P w K mg base 8 T.f_law_no_run T.d_law_no_run ["_law_fen", "_law_number", "_law_way"] sp_law_no_run := ok_law_no_run T Gx_Fen_strike G_Fen_strike Gx_Fen_mend G_Fen_mend len_law_no_run (fun ds e Q h => nmy rfl (rd_law_no_run ds e Q h))
  exact ok_law T G_law_box G_law_begun G_law_take G_law_run_deed G_law_step Gx_Fen_back G_Fen_back G_law_same G_Fen_runs G_law_no_run G_law_right len_law (fun ds e Q h => nmy rfl (rd_law ds e Q h))
end FL.K39
open PySem PySem.W PySem.Calls PyProof.Rows
theorem PySem.Challenge.cw_fenlevel_k39_whole_numbers_are_given_onc_holds : PySem.Challenge.rw_fenlevel_k39_whole_numbers_are_given_onc.Holds := by
  w_on; o_law
  refine HandSHeadRun.head_any (r := OpenLaw.row PySem.Challenge.rw_fenlevel_k39_whole_numbers_are_given_onc) (q := view (OpenLaw.row PySem.Challenge.rw_fenlevel_k39_whole_numbers_are_given_onc).prog [50]) (H := FL.K39.hk) (ob := FL.K39.ob) (M := 20000) (loose := FL.K39.loose) (d := HandSHeadRun.topDef (OpenLaw.row PySem.Challenge.rw_fenlevel_k39_whole_numbers_are_given_onc).prog 50) (kwd := [])
    FL.K39.ob_eq (by kernel_rfl) (fun s => by kernel_rfl) FL.K39.run (by kernel_rfl) (by kernel_rfl) (by kernel_rfl) (by rfl) (by first | assumption | decide +kernel) (by decide +kernel) ⟨rfl, rfl, rfl, rfl, rfl, by decide +kernel⟩ ?hw ?hc
  case hw => w_witness2
  case hc =>
    refine L2.walk_ofE (l := PySem.Challenge.rw_fenlevel_k39_whole_numbers_are_given_onc) (n := 63) (k := 9) (x := "_law_script") (CX := L2.CX0) rfl (by decide) (by kernel_rfl) ⟨rfl, by decide, by decide⟩ ?F (fun _ _ _ _ z => z)
    intro w mg fa h Y G g0
    obtain ⟨K, KX, c, cx⟩ := Y
    have g1 : mg ("law" : PySem.Str) = some (.ref fa) := by
      have e : (HandSHeadRun.topDef (OpenLaw.row PySem.Challenge.rw_fenlevel_k39_whole_numbers_are_given_onc).prog 50).name = ("law" : PySem.Str) := by kernel_rfl
      rw [← e]
      exact g0
    obtain ⟨fd, hb, hF⟩ := FL.K39.facts (P := (PySem.Challenge.rw_fenlevel_k39_whole_numbers_are_given_onc).prog) (w := w) KX G g1 c cx
    exact ⟨K, fd, FL.spOf K FL.spLaw, KX, hb, fun H a ns hl _ hS => FL.law_sp hl hS, hF⟩

