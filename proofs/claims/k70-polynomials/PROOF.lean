import PyProof.Rows.All
import Wide.All
import OpenK.AllK
import Wide.FinOn
import PySem.Challenge.RW_streamwebs_k70_polynomials
import HandS.ForMost
import HandS.ForExc
import HandS.Wide
import HandS.TupAny
import HandS.TupMul
import HandS.Style
import HandS.IsInst
import KE.GoesMore
import HandS.Small
import HandS.RaiseMore
import KE.GoesEnum
import PyProof.ListMulRoad
import PyProof.FactsAll.tuple_2
import PyProof.ReprRoads
import PyProof.ReprBulk
import PyProof.P3Eq
set_option Elab.async false
set_option linter.all false
set_option maxRecDepth 100000
set_option maxHeartbeats 4000000
/-! DL: a layer of plain data over HandS: what a name holds is a PyData (immutable), or a list that the frame owns. -/
namespace DL
open PySem PySem.Spec L2
open PyProof.Rows hiding St

abbrev D := PyData

mutual
/-- the value v is the datum d in the heap H; A: where its lists may lie -/
inductive Im (K : PySem.W.Frag) (H : Hp) (A : Addr → Prop) : V → D → Prop
  | non : Im K H A .non .none
  | bl (b : Bool) : Im K H A (.bl b) (.bool b)
  | int (i : Int) : Im K H A (.int i) (.int i)
  | str (x : Str) : Im K H A (.str x) (.str x)
  | lst {a : Addr} {xs : List V} {ds : List D} : H a = some (.lst xs) → A a → ImAll K H A xs ds → Im K H A (.ref a) (.list ds)
  | tup {a : Addr} {xs : List V} {ds : List D} : SqT K H a xs → ImAll K H A xs ds → Im K H A (.ref a) (.tuple ds)
inductive ImAll (K : PySem.W.Frag) (H : Hp) (A : Addr → Prop) : List V → List D → Prop
  | nil : ImAll K H A [] []
  | cons {v : V} {vs : List V} {d : D} {ds : List D} : Im K H A v d → ImAll K H A vs ds → ImAll K H A (v :: vs) (d :: ds)
end

section
variable {K : PySem.W.Frag} {H H' : Hp} {A A' : Addr → Prop}
mutual
theorem Im.mono (ht : ∀ a xs, SqT K H a xs → SqT K H' a xs) (hl : ∀ a xs, A a → H a = some (.lst xs) → H' a = some (.lst xs) ∧ A' a) : ∀ {v : V} {d : D}, Im K H A v d → Im K H' A' v d
  | _, _, .non => .non
  | _, _, .bl b => .bl b
  | _, _, .int i => .int i
  | _, _, .str x => .str x
  | _, _, .lst s a x => .lst (hl _ _ a s).1 (hl _ _ a s).2 (ImAll.mono ht hl x)
  | _, _, .tup s x => .tup (ht _ _ s) (ImAll.mono ht hl x)
theorem ImAll.mono (ht : ∀ a xs, SqT K H a xs → SqT K H' a xs) (hl : ∀ a xs, A a → H a = some (.lst xs) → H' a = some (.lst xs) ∧ A' a) : ∀ {v : List V} {d : List D}, ImAll K H A v d → ImAll K H' A' v d
  | _, _, .nil => .nil
  | _, _, .cons x y => .cons (Im.mono ht hl x) (ImAll.mono ht hl y)
end
mutual
theorem Im.dp : ∀ {v : V} {d : D}, Im K H A v d → Dp K H v d
  | _, _, .non => .non
  | _, _, .bl b => .bl b
  | _, _, .int i => .int i
  | _, _, .str x => .str x
  | _, _, .lst s _ x => .lst (SqL.of s) (ImAll.dp x)
  | _, _, .tup s x => .tup s (ImAll.dp x)
theorem ImAll.dp : ∀ {v : List V} {d : List D}, ImAll K H A v d → DpAll K H v d
  | _, _, .nil => .nil
  | _, _, .cons x y => .cons (Im.dp x) (ImAll.dp y)
end
theorem ImAll.length : ∀ {v : List V} {d : List D}, ImAll K H A v d → v.length = d.length
  | _, _, .nil => rfl
  | _, _, .cons _ y => by simp [ImAll.length y]
theorem ImAll.get : ∀ {v : List V} {d : List D} {i : Nat} {x : D}, ImAll K H A v d → d[i]? = some x → ∃ u, v[i]? = some u ∧ Im K H A u x
  | _, _, _, _, .nil, e => by simp at e
  | _, _, 0, _, .cons r _, e => by simp at e; subst e; exact ⟨_, rfl, r⟩
  | _, _, i + 1, x, .cons _ t, e => by
    obtain ⟨u, h1, h2⟩ := ImAll.get (i := i) t (by simpa using e)
    exact ⟨u, by simpa using h1, h2⟩
theorem ImAll.getV : ∀ {v : List V} {d : List D} {i : Nat} {u : V}, ImAll K H A v d → v[i]? = some u → ∃ x, d[i]? = some x ∧ Im K H A u x
  | _, _, _, _, .nil, e => by simp at e
  | _, _, 0, _, .cons r _, e => by simp at e; subst e; exact ⟨_, rfl, r⟩
  | _, _, i + 1, x, .cons _ t, e => by
    obtain ⟨u, h1, h2⟩ := ImAll.getV (i := i) t (by simpa using e)
    exact ⟨u, by simpa using h1, h2⟩
theorem ImAll.append : ∀ {v : List V} {d : List D} {v' : List V} {d' : List D}, ImAll K H A v d → ImAll K H A v' d' → ImAll K H A (v ++ v') (d ++ d')
  | _, _, _, _, .nil, s => s
  | _, _, _, _, .cons r t, s => .cons r (ImAll.append t s)
theorem ImAll.take : ∀ {v : List V} {d : List D} (n : Nat), ImAll K H A v d → ImAll K H A (v.take n) (d.take n)
  | _, _, 0, _ => .nil
  | _, _, _ + 1, .nil => .nil
  | _, _, n + 1, .cons r t => .cons r (ImAll.take n t)
theorem ImAll.drop : ∀ {v : List V} {d : List D} (n : Nat), ImAll K H A v d → ImAll K H A (v.drop n) (d.drop n)
  | _, _, 0, r => r
  | _, _, _ + 1, .nil => .nil
  | _, _, n + 1, .cons _ t => ImAll.drop n t
theorem ImAll.set : ∀ {v : List V} {d : List D} {u : V} {x : D} (i : Nat), Im K H A u x → ImAll K H A v d → ImAll K H A (v.set i u) (d.set i x)
  | _, _, _, _, _, _, .nil => .nil
  | _, _, _, _, 0, r, .cons _ t => .cons r t
  | _, _, _, _, i + 1, r, .cons q t => .cons q (ImAll.set i r t)
theorem ImAll.rev : ∀ {v : List V} {d : List D}, ImAll K H A v d → ImAll K H A v.reverse d.reverse
  | _, _, .nil => .nil
  | _, _, .cons r t => by
    rw [List.reverse_cons, List.reverse_cons]
    exact ImAll.append (ImAll.rev t) (.cons r .nil)
theorem ImAll.rep {v : V} {x : D} (h : Im K H A v x) : ∀ n : Nat, ImAll K H A (List.replicate n v) (List.replicate n x)
  | 0 => .nil
  | n + 1 => .cons h (ImAll.rep h n)
end

/-! ### what a slot holds -/
inductive SV where
  | un
  | d (x : D)
  | own (xs : List D)
  | io (xs : List D)

/-- what is fixed of a frame: the heap at its entry, the places of its changed arguments, where lists of others may lie -/
structure Fm where
  G : Hp
  M : List (Nat × Addr)
  A0 : Addr → Prop
  av : Addr → Prop

def Owns (δ : List SV) (i : Nat) (xs : List D) : Prop := δ[i]? = some (.own xs) ∨ δ[i]? = some (.io xs)
def Ow (σ : St) (δ : List SV) (a : Addr) : Prop := ∃ (i : Nat) (xs : List D), Owns δ i xs ∧ σ[i]? = some (some (.ref a))
def Ac (F : Fm) (σ : St) (δ : List SV) (a : Addr) : Prop := ¬ Ow σ δ a ∧ ¬ F.av a ∧ (F.A0 a ∨ F.G a = none)

structure Den (K : PySem.W.Frag) (F : Fm) (σ : St) (H : Hp) (δ : List SV) : Prop where
  len : δ.length = σ.length
  dat : ∀ (i : Nat) (x : D), δ[i]? = some (.d x) → ∃ v, σ[i]? = some (some v) ∧ Im K H (Ac F σ δ) v x
  own : ∀ (i : Nat) (xs : List D), Owns δ i xs → ∃ a vs, σ[i]? = some (some (.ref a)) ∧ H a = some (.lst vs) ∧ ImAll K H (Ac F σ δ) vs xs
  fre : ∀ (i : Nat) (xs : List D) (a : Addr), δ[i]? = some (.own xs) → σ[i]? = some (some (.ref a)) → F.G a = none
  iom : ∀ (i : Nat) (xs : List D) (a : Addr), δ[i]? = some (.io xs) → σ[i]? = some (some (.ref a)) → (i, a) ∈ F.M
  mio : ∀ p ∈ F.M, σ[p.1]? = some (some (.ref p.2)) ∧ ∃ xs, δ[p.1]? = some (.io xs)
  one : ∀ (i j : Nat) (a : Addr) (xs ys : List D), Owns δ i xs → Owns δ j ys → σ[i]? = some (some (.ref a)) → σ[j]? = some (some (.ref a)) → i = j
  keep : ∀ a o, F.G a = some o → (∃ i, (i, a) ∈ F.M) ∨ H a = some o
  avt : ∀ a, F.av a → (∃ vs, H a = some (.lst vs)) ∧ ¬ Ow σ δ a

/-- all that is tracked stays, but lists at O -/
def Ext (O : Addr → Prop) (H H' : Hp) : Prop := ∀ a o, H a = some o → (O a ∧ ∃ xs, o = .lst xs) ∨ H' a = some o
def hide (a : Addr) (H : Hp) : Hp := fun b => if b = a then none else H b

theorem hide_same {a : Addr} {H : Hp} : hide a H a = none := by unfold hide; rw [if_pos rfl]
theorem hide_ne {a b : Addr} {H : Hp} (h : b ≠ a) : hide a H b = H b := by unfold hide; rw [if_neg h]
theorem hide_some {a b : Addr} {H : Hp} {o : HO} (h : hide a H b = some o) : H b = some o ∧ b ≠ a := by
  unfold hide at h
  split at h
  · cases h
  · exact ⟨h, by assumption⟩
theorem hide_le {a : Addr} {H : Hp} {O : Addr → Prop} : Ext O (hide a H) H := fun b o h => .inr (hide_some h).1
theorem hide_upd {a : Addr} {H : Hp} {o : HO} (h : H a = none) : hide a (upd H a o) = H := by
  funext b
  by_cases e : b = a
  · subst e; rw [hide_same, h]
  · rw [hide_ne e, upd_ne e]

section
variable {K : PySem.W.Frag} {H H' H1 H2 : Hp} {O O' : Addr → Prop} {a : Addr} {xs : List V}
theorem Ext.refl : Ext O H H := fun _ _ h => .inr h
theorem Ext.of_same (s : Same H H') : Ext O H H' := fun a o h => .inr (s a o h)
theorem Ext.tupR {u : HO} (h : Ext O H H') (ht : ∀ xs, u ≠ .lst xs) (r : Rd H a u) : Rd H' a u := by
  rcases r with r | ⟨o, r⟩
  · rcases h a _ r with ⟨_, xs, e⟩ | q
    · exact absurd e (ht xs)
    · exact .inl q
  · rcases h a _ r with ⟨_, xs, e⟩ | q
    · cases e
    · exact .inr ⟨o, q⟩
theorem Ext.tup (h : Ext O H H') (r : SqT K H a xs) : SqT K H' a xs := by
  rcases r with r | r
  · exact .inl (h.tupR (fun _ z => nomatch z) r)
  · exact .inr r
theorem Ext.lst (h : Ext O H H') (n : ¬ O a) (r : H a = some (.lst xs)) : H' a = some (.lst xs) := by
  rcases h a _ r with ⟨z, _⟩ | q
  · exact absurd z n
  · exact q
/-- data that avoids what may change -/
theorem Im.ext {A A' : Addr → Prop} (h : Ext O H H') (hO : ∀ a, A a → ¬ O a ∧ A' a) {v : V} {d : D} (x : Im K H A v d) : Im K H' A' v d :=
  x.mono (fun _ _ q => h.tup q) fun a _ ha q => ⟨h.lst (hO a ha).1 q, (hO a ha).2⟩
theorem ImAll.ext {A A' : Addr → Prop} (h : Ext O H H') (hO : ∀ a, A a → ¬ O a ∧ A' a) {v : List V} {d : List D} (x : ImAll K H A v d) : ImAll K H' A' v d :=
  x.mono (fun _ _ q => h.tup q) fun a _ ha q => ⟨h.lst (hO a ha).1 q, (hO a ha).2⟩
theorem Ext.trans (h : Ext O H H1) (g : Ext O' H1 H2) (hO : ∀ a, O' a → O a ∨ H a = none) : Ext O H H2 := fun a o e => by
  rcases h a o e with q | q
  · exact .inl q
  · rcases g a o q with ⟨z, w⟩ | q
    · rcases hO a z with z | z
      · exact .inl ⟨z, w⟩
      · rw [z] at e; cases e
    · exact .inr q
end

section
variable {K : PySem.W.Frag} {F : Fm} {σ : St} {H H' : Hp} {δ δ' : List SV}
theorem Den.ow_lst (d : Den K F σ H δ) {a : Addr} (h : Ow σ δ a) : ∃ vs, H a = some (.lst vs) := by
  obtain ⟨i, xs, h1, h2⟩ := h
  obtain ⟨b, vs, e1, e2, _⟩ := d.own i xs h1
  rw [h2] at e1; cases e1
  exact ⟨vs, e2⟩
theorem Den.fresh (d : Den K F σ H δ) {a : Addr} (h : H a = none) : F.G a = none ∧ ¬ Ow σ δ a := by
  have no : ¬ Ow σ δ a := fun q => by obtain ⟨vs, e⟩ := d.ow_lst q; rw [h] at e; cases e
  refine ⟨?_, no⟩
  cases q : F.G a with
  | none => rfl
  | some o =>
    rcases d.keep a o q with ⟨i, hm⟩ | e
    · obtain ⟨e1, xs, e2⟩ := d.mio _ hm
      exact absurd ⟨i, xs, .inr e2, e1⟩ no
    · rw [h] at e; cases e
theorem Den.av_fresh (d : Den K F σ H δ) {a : Addr} (h : H a = none) : ¬ F.av a := fun z => by obtain ⟨⟨vs, e⟩, _⟩ := d.avt a z; rw [h] at e; cases e
theorem Den.ac_fresh (d : Den K F σ H δ) {a : Addr} (h : H a = none) : Ac F σ δ a := ⟨(d.fresh h).2, d.av_fresh h, .inr (d.fresh h).1⟩
/-- the heap grows; what is owned stays too -/
theorem Den.ext (d : Den K F σ H δ) (h : Ext (fun _ => False) H H') : Den K F σ H' δ := by
  have hA : ∀ a, Ac F σ δ a → ¬ False ∧ Ac F σ δ a := fun a z => ⟨id, z⟩
  refine ⟨d.len, fun i x e => ?_, fun i xs e => ?_, d.fre, d.iom, d.mio, d.one, fun a o e => ?_, fun a z => ?_⟩
  · obtain ⟨v, e1, e2⟩ := d.dat i x e
    exact ⟨v, e1, e2.ext h hA⟩
  · obtain ⟨a, vs, e1, e2, e3⟩ := d.own i xs e
    refine ⟨a, vs, e1, ?_, e3.ext h hA⟩
    rcases h a _ e2 with ⟨z, _⟩ | q
    · exact z.elim
    · exact q
  · rcases d.keep a o e with z | z
    · exact .inl z
    · rcases h a o z with ⟨q, _⟩ | q
      · exact q.elim
      · exact .inr q
  · obtain ⟨⟨vs, e⟩, no⟩ := d.avt a z
    rcases h a _ e with ⟨q, _⟩ | q
    · exact q.elim
    · exact ⟨⟨vs, q⟩, no⟩
theorem Den.same (d : Den K F σ H δ) (h : Same H H') : Den K F σ H' δ := d.ext (Ext.of_same h)
end

/-- what an expression leaves: O is what was owned, H the heap ahead of it -/
inductive Res (K : PySem.W.Frag) (F : Fm) (σ : St) (O : Addr → Prop) (H : Hp) (δ' : List SV) (H' : Hp) : V → SV → Prop
  | d {v : V} {x : D} : Den K F σ H' δ' → Ext O H H' → Im K H' (Ac F σ δ') v x → Res K F σ O H δ' H' v (.d x)
  | own {a : Addr} {vs : List V} {xs : List D} : H' a = some (.lst vs) → Den K F σ (hide a H') δ' → Ext O H (hide a H') → ImAll K (hide a H') (Ac F σ δ') vs xs → F.G a = none → Res K F σ O H δ' H' (.ref a) (.own xs)

def SV.asD : SV → D
  | .un => .none
  | .d x => x
  | .own xs => .list xs
  | .io xs => .list xs

section
variable {K : PySem.W.Frag} {F : Fm} {σ : St} {O : Addr → Prop} {H H' : Hp} {δ δ' : List SV} {v : V} {r : SV}
theorem Res.den (x : Res K F σ O H δ' H' v r) : Den K F σ H' δ' := by
  cases x with
  | d a _ _ => exact a
  | own _ b _ _ _ => exact b.ext hide_le
theorem Res.ext (x : Res K F σ O H δ' H' v r) : Ext O H H' := by
  cases x with
  | d _ b _ => exact b
  | own _ _ c _ _ => exact c.trans (O' := fun _ => False) hide_le (fun _ z => z.elim)
/-- as data -/
theorem Res.im (x : Res K F σ O H δ' H' v r) : Im K H' (Ac F σ δ') v r.asD := by
  cases x with
  | d _ _ c => exact c
  | own a b _ d g =>
    refine .lst a ⟨(b.fresh hide_same).2, b.av_fresh hide_same, .inr g⟩ (d.ext (O := fun _ => False) hide_le fun _ z => ⟨id, z⟩)
theorem Res.frz (x : Res K F σ O H δ' H' v r) : Res K F σ O H δ' H' v (.d r.asD) := .d x.den x.ext x.im
end

/-! ### the judgements -/
/-- what is wanted of an exception: its class, the slots -/
abbrev Ex := Value → List SV → Prop
abbrev TD := Ex → List SV → (SV → List SV → Prop) → Prop
abbrev TB := Ex → List SV → (D → List SV → Prop) → Prop
abbrev TDT := Ex → List SV → (Bool → List SV → Prop) → Prop
abbrev TDA := Ex → List SV → (List D → List SV → Prop) → Prop
def WF (K : PySem.W.Frag) (F : Fm) (ex : Ex) : WX := fun cls _ σ H => ∃ δ, Den K F σ H δ ∧ ex cls δ

def SameOw (σ : St) (δ δ' : List SV) : Prop := ∀ a, Ow σ δ' a → Ow σ δ a
theorem SameOw.refl {σ : St} {δ : List SV} : SameOw σ δ δ := fun _ h => h
theorem SameOw.trans {σ : St} {δ δ1 δ2 : List SV} (a : SameOw σ δ δ1) (b : SameOw σ δ1 δ2) : SameOw σ δ δ2 := fun x h => a x (b x h)

/-- a value that may be a list of the frame's own -/
def ImB (K : PySem.W.Frag) (F : Fm) (σ : St) (δ : List SV) (H : Hp) (v : V) (x : D) : Prop :=
  Im K H (Ac F σ δ) v x ∨ ∃ (i : Nat) (a : Addr) (xs : List D), v = .ref a ∧ x = .list xs ∧ Owns δ i xs ∧ σ[i]? = some (some (.ref a))
theorem ImB.lst {K : PySem.W.Frag} {F : Fm} {σ : St} {δ : List SV} {H : Hp} {v : V} {xs : List D} (d : Den K F σ H δ) (h : ImB K F σ δ H v (.list xs)) :
    ∃ a vs, v = .ref a ∧ H a = some (.lst vs) ∧ ImAll K H (Ac F σ δ) vs xs := by
  rcases h with h | ⟨i, a, xs', rfl, e, h1, h2⟩
  · cases h with
    | lst s _ x => exact ⟨_, _, rfl, s, x⟩
  · cases e
    obtain ⟨b, vs, e1, e2, e3⟩ := d.own i xs h1
    rw [h2] at e1; cases e1
    exact ⟨a, vs, rfl, e2, e3⟩
theorem ImB.tup {K : PySem.W.Frag} {F : Fm} {σ : St} {δ : List SV} {H : Hp} {v : V} {xs : List D} (h : ImB K F σ δ H v (.tuple xs)) :
    ∃ a vs, v = .ref a ∧ SqT K H a vs ∧ ImAll K H (Ac F σ δ) vs xs := by
  rcases h with h | ⟨i, a, xs', rfl, e, h1, h2⟩
  · cases h with
    | tup s x => exact ⟨_, _, rfl, s, x⟩
  · cases e
theorem ImB.int {K : PySem.W.Frag} {F : Fm} {σ : St} {δ : List SV} {H : Hp} {v : V} {i : Int} (h : ImB K F σ δ H v (.int i)) : v = .int i := by
  rcases h with h | ⟨_, _, _, _, e, _, _⟩
  · cases h; rfl
  · cases e
theorem ImB.bl {K : PySem.W.Frag} {F : Fm} {σ : St} {δ : List SV} {H : Hp} {v : V} {i : Bool} (h : ImB K F σ δ H v (.bool i)) : v = .bl i := by
  rcases h with h | ⟨_, _, _, _, e, _, _⟩
  · cases h; rfl
  · cases e
theorem ImB.str {K : PySem.W.Frag} {F : Fm} {σ : St} {δ : List SV} {H : Hp} {v : V} {i : Str} (h : ImB K F σ δ H v (.str i)) : v = .str i := by
  rcases h with h | ⟨_, _, _, _, e, _, _⟩
  · cases h; rfl
  · cases e
theorem ImB.dp {K : PySem.W.Frag} {F : Fm} {σ : St} {δ : List SV} {H : Hp} {v : V} {x : D} (d : Den K F σ H δ) (h : ImB K F σ δ H v x) : Dp K H v x := by
  rcases h with h | ⟨i, a, xs, rfl, rfl, h1, h2⟩
  · exact h.dp
  · obtain ⟨a', vs, e1, e2, e3⟩ := ImB.lst d (.inr ⟨i, a, xs, rfl, rfl, h1, h2⟩)
    cases e1
    exact .lst (SqL.of e2) e3.dp
def LiftE (K : PySem.W.Frag) (F : Fm) (ex : Ex) (te : TE) (t : TD) : Prop :=
  ∀ σ H δ Q (Q' : VK), Den K F σ H δ → t ex δ Q → (∀ v H' r δ', Res K F σ (Ow σ δ) H δ' H' v r → SameOw σ δ δ' → Q r δ' → Q' v H') → te σ H Q'
def LiftB (K : PySem.W.Frag) (F : Fm) (ex : Ex) (te : TE) (t : TB) : Prop :=
  ∀ σ H δ Q (Q' : VK), Den K F σ H δ → t ex δ Q → (∀ v H' x δ', Den K F σ H' δ' → Ext (Ow σ δ) H H' → ImB K F σ δ' H' v x → SameOw σ δ δ' → Q x δ' → Q' v H') → te σ H Q'
def LiftT (K : PySem.W.Frag) (F : Fm) (ex : Ex) (te : TT) (t : TDT) : Prop :=
  ∀ σ H δ Q (Q' : Bool → Hp → Prop), Den K F σ H δ → t ex δ Q → (∀ b H' δ', Den K F σ H' δ' → Ext (Ow σ δ) H H' → SameOw σ δ δ' → Q b δ' → Q' b H') → te σ H Q'
def LiftA (K : PySem.W.Frag) (F : Fm) (ex : Ex) (te : TA) (t : TDA) : Prop :=
  ∀ σ H δ Q (Q' : List V → Hp → Prop), Den K F σ H δ → t ex δ Q → (∀ vs H' xs δ', Den K F σ H' δ' → Ext (Ow σ δ) H H' → ImAll K H' (Ac F σ δ') vs xs → SameOw σ δ δ' → Q xs δ' → Q' vs H') → te σ H Q'
/-- the wish W of a context covers what is wanted at the slots -/
def Imp (K : PySem.W.Frag) (F : Fm) (ex : Ex) (W : WX) : Prop := ∀ cls d σ H, WF K F ex cls d σ H → W cls d σ H
def DE (X : Cx) (e : Expr) (t : TD) : Prop := ∀ W, Takes X W → ∃ te, PE X e te ∧ ∀ F ex, Imp X.K F ex W → LiftE X.K F ex te t
def DB (X : Cx) (e : Expr) (t : TB) : Prop := ∀ W, Takes X W → ∃ te, PE X e te ∧ ∀ F ex, Imp X.K F ex W → LiftB X.K F ex te t
def DT (X : Cx) (e : Expr) (t : TDT) : Prop := ∀ W, Takes X W → ∃ te, PT X e te ∧ ∀ F ex, Imp X.K F ex W → LiftT X.K F ex te t
def DW (X : Cx) (e : Expr) (t : TDT) : Prop := ∀ W, Takes X W → ∃ te, PW X e te ∧ ∀ F ex, Imp X.K F ex W → LiftT X.K F ex te t
def DA (X : Cx) (es : List Expr) (t : TDA) : Prop := ∀ W, Takes X W → ∃ te, PA X es te ∧ ∀ F ex, Imp X.K F ex W → LiftA X.K F ex te t

theorem ac_mono {F : Fm} {σ : St} {δ δ' : List SV} (h : SameOw σ δ δ') (a : Addr) (z : Ac F σ δ a) : Ac F σ δ' a := ⟨fun q => z.1 (h a q), z.2⟩
/-- carried over a step -/
theorem Im.over {K : PySem.W.Frag} {F : Fm} {σ : St} {H H' : Hp} {δ δ' : List SV} {v : V} {x : D} (h : Im K H (Ac F σ δ) v x) (e : Ext (Ow σ δ) H H') (s : SameOw σ δ δ') : Im K H' (Ac F σ δ') v x :=
  h.ext e fun a z => ⟨z.1, ac_mono s a z⟩
theorem ImAll.over {K : PySem.W.Frag} {F : Fm} {σ : St} {H H' : Hp} {δ δ' : List SV} {v : List V} {x : List D} (h : ImAll K H (Ac F σ δ) v x) (e : Ext (Ow σ δ) H H') (s : SameOw σ δ δ') : ImAll K H' (Ac F σ δ') v x :=
  h.ext e fun a z => ⟨z.1, ac_mono s a z⟩
/-- a borrowed value too, where the slots stay as they are -/
theorem ImB.over {K : PySem.W.Frag} {F : Fm} {σ : St} {H H' : Hp} {δ δ' : List SV} {v : V} {x : D} (h : ImB K F σ δ H v x) (e : Ext (Ow σ δ) H H') (s : δ' = δ) : ImB K F σ δ' H' v x := by
  subst s
  rcases h with h | h
  · exact .inl (h.over e SameOw.refl)
  · exact .inr h
theorem Ext.on {σ : St} {δ δ1 : List SV} {H H1 H2 : Hp} (a : Ext (Ow σ δ) H H1) (s : SameOw σ δ δ1) (b : Ext (Ow σ δ1) H1 H2) : Ext (Ow σ δ) H H2 :=
  a.trans b fun x z => .inl (s x z)

section
variable {X : Cx} {F : Fm}
def tOf (t : TD) : TB := fun ex δ Q => t ex δ fun r δ' => Q r.asD δ'
theorem DE.b {e : Expr} {t : TD} (h : DE X e t) : DB X e (tOf t) := fun W tk => by
  obtain ⟨te, pe, l⟩ := h W tk
  exact ⟨te, pe, fun F ex im σ H δ Q Q' d q f => l F ex im σ H δ _ Q' d q fun v H' r δ' x so y => f v H' r.asD δ' x.den x.ext (.inl x.im) so y⟩
end
end DL
namespace DL
open PySem PySem.Spec L2
open PyProof.Rows hiding St

/-! ### expressions -/
section
variable {X : Cx} {F : Fm} {a b c : Expr} {e : Expr} {es : List Expr} {pos p : Pos}

def tV (i : Nat) : TD := fun _ δ Q => ∃ x, δ[i]? = some (.d x) ∧ Q (.d x) δ
theorem dv (i : Nat) {x : Str} (hN : X.N[i]? = some x := by rfl) (hv : Vis X.env.scope x := by first | exact Or.inl rfl | exact Or.inr (Or.inl rfl) | exact Or.inr (Or.inr rfl)) (hd : (x == ("__debug__" : Str)) = false := by decide)
    (hcd : (x == ("__classdict__" : Str)) = false := by decide) : DE X (.Name x pos) (tV i) := fun W _ => by
  refine ⟨_, pe_var hN hv hd hcd, fun F ex im σ H δ Q Q' d q f => ?_⟩
  obtain ⟨x, e, q⟩ := q
  obtain ⟨v, e1, e2⟩ := d.dat i x e
  exact ⟨v, e1, f v H (.d x) δ (.d d Ext.refl e2) SameOw.refl q⟩
def tBo (i : Nat) : TB := fun _ δ Q => ∃ xs, Owns δ i xs ∧ Q (.list xs) δ
theorem db (i : Nat) {x : Str} (hN : X.N[i]? = some x := by rfl) (hv : Vis X.env.scope x := by first | exact Or.inl rfl | exact Or.inr (Or.inl rfl) | exact Or.inr (Or.inr rfl)) (hd : (x == ("__debug__" : Str)) = false := by decide)
    (hcd : (x == ("__classdict__" : Str)) = false := by decide) : DB X (.Name x pos) (tBo i) := fun W _ => by
  refine ⟨_, pe_var hN hv hd hcd, fun F ex im σ H δ Q Q' d q f => ?_⟩
  obtain ⟨xs, e, q⟩ := q
  obtain ⟨a, vs, e1, e2, e3⟩ := d.own i xs e
  exact ⟨_, e1, f (.ref a) H (.list xs) δ d Ext.refl (.inr ⟨i, a, xs, rfl, rfl, e, e1⟩) SameOw.refl q⟩
def tK (x : D) : TD := fun _ δ Q => Q (.d x) δ
theorem dconst {v : V} {x : D} (h : PE X e (tC v)) (hi : ∀ H A, Im X.K H A v x) : DE X e (tK x) := fun W _ =>
  ⟨_, h, fun F ex im σ H δ Q Q' d q f => f v H (.d x) δ (.d d Ext.refl (hi _ _)) SameOw.refl q⟩
theorem dint {i j} : DE X (.Constant (.int i) j pos) (tK (.int i)) := dconst pe_int fun _ _ => .int i
theorem dbl {i j} : DE X (.Constant (.bool i) j pos) (tK (.bool i)) := dconst pe_bl fun _ _ => .bl i
theorem dnon {j} : DE X (.Constant .none j pos) (tK .none) := dconst pe_non fun _ _ => .non
theorem dstr {i j} : DE X (.Constant (.str i) j pos) (tK (.str i)) := dconst pe_str fun _ _ => .str i
/-- a constant of the module -/
theorem dglob {x : Str} {v : V} {u : Value} {y : D} (hg : Gl X x) (hm : X.mg x = some u) (r : RelV v u) (hi : ∀ H A, Im X.K H A v y) (hd : (x == ("__debug__" : Str)) = false := by decide) : DE X (.Name x pos) (tK y) :=
  dconst (pe_glob hg hm r hd) hi

/-! two operands -/
def t2 (ta tb : TB) (k : Ex → D → D → List SV → List SV → (SV → List SV → Prop) → Prop) : TD := fun ex δ Q => ta ex δ fun x δ1 => tb ex δ1 fun y δ2 => k ex x y δ1 δ2 Q
/-- an operation on two ints -/
def kI (C : Int → Int → Prop) (g : Int → Int → D) : Ex → D → D → List SV → List SV → (SV → List SV → Prop) → Prop := fun _ x y _ δ2 Q => ∃ i j, x = .int i ∧ y = .int j ∧ C i j ∧ Q (.d (g i j)) δ2
theorem LiftB.two {K : PySem.W.Frag} {F : Fm} {ex : Ex} {t u : TE} {ta tb : TB} (la : LiftB K F ex t ta) (lb : LiftB K F ex u tb) {σ : St} {H : Hp} {δ : List SV} {R : D → D → List SV → List SV → Prop} {Q' : V → V → Hp → Prop} (d : Den K F σ H δ)
    (q : ta ex δ fun x δ1 => tb ex δ1 fun y δ2 => R x y δ1 δ2)
    (f : ∀ v w H' x y δ1 δ2, Den K F σ H' δ2 → Ext (Ow σ δ) H H' → SameOw σ δ δ2 → (δ2 = δ1 → ImB K F σ δ2 H' v x) → (∀ i, x = .int i → v = .int i) → ImB K F σ δ2 H' w y → R x y δ1 δ2 → Q' v w H') :
    t σ H fun v H1 => u σ H1 fun w H2 => Q' v w H2 :=
  la σ H δ _ _ d q fun v H1 x δ1 d1 e1 m1 s1 q1 => lb σ H1 δ1 _ _ d1 q1 fun w H2 y δ2 d2 e2 m2 s2 q2 =>
    f v w H2 x y δ1 δ2 d2 (e1.on s1 e2) (s1.trans s2) (fun z => m1.over e2 z) (fun i z => by subst z; exact m1.int) m2 q2
theorem dop {op : Operator} {C : Int → Int → Prop} {g : Int → Int → V} {g' : Int → Int → D} {ta tb : TB} (ho : OpR X (binaryOp op) (rI C g)) (hg : ∀ H A i j, Im X.K H A (g i j) (g' i j)) (ha : DB X a ta) (hb : DB X b tb) :
    DE X (.BinOp a op b pos) (t2 ta tb (kI C g')) := fun W tk => by
  obtain ⟨t, pa, la⟩ := ha W tk
  obtain ⟨u, pb, lb⟩ := hb W tk
  refine ⟨_, pe_op ho pa pb, fun F ex im σ H δ Q Q' d q f => ?_⟩
  refine (la F ex im).two (lb F ex im) d q fun v w H' x y δ1 δ2 d2 e s m1 mi m2 q => ?_
  obtain ⟨i, j, rfl, rfl, c, q⟩ := q
  exact ⟨i, j, mi i rfl, m2.int, c, f _ H' _ δ2 (.d d2 e (hg _ _ _ _)) s q⟩
def CT (_ _ : Int) : Prop := True
theorem rI_of0 {X : Cx} {f : Value → Value → Sem Value} {g : Int → Int → V} (h : OpR X f (rI0 g)) : OpR X f (rI CT g) := fun pins s σ H x y v u Q I rx ry ⟨i, j, e1, e2, _, q⟩ => h pins s σ H x y v u Q I rx ry ⟨i, j, e1, e2, q⟩
/-- ints of less than some million bits -/
def CMu (i j : Int) : Prop := i.natAbs.log2 + j.natAbs.log2 < 134000000
theorem CMu.ok {i j : Int} (h : CMu i j) : IntMulOk i j := by
  have bits : ∀ x : Int, Builtin.Int.intBits x ≤ x.natAbs.log2 + 1 := fun x => by
    unfold Builtin.Int.intBits
    split <;> omega
  have b1 := bits i
  have b2 := bits j
  unfold CMu at h
  have lim : bitsLine = 134217728 := by decide
  unfold IntMulOk
  intro z
  rw [Bool.and_eq_true] at z
  obtain ⟨_, z⟩ := z
  unfold Builtin.Int.intTooBig at z
  have z := of_decide_eq_true z
  rw [lim] at z
  omega
theorem op_mulM : OpR X (binaryOp .Mult) (rI CMu fun i j => .int (i * j)) := opI fun _ _ _ _ _ _ _ hc q => mul_int q hc.ok
/-- // where the divisor, or what is divided, is not too long -/
def CDi (i j : Int) : Prop := j ≠ 0 ∧ (j.natAbs.log2 < 9000 ∨ i.natAbs.log2 < 13000)
theorem CDi.ok {i j : Int} (h : CDi i j) : Builtin.divisionGoesByPylong i j = false := by
  rcases h.2 with h | h
  · exact PyProof.noPylong_of_log2 h
  · unfold Builtin.divisionGoesByPylong
    have e1 : (if i == 0 then 0 else i.natAbs.log2 / 30 + 1) ≤ 434 := by split <;> omega
    show (decide ((if j == 0 then 0 else j.natAbs.log2 / 30 + 1) > 300) && decide ((if i == 0 then 0 else i.natAbs.log2 / 30 + 1) > (if j == 0 then 0 else j.natAbs.log2 / 30 + 1) + 150)) = false
    generalize (if i == 0 then 0 else i.natAbs.log2 / 30 + 1) = p at e1
    generalize (if j == 0 then 0 else j.natAbs.log2 / 30 + 1) = q
    by_cases z : q > 300
    · rw [decide_eq_false (show ¬ p > q + 150 by omega), Bool.and_false]
    · rw [decide_eq_false z, Bool.false_and]
theorem op_fdivD : OpR X (binaryOp .FloorDiv) (rI CDi fun i j => .int (i.fdiv j)) := opI fun _ _ _ _ _ _ _ hc q => floordiv_int hc.1 q (.inl hc.ok)
def CNz (_ j : Int) : Prop := j ≠ 0
/-- // by anything, where there is room for the long division -/
theorem op_fdivL (hp : ∀ pins σ H s, Inv X pins σ H s → PylongRoom (model X.prog X.w) X.A s) : OpR X (binaryOp .FloorDiv) (rI CNz fun i j => .int (i.fdiv j)) := by
  intro pins s σ H x y v u Q I rx ry h
  obtain ⟨i, j, rfl, rfl, c, q⟩ := h
  obtain ⟨t, rfl⟩ := rx
  obtain ⟨t', rfl⟩ := ry
  exact floordiv_int c ⟨.int _, H, I.tok _, ⟨_, rfl⟩, q⟩ (.inr (hp pins σ H s I))
theorem dadd {ta tb : TB} (ha : DB X a ta) (hb : DB X b tb) : DE X (.BinOp a .Add b pos) (t2 ta tb (kI CT fun i j => .int (i + j))) := dop (rI_of0 op_add) (fun _ _ _ _ => .int _) ha hb
theorem dsub {ta tb : TB} (ha : DB X a ta) (hb : DB X b tb) : DE X (.BinOp a .Sub b pos) (t2 ta tb (kI CT fun i j => .int (i - j))) := dop (rI_of0 op_sub) (fun _ _ _ _ => .int _) ha hb
theorem dmul {ta tb : TB} (ha : DB X a ta) (hb : DB X b tb) : DE X (.BinOp a .Mult b pos) (t2 ta tb (kI CMu fun i j => .int (i * j))) := dop op_mulM (fun _ _ _ _ => .int _) ha hb
theorem dmod {ta tb : TB} (ha : DB X a ta) (hb : DB X b tb) : DE X (.BinOp a .Mod b pos) (t2 ta tb (kI CNz fun i j => .int (i.fmod j))) := dop op_modN (fun _ _ _ _ => .int _) ha hb
theorem dfdiv {ta tb : TB} (ha : DB X a ta) (hb : DB X b tb) : DE X (.BinOp a .FloorDiv b pos) (t2 ta tb (kI CDi fun i j => .int (i.fdiv j))) := dop op_fdivD (fun _ _ _ _ => .int _) ha hb
theorem dfdivL {ta tb : TB} (hp : ∀ pins σ H s, Inv X pins σ H s → PylongRoom (model X.prog X.w) X.A s) (ha : DB X a ta) (hb : DB X b tb) : DE X (.BinOp a .FloorDiv b pos) (t2 ta tb (kI CNz fun i j => .int (i.fdiv j))) := dop (op_fdivL hp) (fun _ _ _ _ => .int _) ha hb
theorem dpow {ta tb : TB} (ha : DB X a ta) (hb : DB X b tb) : DE X (.BinOp a .Pow b pos) (t2 ta tb (kI CPow fun i j => .int (i ^ j.toNat))) := dop op_pow (fun _ _ _ _ => .int _) ha hb
def t1 (ta : TB) (k : Ex → D → List SV → (SV → List SV → Prop) → Prop) : TD := fun ex δ Q => ta ex δ fun x δ1 => k ex x δ1 Q
def kU (g : Int → D) : Ex → D → List SV → (SV → List SV → Prop) → Prop := fun _ x δ1 Q => ∃ i, x = .int i ∧ Q (.d (g i)) δ1
theorem dneg {ta : TB} (ha : DB X a ta) : DE X (.UnaryOp .USub a pos) (t1 ta (kU fun i => .int (-i))) := fun W tk => by
  obtain ⟨t, pa, la⟩ := ha W tk
  refine ⟨_, pe_un un_neg pa, fun F ex im σ H δ Q Q' d q f => ?_⟩
  refine la F ex im σ H δ _ _ d q fun v H1 x δ1 d1 e1 m1 s1 q1 => ?_
  obtain ⟨i, rfl, q⟩ := q1
  exact ⟨i, m1.int, f _ H1 _ δ1 (.d d1 e1 (.int _)) s1 q⟩

/-! comparisons -/
theorem dcmpI {op : CmpOp} {g : Int → Int → Bool} {ta tb : TB} (ho : OpR X (compareOp op) (rI0 fun i j => .bl (g i j))) (hm : behindInMarks op b = false) (ha : DB X a ta) (hb : DB X b tb) :
    DE X (.Compare a [op] [b] pos) (t2 ta tb (kI CT fun i j => .bool (g i j))) := fun W tk => by
  obtain ⟨t, pa, la⟩ := ha W tk
  obtain ⟨u, pb, lb⟩ := hb W tk
  refine ⟨_, pe_cmpR ho pa pb hm, fun F ex im σ H δ Q Q' d q f => ?_⟩
  refine (la F ex im).two (lb F ex im) d q fun v w H' x y δ1 δ2 d2 e s m1 mi m2 q => ?_
  obtain ⟨i, j, rfl, rfl, c, q⟩ := q
  exact ⟨i, j, mi i rfl, m2.int, f _ H' _ δ2 (.d d2 e (.bl _)) s q⟩
theorem dlt {ta tb : TB} (ha : DB X a ta) (hb : DB X b tb) : DE X (.Compare a [.Lt] [b] pos) (t2 ta tb (kI CT fun i j => .bool (decide (i < j)))) := dcmpI op_lt (nomark _) ha hb
theorem dle {ta tb : TB} (ha : DB X a ta) (hb : DB X b tb) : DE X (.Compare a [.LtE] [b] pos) (t2 ta tb (kI CT fun i j => .bool (decide (i ≤ j)))) := dcmpI op_le (nomark _) ha hb
theorem dgt {ta tb : TB} (ha : DB X a ta) (hb : DB X b tb) : DE X (.Compare a [.Gt] [b] pos) (t2 ta tb (kI CT fun i j => .bool (decide (j < i)))) := dcmpI op_gt (nomark _) ha hb
theorem dge {ta tb : TB} (ha : DB X a ta) (hb : DB X b tb) : DE X (.Compare a [.GtE] [b] pos) (t2 ta tb (kI CT fun i j => .bool (decide (j ≤ i)))) := dcmpI op_ge (nomark _) ha hb
/-- == of data -/
def kEq (g : Bool → Bool) : Ex → D → D → List SV → List SV → (SV → List SV → Prop) → Prop := fun _ x y δ1 δ2 Q => δ2 = δ1 ∧ SeqAt.shaped x = true ∧ SeqAt.shaped y = true ∧ Q (.d (.bool (g (PyData.eqv x y)))) δ2
theorem deq {ta tb : TB} (hu : X.A.units + 64 < cLine) (ha : DB X a ta) (hb : DB X b tb) : DE X (.Compare a [.Eq] [b] pos) (t2 ta tb (kEq id)) := fun W tk => by
  obtain ⟨t, pa, la⟩ := ha W tk
  obtain ⟨u, pb, lb⟩ := hb W tk
  refine ⟨_, pe_cmpR (op_eqD hu) pa pb (nomark _), fun F ex im σ H δ Q Q' d q f => ?_⟩
  refine (la F ex im).two (lb F ex im) d q fun v w H' x y δ1 δ2 d2 e s m1 mi m2 q => ?_
  obtain ⟨ee, sx, sy, q⟩ := q
  exact ⟨x, y, (m1 ee).dp d2, m2.dp d2, sx, sy, f _ H' _ δ2 (.d d2 e (.bl _)) s q⟩
theorem dne {ta tb : TB} (hu : X.A.units + 64 < cLine) (ha : DB X a ta) (hb : DB X b tb) : DE X (.Compare a [.NotEq] [b] pos) (t2 ta tb (kEq not)) := fun W tk => by
  obtain ⟨t, pa, la⟩ := ha W tk
  obtain ⟨u, pb, lb⟩ := hb W tk
  refine ⟨_, pe_cmpR (op_neD hu) pa pb (nomark _), fun F ex im σ H δ Q Q' d q f => ?_⟩
  refine (la F ex im).two (lb F ex im) d q fun v w H' x y δ1 δ2 d2 e s m1 mi m2 q => ?_
  obtain ⟨ee, sx, sy, q⟩ := q
  exact ⟨x, y, (m1 ee).dp d2, m2.dp d2, sx, sy, f _ H' _ δ2 (.d d2 e (.bl _)) s q⟩
/-- is None -/
def isN : D → Bool
  | .none => true
  | _ => false
def kN (g : Bool → Bool) : Ex → D → D → List SV → List SV → (SV → List SV → Prop) → Prop := fun _ x y δ1 δ2 Q => δ2 = δ1 ∧ y = .none ∧ Q (.d (.bool (g (isN x)))) δ2
theorem ImB.isN {K : PySem.W.Frag} {σ : St} {δ : List SV} {H : Hp} {v : V} {x : D} (h : ImB K F σ δ H v x) : decide (v = .non) = isN x := by
  rcases h with h | ⟨_, _, _, e1, e2, _, _⟩
  · cases h <;> rfl
  · subst e1 e2; rfl
theorem ImB.non {K : PySem.W.Frag} {σ : St} {δ : List SV} {H : Hp} {v : V} (h : ImB K F σ δ H v .none) : v = .non := by
  rcases h with h | ⟨_, _, _, _, e, _, _⟩
  · cases h; rfl
  · cases e
theorem dis {ta tb : TB} (ha : DB X a ta) (hb : DB X b tb) : DE X (.Compare a [.Is] [b] pos) (t2 ta tb (kN id)) := fun W tk => by
  obtain ⟨t, pa, la⟩ := ha W tk
  obtain ⟨u, pb, lb⟩ := hb W tk
  refine ⟨_, pe_cmpR op_isN pa pb (nomark _), fun F ex im σ H δ Q Q' d q f => ?_⟩
  refine (la F ex im).two (lb F ex im) d q fun v w H' x y δ1 δ2 d2 e s m1 mi m2 q => ?_
  obtain ⟨ee, rfl, q⟩ := q
  refine ⟨m2.non, ?_⟩
  rw [(m1 ee).isN]
  exact f _ H' _ δ2 (.d d2 e (.bl _)) s q
theorem disn {ta tb : TB} (ha : DB X a ta) (hb : DB X b tb) : DE X (.Compare a [.IsNot] [b] pos) (t2 ta tb (kN not)) := fun W tk => by
  obtain ⟨t, pa, la⟩ := ha W tk
  obtain ⟨u, pb, lb⟩ := hb W tk
  refine ⟨_, pe_cmpR op_notN pa pb (nomark _), fun F ex im σ H δ Q Q' d q f => ?_⟩
  refine (la F ex im).two (lb F ex im) d q fun v w H' x y δ1 δ2 d2 e s m1 mi m2 q => ?_
  obtain ⟨ee, rfl, q⟩ := q
  refine ⟨m2.non, ?_⟩
  rw [(m1 ee).isN]
  exact f _ H' _ δ2 (.d d2 e (.bl _)) s q
/-- a < b < c on ints -/
def tCh (g g' : Int → Int → Bool) (ta tb tc : TB) : TD := fun ex δ Q => ta ex δ fun x δ1 => tb ex δ1 fun y δ2 => ∃ i j, x = .int i ∧ y = .int j ∧
  if g i j = true then tc ex δ2 fun z δ3 => ∃ l, z = .int l ∧ Q (.d (.bool (g' j l))) δ3 else Q (.d (.bool false)) δ2
theorem dchain {op op' : CmpOp} {g g' : Int → Int → Bool} {ta tb tc : TB} (ho : OpR X (compareOp op) (rI0 fun i j => .bl (g i j))) (ho' : OpR X (compareOp op') (rI0 fun i j => .bl (g' i j))) (ha : DB X a ta) (hb : DB X b tb) (hc : DB X c tc) (hm : lastMarks [op, op'] [b, c] = false := by rfl) :
    DE X (.Compare a [op, op'] [b, c] pos) (tCh g g' ta tb tc) := fun W tk => by
  obtain ⟨t, pa, la⟩ := ha W tk
  obtain ⟨u, pb, lb⟩ := hb W tk
  obtain ⟨w, pc, lc⟩ := hc W tk
  refine ⟨_, pe_chain ho ho' pa pb pc (hm := hm), fun F ex im σ H δ Q Q' d q f => ?_⟩
  refine (la F ex im).two (lb F ex im) d q fun v w H' x y δ1 δ2 d2 e s m1 mi m2 q => ?_
  obtain ⟨i, j, rfl, rfl, q⟩ := q
  refine ⟨i, j, mi i rfl, m2.int, g i j, rfl, ?_⟩
  split
  · rename_i hg
    rw [if_pos hg] at q
    refine lc F ex im σ H' δ2 _ _ d2 q fun v3 H3 z δ3 d3 e3 m3 s3 q3 => ?_
    obtain ⟨l, rfl, q3⟩ := q3
    exact ⟨j, l, m2.int, m3.int, f _ H3 _ δ3 (.d d3 (e.on s e3) (.bl _)) (s.trans s3) q3⟩
  · rename_i hg
    rw [if_neg hg] at q
    exact f _ H' _ δ2 (.d d2 e (.bl _)) s q

/-! tests -/
/-- an expression whose value is True or False -/
def tTe (ta : TB) : TDT := fun ex δ Q => ta ex δ fun x δ1 => ∃ k, x = .bool k ∧ Q k δ1
theorem dtval {ta : TB} (ha : DB X e ta) (he : ∀ whole, isTrue e X.env whole = (do let v ← whole; standAt e.pos; holding [v] (truthy v)) := by intro _; rfl) : DT X e (tTe ta) := fun W tk => by
  obtain ⟨t, pa, la⟩ := ha W tk
  refine ⟨_, pt_val pa he, fun F ex im σ H δ Q Q' d q f => ?_⟩
  refine la F ex im σ H δ _ _ d q fun v H1 x δ1 d1 e1 m1 s1 q1 => ?_
  obtain ⟨k, rfl, q⟩ := q1
  exact ⟨k, m1.bl, f k H1 δ1 d1 e1 s1 q⟩
theorem dtcmpI {op : CmpOp} {g : Int → Int → Bool} {ta tb : TB} (ho : OpR X (compareOp op) (rI0 fun i j => .bl (g i j))) (hm : behindInMarks op b = false) (ha : DB X a ta) (hb : DB X b tb) :
    DT X (.Compare a [op] [b] pos) (tTe (tOf (t2 ta tb (kI CT fun i j => .bool (g i j))))) := fun W tk => by
  obtain ⟨t, pa, la⟩ := ha W tk
  obtain ⟨u, pb, lb⟩ := hb W tk
  refine ⟨_, pt_cmpR ho pa pb hm, fun F ex im σ H δ Q Q' d q f => ?_⟩
  refine (la F ex im).two (lb F ex im) d q fun v w H' x y δ1 δ2 d2 e s m1 mi m2 q => ?_
  obtain ⟨i, j, rfl, rfl, c, k, ek, q⟩ := q
  cases ek
  exact ⟨i, j, mi i rfl, m2.int, _, rfl, f _ H' δ2 d2 e s q⟩
theorem dtlt {ta tb : TB} (ha : DB X a ta) (hb : DB X b tb) : DT X (.Compare a [.Lt] [b] pos) (tTe (tOf (t2 ta tb (kI CT fun i j => .bool (decide (i < j)))))) := dtcmpI op_lt (nomark _) ha hb
theorem dtle {ta tb : TB} (ha : DB X a ta) (hb : DB X b tb) : DT X (.Compare a [.LtE] [b] pos) (tTe (tOf (t2 ta tb (kI CT fun i j => .bool (decide (i ≤ j)))))) := dtcmpI op_le (nomark _) ha hb
theorem dtgt {ta tb : TB} (ha : DB X a ta) (hb : DB X b tb) : DT X (.Compare a [.Gt] [b] pos) (tTe (tOf (t2 ta tb (kI CT fun i j => .bool (decide (j < i)))))) := dtcmpI op_gt (nomark _) ha hb
theorem dtge {ta tb : TB} (ha : DB X a ta) (hb : DB X b tb) : DT X (.Compare a [.GtE] [b] pos) (tTe (tOf (t2 ta tb (kI CT fun i j => .bool (decide (j ≤ i)))))) := dtcmpI op_ge (nomark _) ha hb
theorem dtcmpD {op : CmpOp} {g : Bool → Bool} {ta tb : TB} (ho : OpR X (compareOp op) fun x y H Q => ∃ d e, Dp X.K H x d ∧ Dp X.K H y e ∧ SeqAt.shaped d = true ∧ SeqAt.shaped e = true ∧ Q (.bl (g (PyData.eqv d e))) H) (hm : behindInMarks op b = false) (ha : DB X a ta) (hb : DB X b tb) :
    DT X (.Compare a [op] [b] pos) (tTe (tOf (t2 ta tb (kEq g)))) := fun W tk => by
  obtain ⟨t, pa, la⟩ := ha W tk
  obtain ⟨u, pb, lb⟩ := hb W tk
  refine ⟨_, pt_cmpR ho pa pb hm, fun F ex im σ H δ Q Q' d q f => ?_⟩
  refine (la F ex im).two (lb F ex im) d q fun v w H' x y δ1 δ2 d2 e s m1 mi m2 q => ?_
  obtain ⟨ee, sx, sy, k, ek, q⟩ := q
  cases ek
  exact ⟨x, y, (m1 ee).dp d2, m2.dp d2, sx, sy, _, rfl, f _ H' δ2 d2 e s q⟩
theorem dteq {ta tb : TB} (hu : X.A.units + 64 < cLine) (ha : DB X a ta) (hb : DB X b tb) : DT X (.Compare a [.Eq] [b] pos) (tTe (tOf (t2 ta tb (kEq id)))) := dtcmpD (g := id) (op_eqD hu) (nomark _) ha hb
theorem dtne {ta tb : TB} (hu : X.A.units + 64 < cLine) (ha : DB X a ta) (hb : DB X b tb) : DT X (.Compare a [.NotEq] [b] pos) (tTe (tOf (t2 ta tb (kEq not)))) := dtcmpD (g := not) (op_neD hu) (nomark _) ha hb
theorem dtcmpN {op : CmpOp} {g : Bool → Bool} {ta tb : TB} (ho : OpR X (compareOp op) fun x y H Q => y = .non ∧ Q (.bl (g (decide (x = .non)))) H) (hm : behindInMarks op b = false) (ha : DB X a ta) (hb : DB X b tb) :
    DT X (.Compare a [op] [b] pos) (tTe (tOf (t2 ta tb (kN g)))) := fun W tk => by
  obtain ⟨t, pa, la⟩ := ha W tk
  obtain ⟨u, pb, lb⟩ := hb W tk
  refine ⟨_, pt_cmpR ho pa pb hm, fun F ex im σ H δ Q Q' d q f => ?_⟩
  refine (la F ex im).two (lb F ex im) d q fun v w H' x y δ1 δ2 d2 e s m1 mi m2 q => ?_
  obtain ⟨ee, rfl, k, ek, q⟩ := q
  cases ek
  refine ⟨m2.non, g (isN x), ?_, f _ H' δ2 d2 e s q⟩
  rw [(m1 ee).isN]
theorem dtis {ta tb : TB} (ha : DB X a ta) (hb : DB X b tb) : DT X (.Compare a [.Is] [b] pos) (tTe (tOf (t2 ta tb (kN id)))) := dtcmpN (g := id) op_isN (nomark _) ha hb
theorem dtisn {ta tb : TB} (ha : DB X a ta) (hb : DB X b tb) : DT X (.Compare a [.IsNot] [b] pos) (tTe (tOf (t2 ta tb (kN not)))) := dtcmpN (g := not) op_notN (nomark _) ha hb
theorem dtchain {op op' : CmpOp} {g g' : Int → Int → Bool} {ta tb tc : TB} (ho : OpR X (compareOp op) (rI0 fun i j => .bl (g i j))) (ho' : OpR X (compareOp op') (rI0 fun i j => .bl (g' i j))) (ha : DB X a ta) (hb : DB X b tb) (hc : DB X c tc) (hm : lastMarks [op, op'] [b, c] = false := by rfl) :
    DT X (.Compare a [op, op'] [b, c] pos) (tTe (tOf (tCh g g' ta tb tc))) := fun W tk => by
  obtain ⟨t, pa, la⟩ := ha W tk
  obtain ⟨u, pb, lb⟩ := hb W tk
  obtain ⟨w, pc, lc⟩ := hc W tk
  refine ⟨_, pt_chain ho ho' pa pb pc (hm := hm), fun F ex im σ H δ Q Q' d q f => ?_⟩
  refine (la F ex im).two (lb F ex im) d q fun v w H' x y δ1 δ2 d2 e s m1 mi m2 q => ?_
  obtain ⟨i, j, rfl, rfl, q⟩ := q
  refine ⟨i, j, mi i rfl, m2.int, g i j, rfl, ?_⟩
  split
  · rename_i hg
    rw [if_pos hg] at q
    refine lc F ex im σ H' δ2 _ _ d2 q fun v3 H3 z δ3 d3 e3 m3 s3 q3 => ?_
    obtain ⟨l, rfl, k, ek, q3⟩ := q3
    cases ek
    exact ⟨j, l, m2.int, m3.int, _, rfl, f _ H3 δ3 d3 (e.on s e3) (s.trans s3) q3⟩
  · rename_i hg
    rw [if_neg hg] at q
    obtain ⟨k, ek, q⟩ := q
    cases ek
    exact ⟨_, rfl, f _ H' δ2 d2 e s q⟩
def tNo (t : TDT) : TDT := fun ex δ Q => t ex δ fun k δ1 => Q (!k) δ1
def tAn (t u : TDT) : TDT := fun ex δ Q => t ex δ fun k δ1 => if k = true then u ex δ1 Q else Q false δ1
def tOr' (t u : TDT) : TDT := fun ex δ Q => t ex δ fun k δ1 => if k = true then Q true δ1 else u ex δ1 Q
theorem dtnot {ta : TDT} (ha : DT X a ta) : DT X (.UnaryOp .Not a pos) (tNo ta) := fun W tk => by
  obtain ⟨t, pa, la⟩ := ha W tk
  exact ⟨_, pt_not pa, fun F ex im σ H δ Q Q' d q f => la F ex im σ H δ _ _ d q fun k H1 δ1 d1 e1 s1 q1 => f _ H1 δ1 d1 e1 s1 q1⟩
theorem DW.t {ta : TDT} (ha : DW X a ta) : DT X a ta := fun W tk => by
  obtain ⟨t, pa, la⟩ := ha W tk
  exact ⟨t, pa.pt, la⟩
theorem dwand1 {ta : TDT} (ha : DT X a ta) : DW X (.BoolOp .And [a] pos) ta := fun W tk => by
  obtain ⟨t, pa, la⟩ := ha W tk
  exact ⟨t, pw_and1 pa, la⟩
theorem dwor1 {ta : TDT} (ha : DT X a ta) : DW X (.BoolOp .Or [a] pos) ta := fun W tk => by
  obtain ⟨t, pa, la⟩ := ha W tk
  exact ⟨t, pw_or1 pa, la⟩
theorem dwand {ta tb : TDT} (ha : DT X a ta) (hb : DW X (.BoolOp .And (b :: es) pos) tb) : DW X (.BoolOp .And (a :: b :: es) pos) (tAn ta tb) := fun W tk => by
  obtain ⟨t, pa, la⟩ := ha W tk
  obtain ⟨u, pb, lb⟩ := hb W tk
  refine ⟨_, pw_and pa pb, fun F ex im σ H δ Q Q' d q f => la F ex im σ H δ _ _ d q fun k H1 δ1 d1 e1 s1 q1 => ?_⟩
  cases k with
  | true => exact lb F ex im σ H1 δ1 _ _ d1 q1 fun k2 H2 δ2 d2 e2 s2 q2 => f k2 H2 δ2 d2 (e1.on s1 e2) (s1.trans s2) q2
  | false => exact f _ H1 δ1 d1 e1 s1 q1
theorem dwor {ta tb : TDT} (ha : DT X a ta) (hb : DW X (.BoolOp .Or (b :: es) pos) tb) : DW X (.BoolOp .Or (a :: b :: es) pos) (tOr' ta tb) := fun W tk => by
  obtain ⟨t, pa, la⟩ := ha W tk
  obtain ⟨u, pb, lb⟩ := hb W tk
  refine ⟨_, pw_or pa pb, fun F ex im σ H δ Q Q' d q f => la F ex im σ H δ _ _ d q fun k H1 δ1 d1 e1 s1 q1 => ?_⟩
  cases k with
  | false => exact lb F ex im σ H1 δ1 _ _ d1 q1 fun k2 H2 δ2 d2 e2 s2 q2 => f k2 H2 δ2 d2 (e1.on s1 e2) (s1.trans s2) q2
  | true => exact f _ H1 δ1 d1 e1 s1 q1
/-- and, or as values, all but the last True or False -/
def tAnV (ta : TB) (tb : TD) : TD := fun ex δ Q => ta ex δ fun x δ1 => ∃ k, x = .bool k ∧ if k = true then tb ex δ1 Q else Q (.d (.bool false)) δ1
def tOrV (ta : TB) (tb : TD) : TD := fun ex δ Q => ta ex δ fun x δ1 => ∃ k, x = .bool k ∧ if k = true then Q (.d (.bool true)) δ1 else tb ex δ1 Q
theorem Res.on {K : PySem.W.Frag} {σ : St} {δ δ1 δ' : List SV} {H H1 H' : Hp} {v : V} {r : SV} (e : Ext (Ow σ δ) H H1) (s : SameOw σ δ δ1) (x : Res K F σ (Ow σ δ1) H1 δ' H' v r) : Res K F σ (Ow σ δ) H δ' H' v r := by
  cases x with
  | d a b c => exact .d a (e.on s b) c
  | own a b c d g => exact .own a b (e.on s c) d g
theorem done' {op : BoolOp} {t : TD} (h : DE X a t) : DE X (.BoolOp op [a] pos) t := fun W tk => by
  obtain ⟨te, pe, l⟩ := h W tk
  exact ⟨te, pe_one pe, l⟩
theorem dandV {ta : TB} {tb : TD} (ha : DB X a ta) (hb : DE X (.BoolOp .And (b :: es) pos) tb) : DE X (.BoolOp .And (a :: b :: es) pos) (tAnV ta tb) := fun W tk => by
  obtain ⟨t, pa, la⟩ := ha W tk
  obtain ⟨u, pb, lb⟩ := hb W tk
  refine ⟨_, pe_and pa pb, fun F ex im σ H δ Q Q' d q f => la F ex im σ H δ _ _ d q fun v H1 x δ1 d1 e1 m1 s1 q1 => ?_⟩
  obtain ⟨k, rfl, q1⟩ := q1
  refine ⟨k, m1.bl, ?_⟩
  cases k with
  | true => exact lb F ex im σ H1 δ1 _ _ d1 q1 fun v2 H2 r δ2 x2 s2 q2 => f v2 H2 r δ2 (x2.on e1 s1) (s1.trans s2) q2
  | false => exact f _ H1 _ δ1 (.d d1 e1 (.bl _)) s1 q1
theorem dorV {ta : TB} {tb : TD} (ha : DB X a ta) (hb : DE X (.BoolOp .Or (b :: es) pos) tb) : DE X (.BoolOp .Or (a :: b :: es) pos) (tOrV ta tb) := fun W tk => by
  obtain ⟨t, pa, la⟩ := ha W tk
  obtain ⟨u, pb, lb⟩ := hb W tk
  refine ⟨_, pe_or pa pb, fun F ex im σ H δ Q Q' d q f => la F ex im σ H δ _ _ d q fun v H1 x δ1 d1 e1 m1 s1 q1 => ?_⟩
  obtain ⟨k, rfl, q1⟩ := q1
  refine ⟨k, m1.bl, ?_⟩
  cases k with
  | false => exact lb F ex im σ H1 δ1 _ _ d1 q1 fun v2 H2 r δ2 x2 s2 q2 => f v2 H2 r δ2 (x2.on e1 s1) (s1.trans s2) q2
  | true => exact f _ H1 _ δ1 (.d d1 e1 (.bl _)) s1 q1
def kNo : Ex → D → List SV → (SV → List SV → Prop) → Prop := fun _ x δ1 Q => ∃ k, x = .bool k ∧ Q (.d (.bool (!k))) δ1
theorem dnotV {ta : TB} (ha : DB X a ta) : DE X (.UnaryOp .Not a pos) (t1 ta kNo) := fun W tk => by
  obtain ⟨t, pa, la⟩ := ha W tk
  refine ⟨_, pe_not pa, fun F ex im σ H δ Q Q' d q f => la F ex im σ H δ _ _ d q fun v H1 x δ1 d1 e1 m1 s1 q1 => ?_⟩
  obtain ⟨k, rfl, q1⟩ := q1
  exact ⟨k, m1.bl, f _ H1 _ δ1 (.d d1 e1 (.bl _)) s1 q1⟩
def tIfE (tc : TDT) (ta tb : TD) : TD := fun ex δ Q => tc ex δ fun k δ1 => if k = true then ta ex δ1 Q else tb ex δ1 Q
theorem dif {tc : TDT} {ta tb : TD} (hc : DT X c tc) (ha : DE X a ta) (hb : DE X b tb) : DE X (.IfExp c a b pos) (tIfE tc ta tb) := fun W tk => by
  obtain ⟨w, pc, lc⟩ := hc W tk
  obtain ⟨t, pa, la⟩ := ha W tk
  obtain ⟨u, pb, lb⟩ := hb W tk
  refine ⟨_, pe_ifExp pc pa pb, fun F ex im σ H δ Q Q' d q f => lc F ex im σ H δ _ _ d q fun k H1 δ1 d1 e1 s1 q1 => ?_⟩
  cases k with
  | true => exact la F ex im σ H1 δ1 _ _ d1 q1 fun v2 H2 r δ2 x2 s2 q2 => f v2 H2 r δ2 (x2.on e1 s1) (s1.trans s2) q2
  | false => exact lb F ex im σ H1 δ1 _ _ d1 q1 fun v2 H2 r δ2 x2 s2 q2 => f v2 H2 r δ2 (x2.on e1 s1) (s1.trans s2) q2

/-! subscripts -/
theorem ixN_lt {n : Nat} {i : Int} {j : Nat} (h : ixN n i = some j) : j < n := by
  unfold ixN at h
  split at h
  · split at h
    · cases h; omega
    · cases h
  · split at h
    · cases h; omega
    · cases h
theorem atI_im {K : PySem.W.Frag} {H : Hp} {A : Addr → Prop} {vs : List V} {xs : List D} {i : Int} {x : D} (h : ImAll K H A vs xs) (e : atI xs i = some x) : ∃ v, atI vs i = some v ∧ Im K H A v x := by
  unfold atI at e ⊢
  rw [h.length]
  cases q : ixN xs.length i with
  | none => rw [q] at e; cases e
  | some j =>
    rw [q] at e
    exact h.get (show xs[j]? = some x from e)
def kIx : Ex → D → D → List SV → List SV → (SV → List SV → Prop) → Prop := fun _ x y δ1 δ2 Q => δ2 = δ1 ∧ ∃ xs i z, (x = .tuple xs ∨ x = .list xs) ∧ y = .int i ∧ atI xs i = some z ∧ Q (.d z) δ2
theorem dix {ta tb : TB} (ha : DB X a ta) (hb : DB X b tb) (hs : PlainIx b := by intro _ _; rfl) : DE X (.Subscript a b pos) (t2 ta tb kIx) := fun W tk => by
  obtain ⟨t, pa, la⟩ := ha W tk
  obtain ⟨u, pb, lb⟩ := hb W tk
  refine ⟨_, pe_ix ix_seq pa pb hs, fun F ex im σ H δ Q Q' d q f => ?_⟩
  refine (la F ex im).two (lb F ex im) d q fun v w H' x y δ1 δ2 d2 e s m1 mi m2 q => ?_
  obtain ⟨ee, xs, i, z, ex, rfl, ei, q⟩ := q
  rcases ex with rfl | rfl
  · obtain ⟨p, vs, rfl, hp, im⟩ := (m1 ee).tup
    obtain ⟨zv, e1, e2⟩ := atI_im im ei
    exact .inr (.inl ⟨p, vs, i, zv, rfl, m2.int, hp, e1, f _ H' _ δ2 (.d d2 e e2) s q⟩)
  · obtain ⟨p, vs, rfl, hp, im⟩ := (m1 ee).lst d2
    obtain ⟨zv, e1, e2⟩ := atI_im im ei
    exact .inl ⟨p, vs, i, zv, rfl, m2.int, SqL.of hp, e1, f _ H' _ δ2 (.d d2 e e2) s q⟩
end
end DL
namespace DL
open PySem PySem.Spec L2
open PyProof.Rows hiding St

/-! ### new objects -/
theorem same_new {H : Hp} {p : Addr} {o : HO} (h : H p = none) : Same H (upd H p o) := fun b x e => by
  rw [upd_ne (ne_of_none e h)]
  exact e
section
variable {K : PySem.W.Frag} {F : Fm} {σ : St} {H H1 : Hp} {δ δ1 : List SV} {vs : List V} {xs : List D} {p : Addr}
theorem Res.newT (d : Den K F σ H1 δ1) (e : Ext (Ow σ δ) H H1) (m : ImAll K H1 (Ac F σ δ1) vs xs) (hp : H1 p = none) : Res K F σ (Ow σ δ) H δ1 (upd H1 p (.tup vs)) (.ref p) (.d (.tuple xs)) := by
  have s := same_new (o := .tup vs) hp
  refine .d (d.same s) (e.trans (O' := fun _ => False) (Ext.of_same s) fun _ z => z.elim) (.tup (SqT.of upd_same) (m.ext (O := fun _ => False) (Ext.of_same s) fun _ z => ⟨id, z⟩))
theorem Res.newL (d : Den K F σ H1 δ1) (e : Ext (Ow σ δ) H H1) (m : ImAll K H1 (Ac F σ δ1) vs xs) (hp : H1 p = none) : Res K F σ (Ow σ δ) H δ1 (upd H1 p (.lst vs)) (.ref p) (.own xs) := by
  refine .own (vs := vs) upd_same ?_ ?_ ?_ (d.fresh hp).1
  · rw [hide_upd hp]; exact d
  · rw [hide_upd hp]; exact e
  · rw [hide_upd hp]; exact m
end

section
variable {X : Cx} {F : Fm} {a b c : Expr} {e : Expr} {es : List Expr} {pos p : Pos}
/-! argument lists, displays -/
theorem danil : DA X [] (fun _ δ Q => Q [] δ) := fun W _ => ⟨_, pa_nil, fun F ex im σ H δ Q Q' d q f => f [] H [] δ d Ext.refl .nil SameOw.refl q⟩
def taC (t : TD) (u : TDA) : TDA := fun ex δ Q => t ex δ fun r δ1 => u ex δ1 fun xs δ2 => Q (r.asD :: xs) δ2
theorem dacons {t : TD} {u : TDA} (h : DE X e t) (hr : DA X es u) (hs : starEach (e :: es) X.env = (false, eval e X.env) :: starEach es X.env := by rfl) : DA X (e :: es) (taC t u) := fun W tk => by
  obtain ⟨te, pe, le⟩ := h W tk
  obtain ⟨ta, pa, la⟩ := hr W tk
  refine ⟨_, pa_cons pe pa hs, fun F ex im σ H δ Q Q' d q f => le F ex im σ H δ _ _ d q fun v H1 r δ1 x1 s1 q1 => la F ex im σ H1 δ1 _ _ x1.den q1 fun vs H2 xs δ2 d2 e2 m2 s2 q2 => ?_⟩
  exact f (v :: vs) H2 (r.asD :: xs) δ2 d2 (x1.ext.on s1 e2) (.cons (x1.im.over e2 s2) m2) (s1.trans s2) q2
def tTp (t : TDA) : TD := fun ex δ Q => t ex δ fun xs δ1 => xs.length ≤ sizeLine ∧ Q (.d (.tuple xs)) δ1
theorem dtup {k : Nat} {t : TDA} (h : DA X es t) : DE X (.Tuple es k pos) (tTp t) := fun W tk => by
  obtain ⟨ta, pa, la⟩ := h W tk
  refine ⟨_, pe_tup pa, fun F ex im σ H δ Q Q' d q f => la F ex im σ H δ _ _ d q fun vs H1 xs δ1 d1 e1 m1 s1 q1 => ?_⟩
  exact ⟨by rw [m1.length]; exact q1.1, fun p hp => f _ _ _ δ1 (.newT d1 e1 m1 hp) s1 q1.2⟩
def tLs (t : TDA) : TD := fun ex δ Q => t ex δ fun xs δ1 => xs.length ≤ sizeLine ∧ Q (.own xs) δ1
theorem dlst {t : TDA} (h : DA X es t) : DE X (.List es pos) (tLs t) := fun W tk => by
  obtain ⟨ta, pa, la⟩ := h W tk
  refine ⟨_, pe_lst pa, fun F ex im σ H δ Q Q' d q f => la F ex im σ H δ _ _ d q fun vs H1 xs δ1 d1 e1 m1 s1 q1 => ?_⟩
  exact ⟨by rw [m1.length]; exact q1.1, fun p hp => f _ _ _ δ1 (.newL d1 e1 m1 hp) s1 q1.2⟩

/-! sums and products of sequences -/
def kCL : Ex → D → D → List SV → List SV → (SV → List SV → Prop) → Prop := fun _ x y δ1 δ2 Q => δ2 = δ1 ∧ ∃ xs ys, x = .list xs ∧ y = .list ys ∧ xs.length + ys.length ≤ sizeLine ∧ Q (.own (xs ++ ys)) δ2
theorem dcatL {ta tb : TB} (ha : DB X a ta) (hb : DB X b tb) : DE X (.BinOp a .Add b pos) (t2 ta tb kCL) := fun W tk => by
  obtain ⟨t, pa, la⟩ := ha W tk
  obtain ⟨u, pb, lb⟩ := hb W tk
  refine ⟨_, pe_op op_cat pa pb, fun F ex im σ H δ Q Q' d q f => ?_⟩
  refine (la F ex im).two (lb F ex im) d q fun v w H' x y δ1 δ2 d2 e s m1 mi m2 q => ?_
  obtain ⟨ee, xs, ys, rfl, rfl, hl, q⟩ := q
  obtain ⟨p1, vs, rfl, h1, i1⟩ := (m1 ee).lst d2
  obtain ⟨p2, ws, rfl, h2, i2⟩ := m2.lst d2
  exact ⟨p1, p2, vs, ws, rfl, rfl, h1, h2, by rw [i1.length, i2.length]; exact hl, fun p hp => f _ _ _ δ2 (.newL d2 e (i1.append i2) hp) s q⟩
def kCT : Ex → D → D → List SV → List SV → (SV → List SV → Prop) → Prop := fun _ x y δ1 δ2 Q => δ2 = δ1 ∧ ∃ xs ys, x = .tuple xs ∧ y = .tuple ys ∧ xs.length + ys.length ≤ sizeLine ∧ Q (.d (.tuple (xs ++ ys))) δ2
theorem dcatT {ta tb : TB} (ha : DB X a ta) (hb : DB X b tb) : DE X (.BinOp a .Add b pos) (t2 ta tb kCT) := fun W tk => by
  obtain ⟨t, pa, la⟩ := ha W tk
  obtain ⟨u, pb, lb⟩ := hb W tk
  refine ⟨_, pe_op op_catA pa pb, fun F ex im σ H δ Q Q' d q f => ?_⟩
  refine (la F ex im).two (lb F ex im) d q fun v w H' x y δ1 δ2 d2 e s m1 mi m2 q => ?_
  obtain ⟨ee, xs, ys, rfl, rfl, hl, q⟩ := q
  obtain ⟨p1, vs, rfl, h1, i1⟩ := (m1 ee).tup
  obtain ⟨p2, ws, rfl, h2, i2⟩ := m2.tup
  refine ⟨p1, p2, vs, ws, rfl, rfl, h1, h2, by rw [i1.length, i2.length]; exact hl, fun z => ?_, fun _ z => ?_, fun _ _ p hp => f _ _ _ δ2 (.newT d2 e (i1.append i2) hp) s q⟩
  · have hx : xs = [] := List.eq_nil_of_length_eq_zero (by rw [← i1.length, z]; rfl)
    subst hx
    exact f _ _ _ δ2 (.d d2 e (.tup h2 i2)) s q
  · have hy : ys = [] := List.eq_nil_of_length_eq_zero (by rw [← i2.length, z]; rfl)
    subst hy
    rw [List.append_nil] at q
    exact f _ _ _ δ2 (.d d2 e (.tup h1 i1)) s q
def reps (n : Nat) (xs : List D) : List D := (List.replicate n xs).flatten
theorem ImAll.reps {K : PySem.W.Frag} {H : Hp} {A : Addr → Prop} {vs : List V} {xs : List D} (h : ImAll K H A vs xs) : ∀ n : Nat, ImAll K H A (List.replicate n vs).flatten (reps n xs)
  | 0 => .nil
  | n + 1 => by
    unfold DL.reps
    rw [List.replicate_succ, List.replicate_succ, List.flatten_cons, List.flatten_cons]
    exact h.append (ImAll.reps h n)
theorem reps_one (n : Nat) (x : D) : reps n [x] = List.replicate n x := by
  unfold reps
  induction n with
  | zero => rfl
  | succ n ih => rw [List.replicate_succ, List.flatten_cons, ih, List.replicate_succ]; rfl
def kRL : Ex → D → D → List SV → List SV → (SV → List SV → Prop) → Prop := fun _ x y δ1 δ2 Q => δ2 = δ1 ∧ ∃ xs k, x = .list xs ∧ y = .int k ∧ -(2 ^ 63) ≤ k ∧ k < 2 ^ 63 ∧ xs.length * k.toNat ≤ sizeLine ∧ Q (.own (reps k.toNat xs)) δ2
theorem drepL {ta tb : TB} (ha : DB X a ta) (hb : DB X b tb) : DE X (.BinOp a .Mult b pos) (t2 ta tb kRL) := fun W tk => by
  obtain ⟨t, pa, la⟩ := ha W tk
  obtain ⟨u, pb, lb⟩ := hb W tk
  refine ⟨_, pe_op op_rep pa pb, fun F ex im σ H δ Q Q' d q f => ?_⟩
  refine (la F ex im).two (lb F ex im) d q fun v w H' x y δ1 δ2 d2 e s m1 mi m2 q => ?_
  obtain ⟨ee, xs, k, rfl, rfl, k1, k2, hl, q⟩ := q
  obtain ⟨p1, vs, rfl, h1, i1⟩ := (m1 ee).lst d2
  exact ⟨p1, k, vs, rfl, m2.int, h1, k1, k2, by rw [i1.length]; exact hl, fun p hp => f _ _ _ δ2 (.newL d2 e (i1.reps _) hp) s q⟩

/-! slices -/
def TO' := Ex → List SV → (Option Int → List SV → Prop) → Prop
def DO (X : Cx) (e : Option Expr) (t : TO') : Prop := ∀ W, Takes X W → ∃ te, PO X e te ∧ ∀ F ex, Imp X.K F ex W →
  ∀ σ H δ Q (Q' : Option Int → Hp → Prop), Den X.K F σ H δ → t ex δ Q → (∀ o H' δ', Den X.K F σ H' δ' → Ext (Ow σ δ) H H' → SameOw σ δ δ' → Q o δ' → Q' o H') → te σ H Q'
def toN : TO' := fun _ δ Q => Q none δ
def toS (t : TB) : TO' := fun ex δ Q => t ex δ fun x δ1 => ∃ i, x = .int i ∧ Q (some i) δ1
theorem don : DO X none toN := fun W _ => ⟨_, po_none, fun F ex im σ H δ Q Q' d q f => f none H δ d Ext.refl SameOw.refl q⟩
theorem dos {t : TB} (h : DB X e t) : DO X (some e) (toS t) := fun W tk => by
  obtain ⟨te, pe, le⟩ := h W tk
  refine ⟨_, po_some pe, fun F ex im σ H δ Q Q' d q f => le F ex im σ H δ _ _ d q fun v H1 x δ1 d1 e1 m1 s1 q1 => ?_⟩
  obtain ⟨i, rfl, q1⟩ := q1
  exact ⟨i, m1.int, f _ H1 δ1 d1 e1 s1 q1⟩
/-- what lies from lo up to hi -/
def cutD (xs : List D) (lo hi : Option Int) : List D := (xs.drop (HT.sIx xs.length 0 lo)).take (HT.sIx xs.length xs.length hi - HT.sIx xs.length 0 lo)
theorem ImAll.cut {K : PySem.W.Frag} {H : Hp} {A : Addr → Prop} {vs : List V} {xs : List D} (h : ImAll K H A vs xs) (lo hi : Option Int) : ImAll K H A (cutV vs lo hi) (cutD xs lo hi) := by
  unfold cutV cutD
  rw [h.length]
  exact (h.drop _).take _
def tSc (ta : TB) (tl th : TO') (k : D → Option Int → Option Int → List SV → (SV → List SV → Prop) → Prop) : TD := fun ex δ Q => ta ex δ fun x δ1 => tl ex δ1 fun lo δ2 => th ex δ2 fun hi δ3 => δ2 = δ1 ∧ δ3 = δ1 ∧ k x lo hi δ3 Q
def kST : D → Option Int → Option Int → List SV → (SV → List SV → Prop) → Prop := fun x lo hi δ Q => ∃ xs, x = .tuple xs ∧ Q (.d (.tuple (cutD xs lo hi))) δ
def kSL : D → Option Int → Option Int → List SV → (SV → List SV → Prop) → Prop := fun x lo hi δ Q => ∃ xs, x = .list xs ∧ Q (.own (cutD xs lo hi)) δ
theorem dsl {r : V → Option Int → Option Int → Hp → VK → Prop} {k : D → Option Int → Option Int → List SV → (SV → List SV → Prop) → Prop} {lo hi : Option Expr} {p2 : Pos} {ta : TB} {tl th : TO'} (hr : SlR X r)
    (hk : ∀ {F σ H H' δ δ' v x lo hi Q} {Q' : VK}, Den X.K F σ H' δ' → Ext (Ow σ δ) H H' → SameOw σ δ δ' → ImB X.K F σ δ' H' v x → k x lo hi δ' Q → (∀ v H'' r, Res X.K F σ (Ow σ δ) H δ' H'' v r → Q r δ' → Q' v H'') → r v lo hi H' Q')
    (ha : DB X a ta) (hl : DO X lo tl) (hh : DO X hi th) : DE X (.Subscript a (.Slice lo hi none p2) pos) (tSc ta tl th k) := fun W tk => by
  obtain ⟨t, pa, la⟩ := ha W tk
  obtain ⟨u, pl, ll⟩ := hl W tk
  obtain ⟨w, ph, lh⟩ := hh W tk
  refine ⟨_, pe_slice hr pa pl ph, fun F ex im σ H δ Q Q' d q f => la F ex im σ H δ _ _ d q fun v H1 x δ1 d1 e1 m1 s1 q1 => ll F ex im σ H1 δ1 _ _ d1 q1 fun l H2 δ2 d2 e2 s2 q2 => lh F ex im σ H2 δ2 _ _ d2 q2 fun h H3 δ3 d3 e3 s3 q3 => ?_⟩
  obtain ⟨z2, z3, q3⟩ := q3
  have m3 := (m1.over e2 z2).over e3 (z3.trans z2.symm)
  exact hk d3 ((e1.on s1 e2).on (s1.trans s2) e3) ((s1.trans s2).trans s3) m3 q3 fun v H'' r x q => f v H'' r δ3 x ((s1.trans s2).trans s3) q
theorem dslT {lo hi : Option Expr} {p2 : Pos} {ta : TB} {tl th : TO'} (ha : DB X a ta) (hl : DO X lo tl) (hh : DO X hi th) : DE X (.Subscript a (.Slice lo hi none p2) pos) (tSc ta tl th kST) := by
  refine dsl sl_tupA (fun {F σ H H' δ δ' v x lo hi Q Q'} d e s m q f => ?_) ha hl hh
  obtain ⟨xs, rfl, q⟩ := q
  obtain ⟨p1, vs, rfl, h1, i1⟩ := m.tup
  refine ⟨p1, vs, rfl, h1, fun z => ?_, fun _ p hp => f _ _ _ (.newT d e (i1.cut lo hi) hp) q⟩
  have hw : cutD xs lo hi = xs := by
    unfold cutD
    rw [← i1.length, z.1, z.2, List.drop_zero, Nat.sub_zero, i1.length, List.take_length]
  rw [hw] at q
  exact f _ _ _ (.d d e (.tup h1 i1)) q
theorem dslL {lo hi : Option Expr} {p2 : Pos} {ta : TB} {tl th : TO'} (ha : DB X a ta) (hl : DO X lo tl) (hh : DO X hi th) : DE X (.Subscript a (.Slice lo hi none p2) pos) (tSc ta tl th kSL) := by
  refine dsl sl_list (fun {F σ H H' δ δ' v x lo hi Q Q'} d e s m q f => ?_) ha hl hh
  obtain ⟨xs, rfl, q⟩ := q
  obtain ⟨p1, vs, rfl, h1, i1⟩ := m.lst d
  exact ⟨p1, vs, rfl, SqL.of h1, fun p hp => f _ _ _ (.newL d e (i1.cut lo hi) hp) q⟩
/-- xs[::-1] of a list -/
def kRv : Ex → D → List SV → (SV → List SV → Prop) → Prop := fun _ x δ1 Q => ∃ xs, x = .list xs ∧ Q (.own xs.reverse) δ1
theorem drevL {k : Nat} {p1 p2 p3 : Pos} {ta : TB} (ha : DB X e ta) : DE X (.Subscript e (.Slice none none (some (.UnaryOp .USub (.Constant (.int 1) k p1) p2)) p3) pos) (t1 ta kRv) := fun W tk => by
  obtain ⟨t, pa, la⟩ := ha W tk
  refine ⟨_, pe_revL pa, fun F ex im σ H δ Q Q' d q f => la F ex im σ H δ _ _ d q fun v H1 x δ1 d1 e1 m1 s1 q1 => ?_⟩
  obtain ⟨xs, rfl, q1⟩ := q1
  obtain ⟨p1, vs, rfl, h1, i1⟩ := m1.lst d1
  exact ⟨p1, vs, rfl, SqL.of h1, fun p hp => f _ _ _ δ1 (.newL d1 e1 i1.rev hp) s1 q1⟩

/-! built-ins by name -/
def DAB (X : Cx) (es : List Expr) (n : Nat) (t : TDA) : Prop := ∀ W, Takes X W → ∃ te, PA X es te ∧ ∀ F ex, Imp X.K F ex W →
  ∀ σ H δ Q (Q' : List V → Hp → Prop), Den X.K F σ H δ → t ex δ Q → (∀ vs H' xs δ', Den X.K F σ H' δ' → Ext (Ow σ δ) H H' → Paired (ImB X.K F σ δ' H') vs xs → SameOw σ δ δ' → Q xs δ' → Q' vs H') → te σ H Q'
theorem dab1 {t : TB} (h : DB X e t) (hs : starEach (e :: []) X.env = (false, eval e X.env) :: starEach [] X.env := by rfl) : DAB X [e] 1 (fun ex δ Q => t ex δ fun x δ1 => Q [x] δ1) := fun W tk => by
  obtain ⟨te, pe, le⟩ := h W tk
  exact ⟨_, pa_cons pe pa_nil hs, fun F ex im σ H δ Q Q' d q f => le F ex im σ H δ _ _ d q fun v H1 x δ1 d1 e1 m1 s1 q1 => f [v] H1 [x] δ1 d1 e1 (.cons m1 .nil) s1 q1⟩
theorem dab2 {t u : TB} (h : DB X a t) (g : DB X b u) (hs : starEach (a :: [b]) X.env = (false, eval a X.env) :: starEach [b] X.env := by rfl) (hs2 : starEach (b :: []) X.env = (false, eval b X.env) :: starEach [] X.env := by rfl) :
    DAB X [a, b] 2 (fun ex δ Q => t ex δ fun x δ1 => u ex δ1 fun y δ2 => (δ2 = δ1 ∨ ∃ i, x = .int i) ∧ Q [x, y] δ2) := fun W tk => by
  obtain ⟨te, pe, le⟩ := h W tk
  obtain ⟨ue, pu, lu⟩ := g W tk
  refine ⟨_, pa_cons pe (pa_cons pu pa_nil hs2) hs, fun F ex im σ H δ Q Q' d q f => le F ex im σ H δ _ _ d q fun v H1 x δ1 d1 e1 m1 s1 q1 => lu F ex im σ H1 δ1 _ _ d1 q1 fun w H2 y δ2 d2 e2 m2 s2 q2 => ?_⟩
  refine f [v, w] H2 [x, y] δ2 d2 (e1.on s1 e2) (.cons ?_ (.cons m2 .nil)) (s1.trans s2) q2.2
  rcases q2.1 with z | ⟨i, z⟩
  · exact m1.over e2 z
  · subst z
    have e := m1.int
    subst e
    exact .inl (.int i)
def tBi (t : TDA) (k : List D → List SV → (SV → List SV → Prop) → Prop) : TD := fun ex δ Q => t ex δ fun xs δ1 => k xs δ1 Q
/-- a call of a built-in (by r), of a built-in class -/
theorem dbi {es : List Expr} {x : Str} {id : String} {r : List V → Hp → VK → Prop} {t : TDA} {n : Nat} {k : List D → List SV → (SV → List SV → Prop) → Prop} (hc : CallR X (.builtin id) r)
    (hk : ∀ {F σ H H' δ δ' vs xs Q} {Q' : VK}, Den X.K F σ H' δ' → Ext (Ow σ δ) H H' → SameOw σ δ δ' → Paired (ImB X.K F σ δ' H') vs xs → k xs δ' Q → (∀ v H'' r, Res X.K F σ (Ow σ δ) H δ' H'' v r → Q r δ' → Q' v H'') → r vs H' Q')
    (hg : Gl X x) (hm : X.mg x = none) (hv : bootBuiltins x = some (.builtin id)) (h : DAB X (e :: es) n t) (hn : x ≠ "__name__" := by decide) (hd : (x == ("__debug__" : Str)) = false := by decide)
    (he : starEach (e :: es) X.env = (false, eval e X.env) :: starEach es X.env := by rfl) (hpl : (backTo pos (starEach es X.env)).any (·.1) = false := by rfl) : DE X (.Call (.Name x p) (e :: es) [] pos) (tBi t k) := fun W tk => by
  obtain ⟨te, pa, la⟩ := h W tk
  exact ⟨_, pe_callB hc hg hm hv pa hn hd he hpl, fun F ex im σ H δ Q Q' d q f => la F ex im σ H δ _ _ d q fun vs H1 xs δ1 d1 e1 m1 s1 q1 => hk d1 e1 s1 m1 q1 fun v H'' r x q => f v H'' r δ1 x s1 q⟩
theorem dbt {es : List Expr} {x : Str} {T : String} {r : List V → Hp → VK → Prop} {t : TDA} {n : Nat} {k : List D → List SV → (SV → List SV → Prop) → Prop} (hc : CallR X (.type T) r)
    (hk : ∀ {F σ H H' δ δ' vs xs Q} {Q' : VK}, Den X.K F σ H' δ' → Ext (Ow σ δ) H H' → SameOw σ δ δ' → Paired (ImB X.K F σ δ' H') vs xs → k xs δ' Q → (∀ v H'' r, Res X.K F σ (Ow σ δ) H δ' H'' v r → Q r δ' → Q' v H'') → r vs H' Q')
    (hg : Gl X x) (hm : X.mg x = none) (hv : bootBuiltins x = some (.type T)) (h : DAB X (e :: es) n t) (hn : x ≠ "__name__" := by decide) (hd : (x == ("__debug__" : Str)) = false := by decide)
    (he : starEach (e :: es) X.env = (false, eval e X.env) :: starEach es X.env := by rfl) (hpl : (backTo pos (starEach es X.env)).any (·.1) = false := by rfl) : DE X (.Call (.Name x p) (e :: es) [] pos) (tBi t k) := fun W tk => by
  obtain ⟨te, pa, la⟩ := h W tk
  exact ⟨_, pe_callTy hc hg hm hv pa hn hd he hpl, fun F ex im σ H δ Q Q' d q f => la F ex im σ H δ _ _ d q fun vs H1 xs δ1 d1 e1 m1 s1 q1 => hk d1 e1 s1 m1 q1 fun v H'' r x q => f v H'' r δ1 x s1 q⟩
theorem pr1 {α β : Type} {R : α → β → Prop} {vs : List α} {x : β} (h : Paired R vs [x]) : ∃ v, vs = [v] ∧ R v x := by
  cases h with
  | cons a b => cases b; exact ⟨_, rfl, a⟩
theorem pr2 {α β : Type} {R : α → β → Prop} {vs : List α} {x y : β} (h : Paired R vs [x, y]) : ∃ v w, vs = [v, w] ∧ R v x ∧ R w y := by
  cases h with
  | cons a b => cases b with
    | cons c d => cases d; exact ⟨_, _, rfl, a, c⟩
def kLen : List D → List SV → (SV → List SV → Prop) → Prop := fun xs δ Q => ∃ ys, (xs = [.tuple ys] ∨ xs = [.list ys]) ∧ Q (.d (.int (ys.length : Nat))) δ
theorem dlen {t : TDA} {n : Nat} (hg : Gl X "len") (hm : X.mg "len" = none) (h : DAB X [e] n t) (he : starEach (e :: []) X.env = (false, eval e X.env) :: starEach [] X.env := by rfl) : DE X (.Call (.Name "len" p) [e] [] pos) (tBi t kLen) := by
  refine dbi call_len_seq (fun {F σ H H' δ δ' vs xs Q Q'} d e s m q f => ?_) hg hm PySem.boot_len h (he := he)
  obtain ⟨ys, ex, q⟩ := q
  rcases ex with rfl | rfl
  · obtain ⟨v, rfl, mm⟩ := pr1 m
    obtain ⟨p1, vs, rfl, h1, i1⟩ := mm.tup
    refine ⟨p1, vs, rfl, .inr h1, ?_⟩
    rw [i1.length]
    exact f _ _ _ (.d d e (.int _)) q
  · obtain ⟨v, rfl, mm⟩ := pr1 m
    obtain ⟨p1, vs, rfl, h1, i1⟩ := mm.lst d
    refine ⟨p1, vs, rfl, .inl (SqL.of h1), ?_⟩
    rw [i1.length]
    exact f _ _ _ (.d d e (.int _)) q
def kAbs : List D → List SV → (SV → List SV → Prop) → Prop := fun xs δ Q => ∃ i, xs = [.int i] ∧ Q (.d (.int (if i < 0 then -i else i))) δ
theorem dabs {t : TDA} {n : Nat} (hg : Gl X "abs") (hm : X.mg "abs" = none) (h : DAB X [e] n t) (he : starEach (e :: []) X.env = (false, eval e X.env) :: starEach [] X.env := by rfl) : DE X (.Call (.Name "abs" p) [e] [] pos) (tBi t kAbs) := by
  refine dbi call_abs (fun {F σ H H' δ δ' vs xs Q Q'} d e s m q f => ?_) hg hm (by decide +kernel) h (he := he)
  obtain ⟨i, rfl, q⟩ := q
  obtain ⟨v, rfl, mm⟩ := pr1 m
  exact ⟨i, by rw [mm.int], f _ _ _ (.d d e (.int _)) q⟩
def kMM (g : Int → Int → Int) : List D → List SV → (SV → List SV → Prop) → Prop := fun xs δ Q => ∃ i j, xs = [.int i, .int j] ∧ Q (.d (.int (g i j))) δ
theorem dmax2 {t : TDA} {n : Nat} (hc : X.calm = true) (hg : Gl X "max") (hm : X.mg "max" = none) (h : DAB X [a, b] n t) (he : starEach (a :: [b]) X.env = (false, eval a X.env) :: starEach [b] X.env := by rfl) (hpl : (backTo pos (starEach [b] X.env)).any (·.1) = false := by rfl) :
    DE X (.Call (.Name "max" p) [a, b] [] pos) (tBi t (kMM fun i j => if j > i then j else i)) := by
  refine dbi (call_max2 hc) (fun {F σ H H' δ δ' vs xs Q Q'} d e s m q f => ?_) hg hm (by decide +kernel) h (he := he) (hpl := hpl)
  obtain ⟨i, j, rfl, q⟩ := q
  obtain ⟨v, w, rfl, mm, m'⟩ := pr2 m
  exact ⟨i, j, by rw [mm.int, m'.int], f _ _ _ (.d d e (.int _)) q⟩
theorem dmin2 {t : TDA} {n : Nat} (hc : X.calm = true) (hg : Gl X "min") (hm : X.mg "min" = none) (h : DAB X [a, b] n t) (he : starEach (a :: [b]) X.env = (false, eval a X.env) :: starEach [b] X.env := by rfl) (hpl : (backTo pos (starEach [b] X.env)).any (·.1) = false := by rfl) :
    DE X (.Call (.Name "min" p) [a, b] [] pos) (tBi t (kMM fun i j => if j < i then j else i)) := by
  refine dbi (call_min2 hc) (fun {F σ H H' δ δ' vs xs Q Q'} d e s m q f => ?_) hg hm (by decide +kernel) h (he := he) (hpl := hpl)
  obtain ⟨i, j, rfl, q⟩ := q
  obtain ⟨v, w, rfl, mm, m'⟩ := pr2 m
  exact ⟨i, j, by rw [mm.int, m'.int], f _ _ _ (.d d e (.int _)) q⟩
def kInt : List D → List SV → (SV → List SV → Prop) → Prop := fun xs δ Q => ∃ i, xs = [.int i] ∧ Q (.d (.int i)) δ
theorem dintc {t : TDA} {n : Nat} (hg : Gl X "int") (hm : X.mg "int" = none) (h : DAB X [e] n t) (he : starEach (e :: []) X.env = (false, eval e X.env) :: starEach [] X.env := by rfl) : DE X (.Call (.Name "int" p) [e] [] pos) (tBi t kInt) := by
  refine dbt call_int1 (fun {F σ H H' δ δ' vs xs Q Q'} d e s m q f => ?_) hg hm (by decide +kernel) h (he := he)
  obtain ⟨i, rfl, q⟩ := q
  obtain ⟨v, rfl, mm⟩ := pr1 m
  exact .inl ⟨i, by rw [mm.int], f _ _ _ (.d d e (.int _)) q⟩
def kTupc : List D → List SV → (SV → List SV → Prop) → Prop := fun xs δ Q => ∃ ys, (xs = [.tuple ys] ∨ xs = [.list ys]) ∧ Q (.d (.tuple ys)) δ
theorem dtupc {t : TDA} {n : Nat} (hg : Gl X "tuple") (hm : X.mg "tuple" = none) (h : DAB X [e] n t) (he : starEach (e :: []) X.env = (false, eval e X.env) :: starEach [] X.env := by rfl) : DE X (.Call (.Name "tuple" p) [e] [] pos) (tBi t kTupc) := by
  refine dbt call_tuple_of (fun {F σ H H' δ δ' vs xs Q Q'} d e s m q f => ?_) hg hm (by decide +kernel) h (he := he)
  obtain ⟨ys, ex, q⟩ := q
  rcases ex with rfl | rfl
  · obtain ⟨v, rfl, mm⟩ := pr1 m
    obtain ⟨p1, vs, rfl, h1, i1⟩ := mm.tup
    exact ⟨p1, vs, rfl, .inr ⟨h1, f _ _ _ (.d d e (.tup h1 i1)) q⟩⟩
  · obtain ⟨v, rfl, mm⟩ := pr1 m
    obtain ⟨p1, vs, rfl, h1, i1⟩ := mm.lst d
    exact ⟨p1, vs, rfl, .inl ⟨SqL.of h1, fun l hl => f _ _ _ (.newT d e i1 hl) q⟩⟩
def kLisc : List D → List SV → (SV → List SV → Prop) → Prop := fun xs δ Q => ∃ ys, (xs = [.tuple ys] ∨ xs = [.list ys]) ∧ Q (.own ys) δ
theorem dlisc {t : TDA} {n : Nat} (hg : Gl X "list") (hm : X.mg "list" = none) (h : DAB X [e] n t) (he : starEach (e :: []) X.env = (false, eval e X.env) :: starEach [] X.env := by rfl) : DE X (.Call (.Name "list" p) [e] [] pos) (tBi t kLisc) := by
  refine dbt call_list_of (fun {F σ H H' δ δ' vs xs Q Q'} d e s m q f => ?_) hg hm (by decide +kernel) h (he := he)
  obtain ⟨ys, ex, q⟩ := q
  rcases ex with rfl | rfl
  · obtain ⟨v, rfl, mm⟩ := pr1 m
    obtain ⟨p1, vs, rfl, h1, i1⟩ := mm.tup
    exact ⟨p1, vs, rfl, .inr h1, fun l hl => f _ _ _ (.newL d e i1 hl) q⟩
  · obtain ⟨v, rfl, mm⟩ := pr1 m
    obtain ⟨p1, vs, rfl, h1, i1⟩ := mm.lst d
    exact ⟨p1, vs, rfl, .inl (SqL.of h1), fun l hl => f _ _ _ (.newL d e i1 hl) q⟩
end
end DL
namespace DL
open PySem PySem.Spec L2
open PyProof.Rows hiding St

/-! ### slots change -/
def setO (δ : List SV) (i : Nat) (xs : List D) : List SV := match δ[i]? with
  | some (.own _) => δ.set i (.own xs)
  | some (.io _) => δ.set i (.io xs)
  | _ => δ
theorem setO_length (δ : List SV) (i : Nat) (xs : List D) : (setO δ i xs).length = δ.length := by
  unfold setO
  split <;> simp
theorem lt_of_get {α : Type} {l : List α} {i : Nat} {x : α} (h : l[i]? = some x) : i < l.length := (List.getElem?_eq_some_iff.mp h).1
theorem setO_get {δ : List SV} {i j : Nat} {xs ys : List D} (h : Owns δ i ys) : (setO δ i xs)[j]? = if j = i then (match δ[i]? with | some (.own _) => some (.own xs) | some (.io _) => some (.io xs) | z => z) else δ[j]? := by
  unfold setO
  rcases h with h | h <;> (
    rw [h]
    dsimp only
    have l := lt_of_get h
    by_cases e : j = i
    · subst e
      rw [if_pos rfl, List.getElem?_set_self l]
    · rw [if_neg e, List.getElem?_set_ne (Ne.symm e)])
theorem owns_setO {δ : List SV} {i j : Nat} {xs ys zs : List D} (h : Owns δ i ys) : Owns (setO δ i xs) j zs ↔ (j = i ∧ zs = xs) ∨ (j ≠ i ∧ Owns δ j zs) := by
  unfold Owns
  rw [setO_get h]
  by_cases e : j = i
  · subst e
    rcases h with h | h <;> rw [h] <;> simp <;> exact ⟨fun e => e.symm, fun e => e.symm⟩
  · simp [e]
theorem ow_setO {σ : St} {δ : List SV} {i : Nat} {xs ys : List D} (h : Owns δ i ys) : SameOw σ δ (setO δ i xs) := fun a ⟨j, zs, h1, h2⟩ => by
  rcases (owns_setO h).mp h1 with ⟨rfl, rfl⟩ | ⟨_, h1⟩
  · exact ⟨j, ys, h, h2⟩
  · exact ⟨j, zs, h1, h2⟩
section
variable {K : PySem.W.Frag} {F : Fm} {σ : St} {H H' : Hp} {δ : List SV}
theorem owns_uniq {i : Nat} {xs ys : List D} (h : Owns δ i xs) (g : Owns δ i ys) : xs = ys := by
  rcases h with h | h <;> rcases g with g | g <;> rw [h] at g <;> cases g <;> rfl
theorem ext_wr {p : Addr} {i : Nat} {xs : List D} (ho : Owns δ i xs) (hp : σ[i]? = some (some (.ref p))) {ws : List V} (h0 : H p = some (.lst ws)) (hk : ∀ a o, H a = some o → a ≠ p → H' a = some o) : Ext (Ow σ δ) H H' := fun a o e => by
  by_cases z : a = p
  · subst z
    rw [h0] at e; cases e
    exact .inl ⟨⟨i, xs, ho, hp⟩, _, rfl⟩
  · exact .inr (hk a o e z)
/-- the list of the slot i has been written -/
theorem Den.wr (d : Den K F σ H δ) {i : Nat} {xs ys : List D} {p : Addr} {ws : List V} (ho : Owns δ i xs) (hp : σ[i]? = some (some (.ref p))) (hk : ∀ a o, H a = some o → a ≠ p → H' a = some o) (hl : H' p = some (.lst ws))
    (im : ImAll K H' (Ac F σ δ) ws ys) : Den K F σ H' (setO δ i ys) ∧ Ext (Ow σ δ) H H' := by
  obtain ⟨p', vs, e1, e2, e3⟩ := d.own i xs ho
  rw [hp] at e1; cases e1
  have ex : Ext (Ow σ δ) H H' := ext_wr ho hp e2 hk
  have so : SameOw σ δ (setO δ i ys) := ow_setO ho
  have up : ∀ {v : V} {x : D}, Im K H (Ac F σ δ) v x → Im K H' (Ac F σ (setO δ i ys)) v x := fun h => h.over ex so
  have up2 : ∀ {v : List V} {x : List D}, ImAll K H (Ac F σ δ) v x → ImAll K H' (Ac F σ (setO δ i ys)) v x := fun h => h.over ex so
  refine ⟨⟨by rw [setO_length]; exact d.len, fun j x e => ?_, fun j zs e => ?_, fun j zs a e1 e2 => ?_, fun j zs a e1 e2 => ?_, fun q hq => ?_, fun j k a zs us h1 h2 h3 h4 => ?_, fun a o e => ?_, fun a z => ?_⟩, ex⟩
  · rw [setO_get ho] at e
    by_cases z : j = i
    · subst z
      rw [if_pos rfl] at e
      rcases ho with h | h <;> rw [h] at e <;> cases e
    · rw [if_neg z] at e
      obtain ⟨v, e1, e2⟩ := d.dat j x e
      exact ⟨v, e1, up e2⟩
  · rcases (owns_setO ho).mp e with ⟨rfl, rfl⟩ | ⟨z, e⟩
    · exact ⟨p, ws, hp, hl, im.mono (fun _ _ q => q) fun a _ q1 q2 => ⟨q2, ac_mono so a q1⟩⟩
    · obtain ⟨a, vs', f1, f2, f3⟩ := d.own j zs e
      refine ⟨a, vs', f1, hk a _ f2 fun w => ?_, up2 f3⟩
      subst w
      exact z (d.one j i a zs xs e ho f1 hp)
  · rw [setO_get ho] at e1
    by_cases z : j = i
    · subst z
      rw [if_pos rfl] at e1
      rcases ho with h | h <;> rw [h] at e1 <;> cases e1
      exact d.fre j _ a h e2
    · rw [if_neg z] at e1
      exact d.fre j zs a e1 e2
  · rw [setO_get ho] at e1
    by_cases z : j = i
    · subst z
      rw [if_pos rfl] at e1
      rcases ho with h | h <;> rw [h] at e1 <;> cases e1
      exact d.iom j _ a h e2
    · rw [if_neg z] at e1
      exact d.iom j zs a e1 e2
  · obtain ⟨h1, zs, h2⟩ := d.mio q hq
    refine ⟨h1, ?_⟩
    rw [setO_get ho]
    by_cases z : q.1 = i
    · rw [if_pos z, ← z, h2]
      exact ⟨ys, rfl⟩
    · rw [if_neg z]
      exact ⟨zs, h2⟩
  · have f : ∀ {j : Nat} {zs : List D}, Owns (setO δ i ys) j zs → ∃ us, Owns δ j us := fun {j zs} h => by
      rcases (owns_setO ho).mp h with ⟨rfl, _⟩ | ⟨_, h⟩
      · exact ⟨xs, ho⟩
      · exact ⟨zs, h⟩
    obtain ⟨z1, g1⟩ := f h1
    obtain ⟨z2, g2⟩ := f h2
    exact d.one j k a z1 z2 g1 g2 h3 h4
  · rcases d.keep a o e with z | z
    · exact .inl z
    · by_cases w : a = p
      · subst w
        rcases ho with h | h
        · have q := d.fre i xs a h hp
          rw [q] at e; cases e
        · exact .inl ⟨i, d.iom i xs a h hp⟩
      · exact .inr (hk a o z w)
  · obtain ⟨⟨vs', e⟩, no⟩ := d.avt a z
    have ne : a ≠ p := fun w => no (by subst w; exact ⟨i, xs, ho, hp⟩)
    exact ⟨⟨vs', hk a _ e ne⟩, fun q => no (so a q)⟩

def noIo (δ : List SV) (i : Nat) : Prop := match δ[i]? with
  | some (.io _) => False
  | some _ => True
  | none => False
theorem noIo.lt {i : Nat} (h : noIo δ i) : i < δ.length := by
  unfold noIo at h
  cases e : δ[i]? with
  | some s => exact lt_of_get e
  | none => rw [e] at h; exact h.elim
theorem noIo.ne {i : Nat} (h : noIo δ i) (xs : List D) : δ[i]? ≠ some (.io xs) := fun e => by
  unfold noIo at h
  rw [e] at h
  exact h
/-- the slot i is given something that is no list of its own -/
theorem Den.put0 (d : Den K F σ H δ) {i : Nat} {s : SV} {v : Option V} (hi : noIo δ i) (hs : ∀ xs, s ≠ .own xs ∧ s ≠ .io xs) (hd : ∀ x, s = .d x → ∃ w, v = some w ∧ Im K H (Ac F σ δ) w x) :
    Den K F (σ.set i v) H (δ.set i s) ∧ ∀ a, Ow (σ.set i v) (δ.set i s) a → Ow σ δ a := by
  have lδ := hi.lt
  have lσ : i < σ.length := by rw [← d.len]; exact lδ
  have gδ : ∀ j, j ≠ i → (δ.set i s)[j]? = δ[j]? := fun j z => List.getElem?_set_ne (Ne.symm z)
  have gσ : ∀ j, j ≠ i → (σ.set i v)[j]? = σ[j]? := fun j z => List.getElem?_set_ne (Ne.symm z)
  have sδ : (δ.set i s)[i]? = some s := List.getElem?_set_self lδ
  have sσ : (σ.set i v)[i]? = some v := List.getElem?_set_self lσ
  have ow : ∀ {j : Nat} {xs : List D}, Owns (δ.set i s) j xs → j ≠ i ∧ Owns δ j xs := fun {j xs} h => by
    have ne : j ≠ i := fun z => by
      subst z
      unfold Owns at h
      rw [sδ] at h
      rcases h with h | h
      · exact (hs xs).1 (Option.some.inj h)
      · exact (hs xs).2 (Option.some.inj h)
    unfold Owns at h ⊢
    rw [gδ j ne] at h
    exact ⟨ne, h⟩
  have sub : ∀ a, Ow (σ.set i v) (δ.set i s) a → Ow σ δ a := fun a ⟨j, xs, h1, h2⟩ => by
    obtain ⟨ne, h1⟩ := ow h1
    rw [gσ j ne] at h2
    exact ⟨j, xs, h1, h2⟩
  have acm : ∀ a, Ac F σ δ a → Ac F (σ.set i v) (δ.set i s) a := fun a h => ⟨fun z => h.1 (sub a z), h.2⟩
  have up : ∀ {v : V} {x : D}, Im K H (Ac F σ δ) v x → Im K H (Ac F (σ.set i v) (δ.set i s)) v x := fun h => h.mono (fun _ _ q => q) fun a _ q1 q2 => ⟨q2, ⟨fun z => q1.1 (by
    obtain ⟨j, xs, h1, h2⟩ := z
    obtain ⟨ne, h1⟩ := ow h1
    rw [List.getElem?_set_ne (Ne.symm ne)] at h2
    exact ⟨j, xs, h1, h2⟩), q1.2⟩⟩
  have up' : ∀ {w : V} {x : D}, Im K H (Ac F σ δ) w x → Im K H (Ac F (σ.set i v) (δ.set i s)) w x := fun h => h.mono (fun _ _ q => q) fun a _ q1 q2 => ⟨q2, acm a q1⟩
  have up2 : ∀ {w : List V} {x : List D}, ImAll K H (Ac F σ δ) w x → ImAll K H (Ac F (σ.set i v) (δ.set i s)) w x := fun h => h.mono (fun _ _ q => q) fun a _ q1 q2 => ⟨q2, acm a q1⟩
  refine ⟨⟨by rw [List.length_set, List.length_set]; exact d.len, fun j x e => ?_, fun j xs e => ?_, fun j xs a e1 e2 => ?_, fun j xs a e1 e2 => ?_, fun q hq => ?_, fun j k a xs ys h1 h2 h3 h4 => ?_, d.keep, fun a z => ?_⟩, sub⟩
  · by_cases ne : j = i
    · subst ne
      rw [sδ] at e
      obtain ⟨w, e1, e2⟩ := hd x (Option.some.inj e)
      exact ⟨w, by rw [sσ, e1], up' e2⟩
    · rw [gδ j ne] at e
      obtain ⟨w, e1, e2⟩ := d.dat j x e
      exact ⟨w, by rw [gσ j ne]; exact e1, up' e2⟩
  · obtain ⟨ne, h⟩ := ow e
    obtain ⟨a, vs, e1, e2, e3⟩ := d.own j xs h
    exact ⟨a, vs, by rw [gσ j ne]; exact e1, e2, up2 e3⟩
  · obtain ⟨ne, _⟩ := ow (.inl e1)
    rw [gδ j ne] at e1
    rw [gσ j ne] at e2
    exact d.fre j xs a e1 e2
  · obtain ⟨ne, _⟩ := ow (.inr e1)
    rw [gδ j ne] at e1
    rw [gσ j ne] at e2
    exact d.iom j xs a e1 e2
  · obtain ⟨h1, xs, h2⟩ := d.mio q hq
    have ne : q.1 ≠ i := fun z => by rw [z] at h2; exact hi.ne xs h2
    rw [gσ _ ne, gδ _ ne]
    exact ⟨h1, xs, h2⟩
  · obtain ⟨n1, h1⟩ := ow h1
    obtain ⟨n2, h2⟩ := ow h2
    rw [gσ _ n1] at h3
    rw [gσ _ n2] at h4
    exact d.one j k a xs ys h1 h2 h3 h4
  · obtain ⟨h1, no⟩ := d.avt a z
    exact ⟨h1, fun q => no (sub a q)⟩
/-- the slot i is given a new list of its own -/
theorem Den.putO {a : Addr} {vs : List V} {xs : List D} (d : Den K F σ (hide a H) δ) {i : Nat} (hi : noIo δ i) (hl : H a = some (.lst vs)) (im : ImAll K (hide a H) (Ac F σ δ) vs xs) (hg : F.G a = none) :
    Den K F (σ.set i (some (.ref a))) H (δ.set i (.own xs)) ∧ ∀ b, Ow (σ.set i (some (.ref a))) (δ.set i (.own xs)) b → Ow σ δ b ∨ b = a := by
  have lδ := hi.lt
  have lσ : i < σ.length := by rw [← d.len]; exact lδ
  have gδ : ∀ j, j ≠ i → (δ.set i (.own xs))[j]? = δ[j]? := fun j z => List.getElem?_set_ne (Ne.symm z)
  have gσ : ∀ j, j ≠ i → (σ.set i (some (.ref a)))[j]? = σ[j]? := fun j z => List.getElem?_set_ne (Ne.symm z)
  have sδ : (δ.set i (.own xs))[i]? = some (.own xs) := List.getElem?_set_self lδ
  have sσ : (σ.set i (some (.ref a)))[i]? = some (some (.ref a)) := List.getElem?_set_self lσ
  have ow : ∀ {j : Nat} {ys : List D}, Owns (δ.set i (.own xs)) j ys → (j = i ∧ ys = xs) ∨ (j ≠ i ∧ Owns δ j ys) := fun {j ys} h => by
    by_cases z : j = i
    · subst z
      unfold Owns at h
      rw [sδ] at h
      rcases h with h | h
      · cases h; exact .inl ⟨rfl, rfl⟩
      · cases h
    · unfold Owns at h ⊢
      rw [gδ j z] at h
      exact .inr ⟨z, h⟩
  have sub : ∀ b, Ow (σ.set i (some (.ref a))) (δ.set i (.own xs)) b → Ow σ δ b ∨ b = a := fun b ⟨j, ys, h1, h2⟩ => by
    rcases ow h1 with ⟨rfl, _⟩ | ⟨ne, h1⟩
    · rw [sσ] at h2
      cases h2; exact .inr rfl
    · rw [gσ j ne] at h2
      exact .inl ⟨j, ys, h1, h2⟩
  have acm : ∀ b, b ≠ a → Ac F σ δ b → Ac F (σ.set i (some (.ref a))) (δ.set i (.own xs)) b := fun b nb h => ⟨fun z => (sub b z).elim h.1 nb, h.2⟩
  have le : Ext (fun _ => False) (hide a H) H := hide_le
  have up : ∀ {w : V} {x : D}, Im K (hide a H) (Ac F σ δ) w x → Im K H (Ac F (σ.set i (some (.ref a))) (δ.set i (.own xs))) w x := fun h => h.mono (fun _ _ q => le.tup q) fun b _ q1 q2 => ⟨(hide_some q2).1, acm b (hide_some q2).2 q1⟩
  have up2 : ∀ {w : List V} {x : List D}, ImAll K (hide a H) (Ac F σ δ) w x → ImAll K H (Ac F (σ.set i (some (.ref a))) (δ.set i (.own xs))) w x := fun h => h.mono (fun _ _ q => le.tup q) fun b _ q1 q2 => ⟨(hide_some q2).1, acm b (hide_some q2).2 q1⟩
  have nota : ¬ Ow σ δ a := (d.fresh hide_same).2
  have ne_a : ∀ {j : Nat} {ys : List D} {b : Addr}, Owns δ j ys → σ[j]? = some (some (.ref b)) → b ≠ a := fun {j ys b} h1 h2 z => nota (by subst z; exact ⟨j, ys, h1, h2⟩)
  refine ⟨⟨by rw [List.length_set, List.length_set]; exact d.len, fun j x e => ?_, fun j ys e => ?_, fun j ys b e1 e2 => ?_, fun j ys b e1 e2 => ?_, fun q hq => ?_, fun j k b us ys h1 h2 h3 h4 => ?_, fun b o e => ?_, fun b z => ?_⟩, sub⟩
  · by_cases ne : j = i
    · subst ne
      rw [sδ] at e; cases e
    · rw [gδ j ne] at e
      obtain ⟨w, e1, e2⟩ := d.dat j x e
      exact ⟨w, by rw [gσ j ne]; exact e1, up e2⟩
  · rcases ow e with ⟨rfl, rfl⟩ | ⟨ne, h⟩
    · exact ⟨a, vs, sσ, hl, up2 im⟩
    · obtain ⟨b, ws, e1, e2, e3⟩ := d.own j ys h
      exact ⟨b, ws, by rw [gσ j ne]; exact e1, (hide_some e2).1, up2 e3⟩
  · rcases ow (.inl e1) with ⟨rfl, _⟩ | ⟨ne, _⟩
    · rw [sσ] at e2; cases e2; exact hg
    · rw [gδ j ne] at e1
      rw [gσ j ne] at e2
      exact d.fre j ys b e1 e2
  · have ne : j ≠ i := fun z => by subst z; rw [sδ] at e1; cases e1
    rw [gδ j ne] at e1
    rw [gσ j ne] at e2
    exact d.iom j ys b e1 e2
  · obtain ⟨h1, ys, h2⟩ := d.mio q hq
    have ne : q.1 ≠ i := fun z => by rw [z] at h2; exact hi.ne ys h2
    rw [gσ _ ne, gδ _ ne]
    exact ⟨h1, ys, h2⟩
  · rcases ow h1 with ⟨z1, _⟩ | ⟨n1, g1⟩
    · rcases ow h2 with ⟨z2, _⟩ | ⟨n2, g2⟩
      · rw [z1, z2]
      · rw [z1, sσ] at h3; cases h3
        rw [gσ _ n2] at h4
        exact absurd rfl (ne_a g2 h4)
    · rcases ow h2 with ⟨z2, _⟩ | ⟨n2, g2⟩
      · rw [z2, sσ] at h4; cases h4
        rw [gσ _ n1] at h3
        exact absurd rfl (ne_a g1 h3)
      · rw [gσ _ n1] at h3
        rw [gσ _ n2] at h4
        exact d.one j k b us ys g1 g2 h3 h4
  · rcases d.keep b o e with z | z
    · exact .inl z
    · exact .inr (hide_some z).1
  · obtain ⟨⟨ws, h1⟩, no⟩ := d.avt b z
    obtain ⟨h1, nb⟩ := hide_some h1
    exact ⟨⟨ws, h1⟩, fun q => (sub b q).elim no nb⟩
/-- the list of the slot i is given away: the slot holds it no more, nobody else knew it -/
theorem Den.drop (d : Den K F σ H δ) {i : Nat} {xs : List D} {a : Addr} (h : δ[i]? = some (.own xs)) (ha : σ[i]? = some (some (.ref a))) :
    ∃ vs, H a = some (.lst vs) ∧ Den K F σ (hide a H) (δ.set i .un) ∧ ImAll K (hide a H) (Ac F σ (δ.set i .un)) vs xs ∧ F.G a = none ∧ ∀ b, Ow σ (δ.set i .un) b → Ow σ δ b := by
  obtain ⟨a', vs, e1, e2, e3⟩ := d.own i xs (.inl h)
  rw [ha] at e1; cases e1
  have oa : Ow σ δ a := ⟨i, xs, .inl h, ha⟩
  have lδ := lt_of_get h
  have gδ : ∀ j, j ≠ i → (δ.set i .un)[j]? = δ[j]? := fun j z => List.getElem?_set_ne (Ne.symm z)
  have sδ : (δ.set i SV.un)[i]? = some .un := List.getElem?_set_self lδ
  have ow : ∀ {j : Nat} {ys : List D}, Owns (δ.set i .un) j ys → j ≠ i ∧ Owns δ j ys := fun {j ys} q => by
    have ne : j ≠ i := fun z => by
      subst z
      unfold Owns at q
      rw [sδ] at q
      rcases q with q | q <;> cases q
    unfold Owns at q ⊢
    rw [gδ j ne] at q
    exact ⟨ne, q⟩
  have sub : ∀ b, Ow σ (δ.set i .un) b → Ow σ δ b := fun b ⟨j, ys, h1, h2⟩ => ⟨j, ys, (ow h1).2, h2⟩
  have tupk : ∀ b ys, SqT K H b ys → SqT K (hide a H) b ys := fun b ys q => by
    rcases q with (q | ⟨o, q⟩) | q
    · exact .inl (.inl (by rw [hide_ne (fun z => by subst z; rw [e2] at q; cases q)]; exact q))
    · exact .inl (.inr ⟨o, by rw [hide_ne (fun z => by subst z; rw [e2] at q; cases q)]; exact q⟩)
    · exact .inr q
  have lsk : ∀ b ys, Ac F σ δ b → H b = some (.lst ys) → hide a H b = some (.lst ys) ∧ Ac F σ (δ.set i .un) b := fun b ys q1 q2 => by
    have nb : b ≠ a := fun z => by subst z; exact q1.1 oa
    exact ⟨by rw [hide_ne nb]; exact q2, fun z => q1.1 (sub b z), q1.2⟩
  have up : ∀ {w : V} {x : D}, Im K H (Ac F σ δ) w x → Im K (hide a H) (Ac F σ (δ.set i .un)) w x := fun q => q.mono tupk lsk
  have up2 : ∀ {w : List V} {x : List D}, ImAll K H (Ac F σ δ) w x → ImAll K (hide a H) (Ac F σ (δ.set i .un)) w x := fun q => q.mono tupk lsk
  have hg := d.fre i xs a h ha
  refine ⟨vs, e2, ⟨by rw [List.length_set]; exact d.len, fun j x e => ?_, fun j ys e => ?_, fun j ys b f1 f2 => ?_, fun j ys b f1 f2 => ?_, fun q hq => ?_, fun j k b us ys h1 h2 h3 h4 => d.one j k b us ys (ow h1).2 (ow h2).2 h3 h4, fun b o e => ?_, fun b z => ?_⟩, up2 e3, hg, sub⟩
  · have ne : j ≠ i := fun z => by subst z; rw [sδ] at e; cases e
    rw [gδ j ne] at e
    obtain ⟨w, f1, f2⟩ := d.dat j x e
    exact ⟨w, f1, up f2⟩
  · obtain ⟨ne, q⟩ := ow e
    obtain ⟨b, ws, f1, f2, f3⟩ := d.own j ys q
    refine ⟨b, ws, f1, ?_, up2 f3⟩
    rw [hide_ne (fun z => by subst z; exact ne (d.one j i _ ys xs q (.inl h) f1 ha))]
    exact f2
  · have ne := (ow (.inl f1)).1
    rw [gδ j ne] at f1
    exact d.fre j ys b f1 f2
  · have ne := (ow (.inr f1)).1
    rw [gδ j ne] at f1
    exact d.iom j ys b f1 f2
  · obtain ⟨h1, ys, h2⟩ := d.mio q hq
    have ne : q.1 ≠ i := fun z => by rw [z, h] at h2; cases h2
    rw [gδ _ ne]
    exact ⟨h1, ys, h2⟩
  · rcases d.keep b o e with z | z
    · exact .inl z
    · refine .inr ?_
      rw [hide_ne (fun q => by subst q; rw [hg] at e; cases e)]
      exact z
  · obtain ⟨⟨ws, h1⟩, no⟩ := d.avt b z
    refine ⟨⟨ws, ?_⟩, fun q => no (sub b q)⟩
    rw [hide_ne (fun q => by subst q; exact no oa)]
    exact h1
/-- what is a tree of data's own may be taken for data -/
theorem Den.frz (d : Den K F σ H δ) {i : Nat} {xs : List D} (h : δ[i]? = some (.own xs)) : Den K F σ H (δ.set i (.d (.list xs))) ∧ ∀ b, Ow σ (δ.set i (.d (.list xs))) b → Ow σ δ b := by
  obtain ⟨a, vs0, ha, _, _⟩ := d.own i xs (.inl h)
  obtain ⟨vs, e2, d1, im, hg, sub⟩ := d.drop h ha
  have lδ := lt_of_get h
  have hi : noIo (δ.set i .un) i := by
    unfold noIo
    rw [List.getElem?_set_self lδ]
    trivial
  have d2 : Den K F σ H (δ.set i .un) := d1.ext hide_le
  have hs : σ.set i (some (.ref a)) = σ := by
    apply List.ext_getElem?
    intro j
    by_cases z : j = i
    · subst z
      rw [List.getElem?_set_self (lt_of_get ha), ha]
    · rw [List.getElem?_set_ne (Ne.symm z)]
  have q := d2.put0 (i := i) (s := .d (.list xs)) (v := some (.ref a)) hi (fun _ => ⟨(by intro z; cases z), (by intro z; cases z)⟩) (fun x e => by
    cases e
    exact ⟨.ref a, rfl, .lst e2 ⟨(d1.fresh hide_same).2, d1.av_fresh hide_same, .inr hg⟩ (im.ext (O := fun _ => False) hide_le fun _ z => ⟨id, z⟩)⟩)
  rw [hs, List.set_set] at q
  exact ⟨q.1, fun b z => sub b (q.2 b z)⟩
end
end DL
namespace DL
open PySem PySem.Spec L2
open PyProof.Rows hiding St

/-! ### statements -/
structure DEnds where
  nx : List SV → Prop
  rt : SV → List SV → Prop
  bk : List SV → Prop := fun _ => False
  ct : List SV → Prop := fun _ => False
abbrev TDS := Ex → DEnds → List SV → Prop
def Grow (σ : St) (δ : List SV) (H : Hp) (σ' : St) (δ' : List SV) (H' : Hp) : Prop := Ext (Ow σ δ) H H' ∧ ∀ a, Ow σ' δ' a → Ow σ δ a ∨ H a = none
theorem Grow.trans {σ σ1 σ2 : St} {δ δ1 δ2 : List SV} {H H1 H2 : Hp} (a : Grow σ δ H σ1 δ1 H1) (b : Grow σ1 δ1 H1 σ2 δ2 H2) : Grow σ δ H σ2 δ2 H2 := by
  refine ⟨a.1.trans b.1 a.2, fun x h => ?_⟩
  rcases b.2 x h with z | z
  · exact a.2 x z
  · cases q : H x with
    | none => exact .inr rfl
    | some o =>
      rcases a.1 x o q with ⟨w, _⟩ | w
      · exact .inl w
      · rw [z] at w; cases w
theorem Grow.refl {σ : St} {δ : List SV} {H : Hp} : Grow σ δ H σ δ H := ⟨Ext.refl, fun _ h => .inl h⟩
theorem Grow.so {σ : St} {δ δ' : List SV} {H H' : Hp} (e : Ext (Ow σ δ) H H') (s : SameOw σ δ δ') : Grow σ δ H σ δ' H' := ⟨e, fun a h => .inl (s a h)⟩
theorem Grow.sub {σ σ' : St} {δ δ' : List SV} {H : Hp} (s : ∀ a, Ow σ' δ' a → Ow σ δ a) : Grow σ δ H σ' δ' H := ⟨Ext.refl, fun a h => .inl (s a h)⟩
theorem Res.grow {K : PySem.W.Frag} {F : Fm} {σ : St} {δ δ' : List SV} {H H' : Hp} {v : V} {r : SV} (x : Res K F σ (Ow σ δ) H δ' H' v r) (s : SameOw σ δ δ') : Grow σ δ H σ δ' H' := Grow.so x.ext s

structure EndsOk (K : PySem.W.Frag) (F : Fm) (σ : St) (H : Hp) (δ : List SV) (D : DEnds) (D' : Ends) : Prop where
  nx : ∀ σ' H' δ', Den K F σ' H' δ' → Grow σ δ H σ' δ' H' → D.nx δ' → D'.nx σ' H'
  bk : ∀ σ' H' δ', Den K F σ' H' δ' → Grow σ δ H σ' δ' H' → D.bk δ' → D'.bk σ' H'
  ct : ∀ σ' H' δ', Den K F σ' H' δ' → Grow σ δ H σ' δ' H' → D.ct δ' → D'.ct σ' H'
  rt : ∀ v H' r σ' δ' O H0, Res K F σ' O H0 δ' H' v r → D.rt r δ' → D'.rt v H'
theorem EndsOk.on {K : PySem.W.Frag} {F : Fm} {σ σ1 : St} {H H1 : Hp} {δ δ1 : List SV} {D : DEnds} {D' : Ends} (x : EndsOk K F σ H δ D D') (g : Grow σ δ H σ1 δ1 H1) : EndsOk K F σ1 H1 δ1 D D' :=
  ⟨fun σ' H' δ' d g' q => x.nx σ' H' δ' d (g.trans g') q, fun σ' H' δ' d g' q => x.bk σ' H' δ' d (g.trans g') q, fun σ' H' δ' d g' q => x.ct σ' H' δ' d (g.trans g') q, x.rt⟩
def LiftS (K : PySem.W.Frag) (F : Fm) (ex : Ex) (ts : TS) (t : TDS) : Prop := ∀ σ H δ (D : DEnds) (D' : Ends), Den K F σ H δ → t ex D δ → EndsOk K F σ H δ D D' → ts D' σ H
def DS (X : Cx) (st : Stmt) (t : TDS) : Prop := ∀ W, Takes X W → ∃ ts, PS X st ts ∧ ∀ F ex, Imp X.K F ex W → LiftS X.K F ex ts t
def DSs (X : Cx) (st : List Stmt) (t : TDS) : Prop := ∀ W, Takes X W → ∃ ts, PSs X st ts ∧ ∀ F ex, Imp X.K F ex W → LiftS X.K F ex ts t

section
variable {X : Cx} {a b c e : Expr} {es : List Expr} {st : Stmt} {rest : List Stmt} {pos p : Pos}
def tdN : TDS := fun _ D δ => D.nx δ
def tdSq (t u : TDS) : TDS := fun ex D δ => t ex { D with nx := fun δ' => u ex D δ' } δ
theorem dnil : DSs X [] tdN := fun W _ => ⟨_, pss_nil, fun F ex im σ H δ D D' d q f => f.nx σ H δ d Grow.refl q⟩
theorem dcons {t u : TDS} (h : DS X st t) (g : DSs X rest u) : DSs X (st :: rest) (tdSq t u) := fun W tk => by
  obtain ⟨ts, ps, ls⟩ := h W tk
  obtain ⟨us, pu, lu⟩ := g W tk
  refine ⟨_, pss_cons ps pu, fun F ex im σ H δ D D' d q f => ?_⟩
  exact ls F ex im σ H δ _ _ d q ⟨fun σ' H' δ' d' g' q' => lu F ex im σ' H' δ' D D' d' q' (f.on g'), f.bk, f.ct, f.rt⟩
theorem done1 {t : TDS} (h : DS X st t) : DSs X [st] t := fun W tk => by
  obtain ⟨ts, ps, ls⟩ := h W tk
  exact ⟨ts, pss_one ps, ls⟩
theorem dpass : DS X (.Pass pos) tdN := fun W _ => ⟨_, ps_pass, fun F ex im σ H δ D D' d q f => f.nx σ H δ d Grow.refl q⟩
theorem dbreak : DS X (.Break pos) (fun _ D δ => D.bk δ) := fun W _ => ⟨_, ps_break, fun F ex im σ H δ D D' d q f => f.bk σ H δ d Grow.refl q⟩
theorem dcontinue : DS X (.Continue pos) (fun _ D δ => D.ct δ) := fun W _ => ⟨_, ps_continue, fun F ex im σ H δ D D' d q f => f.ct σ H δ d Grow.refl q⟩
def tdE (t : TD) : TDS := fun ex D δ => t ex δ fun _ δ' => D.nx δ'
theorem dexpr {t : TD} (h : DE X e t) (hs : swapsWith e none pos.line X.env = pure false := by rfl) : DS X (.Expr e pos) (tdE t) := fun W tk => by
  obtain ⟨te, pe, le⟩ := h W tk
  exact ⟨_, ps_expr pe hs, fun F ex im σ H δ D D' d q f => le F ex im σ H δ _ _ d q fun v H' r δ' x s q => f.nx σ H' δ' x.den (x.grow s) q⟩
def tdR (t : TD) : TDS := fun ex D δ => t ex δ D.rt
theorem dret {t : TD} (h : DE X e t) : DS X (.Return (some e) pos) (tdR t) := fun W tk => by
  obtain ⟨te, pe, le⟩ := h W tk
  exact ⟨_, ps_ret pe, fun F ex im σ H δ D D' d q f => le F ex im σ H δ _ _ d q fun v H' r δ' x s q => f.rt v H' r σ δ' _ _ x q⟩
theorem dretN : DS X (.Return none pos) (fun _ D δ => D.rt (.d .none) δ) := fun W _ => ⟨_, ps_retN, fun F ex im σ H δ D D' d q f => f.rt _ H _ σ δ (fun _ => False) H (.d d Ext.refl .non) q⟩
/-- return x, x a list of the frame's own -/
def tdRO (i : Nat) : TDS := fun _ D δ => ∃ xs, δ[i]? = some (.own xs) ∧ D.rt (.own xs) (δ.set i .un)
theorem dretO (i : Nat) {x : Str} (hN : X.N[i]? = some x := by rfl) (hv : Vis X.env.scope x := by first | exact Or.inl rfl | exact Or.inr (Or.inl rfl) | exact Or.inr (Or.inr rfl)) (hd : (x == ("__debug__" : Str)) = false := by decide)
    (hcd : (x == ("__classdict__" : Str)) = false := by decide) : DS X (.Return (some (.Name x p)) pos) (tdRO i) := fun W _ => by
  refine ⟨_, ps_ret (pe_var hN hv hd hcd), fun F ex im σ H δ D D' d q f => ?_⟩
  obtain ⟨xs, h, q⟩ := q
  obtain ⟨a, vs0, ha, _, _⟩ := d.own i xs (.inl h)
  obtain ⟨vs, e2, d1, im1, hg, sub⟩ := d.drop h ha
  exact ⟨_, ha, f.rt _ H _ σ _ (fun _ => False) (hide a H) (.own e2 d1 Ext.refl im1 hg) q⟩
/-- from here on the slot's list is data -/
def tdF (i : Nat) (t : TDS) : TDS := fun ex D δ => ∃ xs, δ[i]? = some (.own xs) ∧ t ex D (δ.set i (.d (.list xs)))
theorem dfrz (i : Nat) {t : TDS} (h : DS X st t) : DS X st (tdF i t) := fun W tk => by
  obtain ⟨ts, ps, ls⟩ := h W tk
  refine ⟨ts, ps, fun F ex im σ H δ D D' d q f => ?_⟩
  obtain ⟨xs, h, q⟩ := q
  obtain ⟨d1, sub⟩ := d.frz h
  exact ls F ex im σ H _ D D' d1 q (f.on (Grow.sub sub))
def tdIf (c : TDT) (t u : TDS) : TDS := fun ex D δ => c ex δ fun k δ1 => if k = true then t ex D δ1 else u ex D δ1
theorem dsif {c : Expr} {sa sb : List Stmt} {tc : TDT} {t u : TDS} (hc : DT X c tc) (ha : DSs X sa t) (hb : DSs X sb u) : DS X (.If c sa sb pos) (tdIf tc t u) := fun W tk => by
  obtain ⟨te, pe, le⟩ := hc W tk
  obtain ⟨ts, ps, ls⟩ := ha W tk
  obtain ⟨us, pu, lu⟩ := hb W tk
  refine ⟨_, ps_if pe ps pu, fun F ex im σ H δ D D' d q f => le F ex im σ H δ _ _ d q fun k H1 δ1 d1 e1 s1 q1 => ?_⟩
  cases k with
  | true => exact ls F ex im σ H1 δ1 D D' d1 q1 (f.on (Grow.so e1 s1))
  | false => exact lu F ex im σ H1 δ1 D D' d1 q1 (f.on (Grow.so e1 s1))
/-- name = e -/
def put (δ : List SV) (i : Nat) (r : SV) : List SV := δ.set i r
def tdSet (i : Nat) (t : TD) : TDS := fun ex D δ => t ex δ fun r δ1 => noIo δ1 i ∧ D.nx (δ1.set i r)
theorem Res.put {K : PySem.W.Frag} {F : Fm} {σ : St} {δ δ1 : List SV} {H H' : Hp} {v : V} {r : SV} (x : Res K F σ (Ow σ δ) H δ1 H' v r) (s : SameOw σ δ δ1) {i : Nat} (hi : noIo δ1 i) : Den K F (σ.set i (some v)) H' (δ1.set i r) ∧ Grow σ δ H (σ.set i (some v)) (δ1.set i r) H' := by
  cases x with
  | d a b c =>
    obtain ⟨d1, sub⟩ := a.put0 (s := .d _) (v := some v) hi (fun _ => ⟨(by intro z; cases z), (by intro z; cases z)⟩) (fun x e => by cases e; exact ⟨v, rfl, c⟩)
    exact ⟨d1, b, fun a h => .inl (s a (sub a h))⟩
  | own a b c d g =>
    obtain ⟨d1, sub⟩ := b.putO hi a d g
    refine ⟨d1, c.trans (O' := fun _ => False) hide_le (fun _ z => z.elim), fun x h => ?_⟩
    rcases sub x h with z | z
    · exact .inl (s x z)
    · subst z
      cases q : H x with
      | none => exact .inr rfl
      | some o =>
        rcases c x o q with ⟨w, _⟩ | w
        · exact .inl w
        · rw [hide_same] at w; cases w
theorem dset (i : Nat) {x : Str} {t : TD} {pos' : Pos} (hN : X.N.Nodup) (h : DE X e t) (hi : X.N[i]? = some x := by rfl) (hx : Loc X.env.scope x := by first | exact Or.inl rfl | exact Or.inr rfl) (hs : swapsWith e (some (.Name x pos')) pos.line X.env = pure false := by rfl)
    (hf : X.fn x = true ∨ X.env.scope.names.lookup x = some .local := by first | exact .inl rfl | exact .inr rfl | assumption) : DS X (.Assign [.Name x pos'] e pos) (tdSet i t) := fun W tk => by
  obtain ⟨te, pe, le⟩ := h W tk
  refine ⟨_, ps_set hN hi hx pe hs hf, fun F ex im σ H δ D D' d q f => le F ex im σ H δ _ _ d q fun v H' r δ' x s q => ?_⟩
  obtain ⟨d1, g⟩ := x.put s q.1
  exact f.nx _ H' _ d1 g q.2

/-! targets -/
abbrev TDG := D → List SV → (List SV → Prop) → Prop
abbrev TDGs := List D → List SV → (List SV → Prop) → Prop
def LiftG (K : PySem.W.Frag) (F : Fm) (L : List Nat) (gt : TG) (g : TDG) : Prop := ∀ σ H δ v x Q (Q' : St → Hp → Prop), Den K F σ H δ → Im K H (Ac F σ δ) v x → g x δ Q →
  (∀ σ' δ', Den K F σ' H δ' → (∀ a, Ow σ' δ' a → Ow σ δ a) → σ'.length = σ.length → (∀ j, j ∉ L → σ'[j]? = σ[j]?) → Q δ' → Q' σ' H) → gt v σ H Q'
def LiftGs (K : PySem.W.Frag) (F : Fm) (L : List Nat) (gt : TGs) (g : TDGs) : Prop := ∀ σ H δ v x Q (Q' : St → Hp → Prop), Den K F σ H δ → ImAll K H (Ac F σ δ) v x → g x δ Q →
  (∀ σ' δ', Den K F σ' H δ' → (∀ a, Ow σ' δ' a → Ow σ δ a) → σ'.length = σ.length → (∀ j, j ∉ L → σ'[j]? = σ[j]?) → Q δ' → Q' σ' H) → gt v σ H Q'
def DG (X : Cx) (tg : Expr) (L : List Nat) (g : TDG) : Prop := ∃ gt, PG X tg gt ∧ ∀ F, LiftG X.K F L gt g
def DGs (X : Cx) (tg : List Expr) (L : List Nat) (g : TDGs) : Prop := ∃ gt, PGs X tg gt ∧ ∀ F, LiftGs X.K F L gt g
def gNm (i : Nat) : TDG := fun x δ Q => noIo δ i ∧ Q (δ.set i (.d x))
theorem dgn (i : Nat) {x : Str} (hN : X.N.Nodup) (hi : X.N[i]? = some x := by rfl) (hx : Loc X.env.scope x := by first | exact Or.inl rfl | exact Or.inr rfl) (hf : X.fn x = true ∨ X.env.scope.names.lookup x = some .local := by first | exact .inl rfl | exact .inr rfl | assumption) :
    DG X (.Name x pos) [i] (gNm i) := by
  refine ⟨_, pg_name hN hi hx hf, fun F σ H δ v x Q Q' d m q f => ?_⟩
  obtain ⟨d1, sub⟩ := d.put0 (s := .d x) (v := some v) q.1 (fun _ => ⟨(by intro z; cases z), (by intro z; cases z)⟩) (fun y e => by cases e; exact ⟨v, rfl, m⟩)
  exact f _ _ d1 sub (by rw [List.length_set]) (fun j hj => List.getElem?_set_ne (fun z => hj (by simp [z]))) q.2
def gNl : TDGs := fun xs δ Q => xs = [] ∧ Q δ
def gCs (g : TDG) (h : TDGs) : TDGs := fun xs δ Q => ∃ y ys, xs = y :: ys ∧ g y δ fun δ1 => h ys δ1 Q
theorem dgnil : DGs X [] [] gNl := by
  refine ⟨_, pgs_nil, fun F σ H δ v x Q Q' d m q f => ?_⟩
  obtain ⟨rfl, q⟩ := q
  cases m
  exact ⟨rfl, f σ δ d (fun _ h => h) rfl (fun _ _ => rfl) q⟩
theorem ImAll.sub {K : PySem.W.Frag} {F : Fm} {σ σ' : St} {H : Hp} {δ δ' : List SV} {v : List V} {x : List D} (m : ImAll K H (Ac F σ δ) v x) (s : ∀ a, Ow σ' δ' a → Ow σ δ a) : ImAll K H (Ac F σ' δ') v x := m.mono (fun _ _ q => q) fun a _ q1 q2 => ⟨q2, fun z => q1.1 (s a z), q1.2⟩
theorem dgcons {e : Expr} {es : List Expr} {L M : List Nat} {g : TDG} {h : TDGs} (h1 : DG X e L g) (h2 : DGs X es M h) (hs : (assignEach (e :: es) X.env).map (·.2) = assign e X.env :: (assignEach es X.env).map (·.2) := by rfl) : DGs X (e :: es) (L ++ M) (gCs g h) := by
  obtain ⟨gt, pg, lg⟩ := h1
  obtain ⟨ht, ph, lh⟩ := h2
  refine ⟨_, pgs_cons pg ph hs, fun F σ H δ v x Q Q' d m q f => ?_⟩
  obtain ⟨y, ys, rfl, q⟩ := q
  cases m with
  | cons m1 m2 =>
    refine ⟨_, _, rfl, lg F σ H δ _ y _ _ d m1 q fun σ1 δ1 d1 s1 l1 n1 q1 => lh F σ1 H δ1 _ ys _ _ d1 (m2.sub s1) q1 fun σ2 δ2 d2 s2 l2 n2 q2 => ?_⟩
    exact f σ2 δ2 d2 (fun a z => s1 a (s2 a z)) (l2.trans l1) (fun j hj => (n2 j fun z => hj (List.mem_append_right _ z)).trans (n1 j fun z => hj (List.mem_append_left _ z))) q2
def gTu (n : Nat) (g : TDGs) : TDG := fun x δ Q => ∃ xs, x = .tuple xs ∧ xs.length = n ∧ g xs δ Q
theorem dgtup {es : List Expr} {k n : Nat} {L : List Nat} {g : TDGs} (hc : X.calm = true) (h : DGs X es L g) (hn : (assignEach es X.env).length = n := by rfl) (hst : (assignEach es X.env).findIdx? (·.1) = none := by rfl) : DG X (.Tuple es k pos) L (gTu n g) := by
  obtain ⟨gt, pg, lg⟩ := h
  refine ⟨_, pg_tup hc pg hn hst, fun F σ H δ v x Q Q' d m q f => ?_⟩
  obtain ⟨xs, rfl, hl, q⟩ := q
  cases m with
  | tup s ms => exact ⟨_, _, rfl, s, by rw [ms.length]; exact hl, lg F σ H δ _ xs Q Q' d ms q f⟩
def tdAsg (t : TD) (g : TDG) : TDS := fun ex D δ => t ex δ fun r δ1 => g r.asD δ1 D.nx
theorem dasg {tg : Expr} {t : TD} {L : List Nat} {g : TDG} (h : DE X e t) (hg : DG X tg L g) (hs : swapsWithSole [tg] e pos.line X.env = pure false := by rfl) (hw : swappedStores [tg] e X.env = pure none := by rfl)
    (h1 : (assignEach [tg] X.env).map (·.2) = [assign tg X.env] := by rfl) : DS X (.Assign [tg] e pos) (tdAsg t g) := fun W tk => by
  obtain ⟨te, pe, le⟩ := h W tk
  obtain ⟨gt, pg, lg⟩ := hg
  refine ⟨_, ps_asg pe pg hs hw h1, fun F ex im σ H δ D D' d q f => le F ex im σ H δ _ _ d q fun v H' r δ1 x s q => ?_⟩
  exact lg F σ H' δ1 v _ _ _ x.den x.im q fun σ2 δ2 d2 s2 _ _ q2 => f.nx σ2 H' δ2 d2 ((x.grow s).trans (Grow.sub s2)) q2

/-! own lists changed -/
abbrev FewArgs (es : List Expr) (env : Env) (cpos : Pos) : Prop := ((((backTo cpos (starEach es env)).all fun x => !x.1) && (backToKw cpos (keywordEach [] env)).all fun x => x.1.isSome) && decide ((es.length + ([] : List Keyword).length + if ([] : List Keyword).isEmpty = true then 0 else 1) < 30)) = true
/-- x.append(e) -/
def tdApp (i : Nat) (t : TD) : TDS := fun ex D δ => (∃ xs, Owns δ i xs) ∧ t ex δ fun r δ1 => ∃ ys, Owns δ1 i ys ∧ ys.length < sizeLine ∧ D.nx (setO δ1 i (ys ++ [r.asD]))
theorem dapp (i : Nat) {x : Str} {t : TD} {apos cpos p1 : Pos} (h : DE X e t) (hN : X.N[i]? = some x := by rfl) (hv : Vis X.env.scope x := by first | exact Or.inl rfl | exact Or.inr (Or.inl rfl) | exact Or.inr (Or.inr rfl)) (hd : (x == ("__debug__" : Str)) = false := by decide)
    (hcd : (x == ("__classdict__" : Str)) = false := by decide) (hs1 : starEach (e :: []) X.env = (false, eval e X.env) :: starEach [] X.env := by rfl) (hbase : attributeBase (.Name x p1) "append" X.env (eval (.Name x p1) X.env) = eval (.Name x p1) X.env := by rfl)
    (hline : (apos.endLine == cpos.line) = true := by rfl) (hfew : FewArgs [e] X.env cpos := by rfl)
    (hs : swapsWith (.Call (.Attribute (.Name x p1) "append" apos) [e] [] cpos) none pos.line X.env = pure false := by rfl) : DS X (.Expr (.Call (.Attribute (.Name x p1) "append" apos) [e] [] cpos) pos) (tdApp i t) := fun W tk => by
  obtain ⟨te, pe, le⟩ := h W tk
  refine ⟨_, ps_expr (pe_bm PySem.F.plainAttrs_list PySem.F.slot_list_append PySem.F.type_list_append mt_append (pe_var hN hv hd hcd) (pa_cons pe pa_nil hs1) (hbase := hbase) (hfew := hfew) (hline := hline) (hs := hs1)) hs, fun F ex im σ H δ D D' d q f => ?_⟩
  obtain ⟨⟨xs, ho⟩, q⟩ := q
  obtain ⟨a, vs, e1, e2, e3⟩ := d.own i xs ho
  refine ⟨_, e1, .inl ⟨rfl, vs, SqL.of e2⟩, le F ex im σ H δ _ _ d q fun v H1 r δ1 x1 s1 q1 => ?_⟩
  obtain ⟨ys, oy, hl, q1⟩ := q1
  have d1 := x1.den
  obtain ⟨a', ws, f1, f2, f3⟩ := d1.own i ys oy
  rw [e1] at f1; cases f1
  have hk : ∀ b o, H1 b = some o → b ≠ a → upd H1 a (.lst (ws ++ [v])) b = some o := fun b o z nb => by rw [upd_ne nb]; exact z
  have exw : Ext (Ow σ δ1) H1 (upd H1 a (.lst (ws ++ [v]))) := ext_wr oy e1 f2 hk
  have up : ∀ {w : V} {x : PyData}, Im X.K H1 (Ac F σ δ1) w x → Im X.K (upd H1 a (.lst (ws ++ [v]))) (Ac F σ δ1) w x := fun h => h.over exw SameOw.refl
  have up2 : ∀ {w : List V} {x : List PyData}, ImAll X.K H1 (Ac F σ δ1) w x → ImAll X.K (upd H1 a (.lst (ws ++ [v]))) (Ac F σ δ1) w x := fun h => h.over exw SameOw.refl
  obtain ⟨d2, e2'⟩ := d1.wr (ys := ys ++ [r.asD]) oy e1 hk upd_same ((up2 f3).append (.cons (up x1.im) .nil))
  exact ⟨a, ws, v, rfl, rfl, f2, by rw [f3.length]; exact hl, f.nx σ _ _ d2 ((x1.grow s1).trans (Grow.so e2' (ow_setO oy))) q1⟩
/-- x[k] = e -/
def tdSub (i : Nat) (t : TD) (tk : TB) : TDS := fun ex D δ => t ex δ fun r δ1 => (∃ xs, Owns δ1 i xs) ∧ tk ex δ1 fun k δ2 => δ2 = δ1 ∧ ∃ kk ys j, k = .int kk ∧ Owns δ2 i ys ∧ ixN ys.length kk = some j ∧ D.nx (setO δ2 i (ys.set j r.asD))
theorem dsub_ (i : Nat) {x : Str} {ik : Expr} {t : TD} {tk : TB} {p1 p2 : Pos} (h : DE X e t) (hk : DB X ik tk) (hN : X.N[i]? = some x := by rfl) (hv : Vis X.env.scope x := by first | exact Or.inl rfl | exact Or.inr (Or.inl rfl) | exact Or.inr (Or.inr rfl)) (hd : (x == ("__debug__" : Str)) = false := by decide)
    (hcd : (x == ("__classdict__" : Str)) = false := by decide)
    (ha : ∀ v, assign (.Subscript (.Name x p1) ik p2) X.env v = (do
      let ov ← holding [v] (eval (.Name x p1) X.env)
      let iv ← holding [v, ov] (eval ik X.env)
      standAt p2
      holding [v, ov, iv] (setItem ov iv v)
      release [v, ov, iv] []) := by intro _; rfl)
    (hs : swapsWithSole [.Subscript (.Name x p1) ik p2] e pos.line X.env = pure false := by rfl) (hw : swappedStores [.Subscript (.Name x p1) ik p2] e X.env = pure none := by rfl)
    (h1 : (assignEach [.Subscript (.Name x p1) ik p2] X.env).map (·.2) = [assign (.Subscript (.Name x p1) ik p2) X.env] := by rfl) : DS X (.Assign [.Subscript (.Name x p1) ik p2] e pos) (tdSub i t tk) := fun W tk' => by
  obtain ⟨te, pe, le⟩ := h W tk'
  obtain ⟨ke, pk, lk⟩ := hk W tk'
  refine ⟨_, ps_asg pe (pg_sub (pe_var hN hv hd hcd) pk set_list ha) hs hw h1, fun F ex im σ H δ D D' d q f => le F ex im σ H δ _ _ d q fun v H1 r δ1 x1 s1 q1 => ?_⟩
  obtain ⟨⟨xs, ho⟩, q1⟩ := q1
  have d1 := x1.den
  obtain ⟨a, vs, e1, e2, e3⟩ := d1.own i xs ho
  refine ⟨_, e1, lk F ex im σ H1 δ1 _ _ d1 q1 fun kv H2 k δ2 d2 x2 m2 s2 q2 => ?_⟩
  obtain ⟨ez, kk, ys, j, rfl, oy, hj, q2⟩ := q2
  obtain ⟨a', ws, f1, f2, f3⟩ := d2.own i ys oy
  rw [e1] at f1; cases f1
  have hk : ∀ b o, H2 b = some o → b ≠ a → upd H2 a (.lst (ws.set j v)) b = some o := fun b o z nb => by rw [upd_ne nb]; exact z
  have exw : Ext (Ow σ δ2) H2 (upd H2 a (.lst (ws.set j v))) := ext_wr oy e1 f2 hk
  have vm : Im X.K H2 (Ac F σ δ2) v r.asD := x1.im.over x2 s2
  obtain ⟨d3, e3'⟩ := d2.wr (ys := ys.set j r.asD) oy e1 hk upd_same ((f3.over exw SameOw.refl).set j (vm.over exw SameOw.refl))
  refine ⟨a, ws, kk, j, rfl, m2.int, f2, by rw [f3.length]; exact hj, f.nx σ _ _ d3 (((x1.grow s1).trans (Grow.so x2 s2)).trans (Grow.so e3' (ow_setO oy))) q2⟩
/-- x op= e of ints -/
def tdAug (i : Nat) (C : Int → Int → Prop) (g : Int → Int → Int) (t : TB) : TDS := fun ex D δ => ∃ n, δ[i]? = some (.d (.int n)) ∧ t ex δ fun y δ1 => ∃ m, y = .int m ∧ C n m ∧ noIo δ1 i ∧ D.nx (δ1.set i (.d (.int (g n m))))
theorem daug (i : Nat) {x : Str} {op : Operator} {C : Int → Int → Prop} {g : Int → Int → Int} {t : TB} {pos' : Pos} (ho : PIp X op fun x y H Q => ∃ i j, x = .int i ∧ y = .int j ∧ C i j ∧ Q (.int (g i j)) H) (hN : X.N.Nodup) (h : DB X e t) (hi : X.N[i]? = some x := by rfl)
    (hx : Loc X.env.scope x := by first | exact Or.inl rfl | exact Or.inr rfl) (hf : X.fn x = true ∨ X.env.scope.names.lookup x = some .local := by first | exact .inl rfl | exact .inr rfl | assumption) : DS X (.AugAssign (.Name x pos') op e pos) (tdAug i C g t) := fun W tk => by
  obtain ⟨te, pe, le⟩ := h W tk
  refine ⟨_, ps_aug hN hi hx pe ho hf, fun F ex im σ H δ D D' d q f => ?_⟩
  obtain ⟨n, hn, q⟩ := q
  obtain ⟨v, e1, e2⟩ := d.dat i _ hn
  cases e2
  refine ⟨_, e1, le F ex im σ H δ _ _ d q fun w H1 y δ1 d1 x1 m1 s1 q1 => ?_⟩
  obtain ⟨m, rfl, c, hio, q1⟩ := q1
  refine ⟨n, m, rfl, m1.int, c, ?_⟩
  obtain ⟨d2, sub⟩ := d1.put0 (s := .d (.int (g n m))) (v := some (.int (g n m))) hio (fun _ => ⟨(by intro z; cases z), (by intro z; cases z)⟩) (fun y e => by cases e; exact ⟨_, rfl, .int _⟩)
  exact f.nx _ _ _ d2 ((Grow.so x1 s1).trans (Grow.sub sub)) q1
theorem ipd_add : PIp X .Add fun x y H Q => ∃ i j, x = .int i ∧ y = .int j ∧ CT i j ∧ Q (.int (i + j)) H := fun pins s σ H x y v u Q I r1 r2 ⟨i, j, e1, e2, _, q⟩ => ip_add pins s σ H x y v u Q I r1 r2 ⟨i, j, e1, e2, q⟩
theorem ipd_sub : PIp X .Sub fun x y H Q => ∃ i j, x = .int i ∧ y = .int j ∧ CT i j ∧ Q (.int (i - j)) H := fun pins s σ H x y v u Q I r1 r2 ⟨i, j, e1, e2, _, q⟩ => ip_sub pins s σ H x y v u Q I r1 r2 ⟨i, j, e1, e2, q⟩

/-! while -/
def tdWh (c : TDT) (t : TDS) : TDS := fun ex D δ => ∃ P : Nat → List SV → Prop, (∃ m, P m δ) ∧ ∀ m δ', P m δ' → c ex δ' fun k δ1 => if k = true then t ex { D with nx := fun δ2 => ∃ m', m' < m ∧ P m' δ2, ct := fun δ2 => ∃ m', m' < m ∧ P m' δ2, bk := D.nx } δ1 else D.nx δ1
theorem dwhile {c : Expr} {body : List Stmt} {tc : TDT} {t : TDS} (hp : PassesOwn (model X.prog X.w) X.A X.env X.xe) (hc : DT X c tc) (hb : DSs X body t) : DS X (.While c body [] pos) (tdWh tc t) := fun W tk => by
  obtain ⟨te, pe, le⟩ := hc W tk
  obtain ⟨ts, ps, ls⟩ := hb W tk
  refine ⟨_, ps_while hp pe ps, fun F ex im σ H δ D D' d q f => ?_⟩
  obtain ⟨P, ⟨m0, p0⟩, step⟩ := q
  refine ⟨fun m σ' H' => ∃ δ', Den X.K F σ' H' δ' ∧ Grow σ δ H σ' δ' H' ∧ P m δ', ⟨m0, δ, d, Grow.refl, p0⟩, ?_⟩
  rintro m σ1 H1 ⟨δ1, d1, g1, p1⟩
  refine le F ex im σ1 H1 δ1 _ _ d1 (step m δ1 p1) fun k H2 δ2 d2 e2 s2 q2 => ?_
  have g2 := g1.trans (Grow.so e2 s2)
  cases k with
  | true =>
    refine ⟨fun σ' H' => ∃ m', m' < m ∧ ∃ δ', Den X.K F σ' H' δ' ∧ Grow σ δ H σ' δ' H' ∧ P m' δ', fun σ' H' h => h, ?_⟩
    exact ls F ex im σ1 H2 δ2 _ _ d2 q2 ⟨fun σ' H' δ' d' g' ⟨m', hm, p'⟩ => ⟨m', hm, δ', d', g2.trans g', p'⟩, fun σ' H' δ' d' g' q' => f.nx σ' H' δ' d' (g2.trans g') q', fun σ' H' δ' d' g' ⟨m', hm, p'⟩ => ⟨m', hm, δ', d', g2.trans g', p'⟩, f.rt⟩
  | false => exact f.nx σ1 H2 δ2 d2 g2 q2
end

/-! ### calls of the program's own defs -/
abbrev SpD := List D → (SV → Prop) → (Value → Prop) → Prop
def CallOk (K : PySem.W.Frag) (A0 : Addr → Prop) (H H' : Hp) (v : V) : SV → Prop
  | .d x => Im K H' (fun a => A0 a ∨ H a = none) v x
  | .own xs => ∃ a vs, v = .ref a ∧ H' a = some (.lst vs) ∧ H a = none ∧ ImAll K (hide a H') (fun a => A0 a ∨ H a = none) vs xs
  | _ => False
def toSp (K : PySem.W.Frag) (n : Nat) (sp : SpD) : Sp := fun vs H Q E => vs.length = n ∧ ∃ ds A0 Q0 E0, ImAll K H A0 vs ds ∧ sp ds Q0 E0 ∧ (∀ r, Q0 r → ∀ H' v, Same H H' → CallOk K A0 H H' v r → Q v H') ∧ ∀ cls, E0 cls → ∀ d H', Same H H' → E cls d H'
structure FnD (P : Program) (w : World) (K : PySem.W.Frag) (mg : Str → Option Value) (base : Heap) (x : Str) (k : Nat) (ps : List Str) (sp : SpD) : Prop where
  ex : ∃ f fd, FnOk P w K mg base (L2.CX P w) k f fd ps (toSp K ps.length sp) ∧ mg x = some (.ref f) ∧ PySem.W.keepIn K (.ref f) = true ∧ Binds K fd ps []
section
variable {X : Cx} {e : Expr} {es : List Expr} {pos p : Pos}
def tCal (sp : SpD) (t : TDA) : TD := fun ex δ Q => t ex δ fun xs δ1 => sp xs (fun r => Q r δ1) fun cls => ex cls δ1
theorem call_res {K : PySem.W.Frag} {F : Fm} {σ : St} {δ δ1 : List SV} {H H1 H' : Hp} {v : V} {r : SV} (d1 : Den K F σ H1 δ1) (e1 : Ext (Ow σ δ) H H1) (s : Same H1 H') (c : CallOk K (Ac F σ δ1) H1 H' v r) : Res K F σ (Ow σ δ) H δ1 H' v r := by
  have e2 : Ext (Ow σ δ) H H' := e1.trans (O' := fun _ => False) (Ext.of_same s) fun _ z => z.elim
  cases r with
  | un => exact c.elim
  | io _ => exact c.elim
  | d x => exact .d (d1.same s) e2 (Im.mono (fun _ _ q => q) (fun a _ q1 q2 => ⟨q2, q1.elim id fun z => d1.ac_fresh z⟩) (show Im K H' _ v x from c))
  | own xs =>
    obtain ⟨a, vs, rfl, h1, h2, h3⟩ := c
    have s2 : Same H1 (hide a H') := fun b o z => by rw [hide_ne (ne_of_none z h2)]; exact s b o z
    exact .own h1 (d1.same s2) (e1.trans (O' := fun _ => False) (Ext.of_same s2) fun _ z => z.elim) (h3.mono (fun _ _ q => q) fun b _ q1 q2 => ⟨q2, q1.elim id fun z => d1.ac_fresh z⟩) (d1.fresh h2).1
theorem dcall {x : Str} {k : Nat} {ps : List Str} {sp : SpD} {t : TDA} (Fn : FnD X.prog X.w X.K X.mg X.base x k ps sp) (hr : Room k X.A) (h : DA X (e :: es) t) (hg : Gl X x := by rfl) (hdb : (x == ("__debug__" : Str)) = false := by decide)
    (hl : ps.length = (e :: es).length := by rfl) (he : starEach (e :: es) X.env = (false, eval e X.env) :: starEach es X.env := by rfl) (hpl : (backTo pos (starEach es X.env)).any (·.1) = false := by rfl) : DE X (.Call (.Name x p) (e :: es) [] pos) (fun ex δ Q => t ex δ fun xs δ1 => xs.length = ps.length ∧ sp xs (fun r => Q r δ1) fun cls => ex cls δ1) := fun W tk => by
  obtain ⟨te, pa, la⟩ := h W tk
  obtain ⟨f, fd, fo, hm, hk, hb⟩ := Fn.ex
  refine ⟨_, pe_callS fo hr hg hm hk hb (fun σ => passAt tk σ) pa hdb he hpl, fun F ex im σ H δ Q Q' d q g => la F ex im σ H δ _ _ d q fun vs H1 xs δ1 d1 e1 m1 s1 q1 => ?_⟩
  refine ⟨by rw [m1.length]; exact q1.1, xs, Ac F σ δ1, _, _, m1, q1.2, fun r hr H' v s c => ?_, fun cls hc d0 H' s => im cls d0 σ H' ⟨δ1, d1.same s, hc⟩⟩
  exact g v H' r δ1 (call_res d1 e1 s c) s1 hr
end
end DL
namespace DL
open PySem PySem.Spec L2
open PyProof.Rows hiding St

/-! ### what is walked -/
section
variable {X : Cx} {tg e : Expr} {te : TE}
def iSeq (K : PySem.W.Frag) (te : TE) : TI := fun σ H R => te σ H fun x H1 => ∃ a, x = .ref a ∧ ((∃ xs, SqL K H1 a xs ∧ R (Itl K a) H1) ∨ ∃ xs, SqT K H1 a xs ∧ R (Itt K a) H1)
theorem pi_seq (he : PE X e te) : PI X tg e (iSeq X.K te) := by
  refine ⟨fun pins s σ H R I h => thn (he.run pins s σ H _ I h) fun v s1 hh => ?_⟩
  obtain ⟨x, H1, I1, r1, a, ex, q⟩ := hh
  subst ex
  cases r1
  have new : ∀ {o : Obj} {b : Addr}, b ∈ [s1.heap.objs.size] → FpOk X pins H1 b := fun {o b} hb => by
    have eb : b = s1.heap.objs.size := by simpa using hb
    rw [eb]
    exact I1.fpOk (Nat.le_refl _) (I1.hok.fresh (Nat.le_refl _))
  have keep : ∀ {o : Obj}, Inv X pins σ H1 { s1 with heap := s1.heap.push o } := fun {o} => I1.kept (t' := s1.toks) fun b ob z => Heap.get?_push_of_some _ z
  rcases q with ⟨xs, hx, q⟩ | ⟨xs, hx, q⟩
  · obtain ⟨its, rv, hl, _⟩ := I1.list hx
    exact wpAny_pyIter_list hl.isList ⟨_, _, _, _, H1, rfl, keep, turn_list a _, ⟨_, Heap.get?_push_size _ rfl, rfl, rfl⟩, fun b hb => new (o := default) hb, q⟩
  · obtain ⟨its, rv, ht, _⟩ := I1.tuple hx
    exact wpAny_pyIter_tuple (show s1.heap.IsTuple a its.toArray from ht) ⟨_, _, _, _, H1, rfl, keep, turn_tuple a _, ⟨_, Heap.get?_push_size _ rfl, rfl, rfl⟩, fun b hb => new (o := default) hb, q⟩
end
/-- the walk J hands out the items, while the slots stay related to those at its beginning; bor: the slot whose own list is walked -/
def SubF (F F' : Fm) (H1 : Hp) : Prop := ∀ (σ : St) (δ : List SV) (a : Addr), H1 a ≠ none → Ac F σ δ a → Ac F' σ δ a
structure WalkOk (K : PySem.W.Frag) (F : Fm) (J : It) (items : List D) (bor : Option Nat) (σ : St) (H1 : Hp) (δ1 : List SV) : Prop where
  go : ∀ (F' : Fm) (i : Nat) (σ' : St) (H' : Hp) (δ' : List SV) (x : D), SubF F F' H1 → items[i]? = some x → Den K F' σ' H' δ' → Grow σ δ1 H1 σ' δ' H' → (∀ j, bor = some j → σ'[j]? = σ[j]? ∧ δ'[j]? = δ1[j]?) → J.go i H' ∧ ∀ v H'', J.yld i H' v H'' → Same H' H'' ∧ Im K H'' (Ac F' σ' δ') v x
  stop : ∀ (F' : Fm) (i : Nat) (σ' : St) (H' : Hp) (δ' : List SV), items.length ≤ i → Den K F' σ' H' δ' → Grow σ δ1 H1 σ' δ' H' → (∀ j, bor = some j → σ'[j]? = σ[j]? ∧ δ'[j]? = δ1[j]?) → J.stop i H'
abbrev TDI := Ex → List SV → (List D → Option Nat → List SV → Prop) → Prop
def LiftI (K : PySem.W.Frag) (F : Fm) (ex : Ex) (wi : TI) (t : TDI) : Prop := ∀ σ H δ Q (R : It → Hp → Prop), Den K F σ H δ → t ex δ Q →
  (∀ J H1 items bor δ1, Den K F σ H1 δ1 → Ext (Ow σ δ) H H1 → SameOw σ δ δ1 → WalkOk K F J items bor σ H1 δ1 → Q items bor δ1 → R J H1) → wi σ H R
def DI (X : Cx) (tg e : Expr) (t : TDI) : Prop := ∀ W, Takes X W → ∃ wi, PI X tg e wi ∧ ∀ F ex, Imp X.K F ex W → LiftI X.K F ex wi t
section
variable {X : Cx} {tg e a b c : Expr} {p pos : Pos}
theorem Im.grow {K : PySem.W.Frag} {F : Fm} {σ σ' : St} {δ δ' : List SV} {H H' : Hp} {v : V} {x : D} (m : Im K H (Ac F σ δ) v x) (g : Grow σ δ H σ' δ' H') : Im K H' (Ac F σ' δ') v x :=
  m.mono (fun _ _ q => g.1.tup q) fun a _ q1 q2 => by
    have q3 := g.1.lst q1.1 q2
    exact ⟨q3, (fun z => (g.2 a z).elim q1.1 fun n => (by rw [n] at q2; cases q2)), q1.2⟩
theorem ImAll.grow {K : PySem.W.Frag} {F : Fm} {σ σ' : St} {δ δ' : List SV} {H H' : Hp} {v : List V} {x : List D} (m : ImAll K H (Ac F σ δ) v x) (g : Grow σ δ H σ' δ' H') : ImAll K H' (Ac F σ' δ') v x :=
  m.mono (fun _ _ q => g.1.tup q) fun a _ q1 q2 => by
    have q3 := g.1.lst q1.1 q2
    exact ⟨q3, (fun z => (g.2 a z).elim q1.1 fun n => (by rw [n] at q2; cases q2)), q1.2⟩
theorem Res.gr {K : PySem.W.Frag} {F : Fm} {σ : St} {δ δ1 : List SV} {H H1 : Hp} {v : V} {r : SV} (x : Res K F σ (Ow σ δ) H δ1 H1 v r) : Im K H1 (Ac F σ δ1) v r.asD := x.im
/-- the list at a is walked -/
theorem walk_list {K : PySem.W.Frag} {F : Fm} {σ : St} {H1 : Hp} {δ1 : List SV} {a : Addr} {vs : List V} {xs : List D} (ha : H1 a = some (.lst vs)) (hc : Ac F σ δ1 a) (m : ImAll K H1 (Ac F σ δ1) vs xs) : WalkOk K F (Itl K a) xs none σ H1 δ1 where
  go := fun F' i σ' H' δ' x sf hx d g _ => by
    obtain ⟨u, hu, mu⟩ := (m.mono (A' := Ac F' σ δ1) (fun _ _ q => q) fun b _ q1 q2 => ⟨q2, sf σ δ1 b (by rw [q2]; simp) q1⟩).get hx
    have h' : H' a = some (.lst vs) := g.1.lst hc.1 ha
    refine ⟨⟨vs, u, SqL.of h', hu⟩, fun v H'' y => ?_⟩
    obtain ⟨rfl, y⟩ := y
    have e := y vs (SqL.of h')
    rw [hu] at e; cases e
    exact ⟨Same.refl _, mu.grow g⟩
  stop := fun F' i σ' H' δ' hl d g _ => ⟨vs, SqL.of (g.1.lst hc.1 ha), by rw [m.length]; exact hl⟩
theorem walk_tup {K : PySem.W.Frag} {F : Fm} {σ : St} {H1 : Hp} {δ1 : List SV} {a : Addr} {vs : List V} {xs : List D} (ha : SqT K H1 a vs) (m : ImAll K H1 (Ac F σ δ1) vs xs) : WalkOk K F (Itt K a) xs none σ H1 δ1 where
  go := fun F' i σ' H' δ' x sf hx d g _ => by
    obtain ⟨u, hu, mu⟩ := (m.mono (A' := Ac F' σ δ1) (fun _ _ q => q) fun b _ q1 q2 => ⟨q2, sf σ δ1 b (by rw [q2]; simp) q1⟩).get hx
    have h' : SqT K H' a vs := g.1.tup ha
    refine ⟨⟨vs, u, h', hu⟩, fun v H'' y => ?_⟩
    obtain ⟨rfl, y⟩ := y
    have e := y vs h'
    rw [hu] at e; cases e
    exact ⟨Same.refl _, mu.grow g⟩
  stop := fun F' i σ' H' δ' hl d g _ => ⟨vs, g.1.tup ha, by rw [m.length]; exact hl⟩
theorem walk_own {K : PySem.W.Frag} {F : Fm} {σ : St} {H1 : Hp} {δ1 : List SV} {a : Addr} {j : Nat} {xs : List D} (ho : Owns δ1 j xs) (ha : σ[j]? = some (some (.ref a))) : WalkOk K F (Itl K a) xs (some j) σ H1 δ1 where
  go := fun F' i σ' H' δ' x sf hx d g b => by
    obtain ⟨b1, b2⟩ := b j rfl
    have ho' : Owns δ' j xs := by unfold Owns at ho ⊢; rw [b2]; exact ho
    obtain ⟨a', vs, e1, e2, m⟩ := d.own j xs ho'
    rw [b1, ha] at e1; cases e1
    obtain ⟨u, hu, mu⟩ := m.get hx
    refine ⟨⟨vs, u, SqL.of e2, hu⟩, fun v H'' y => ?_⟩
    obtain ⟨rfl, y⟩ := y
    have e := y vs (SqL.of e2)
    rw [hu] at e; cases e
    exact ⟨Same.refl _, mu⟩
  stop := fun F' i σ' H' δ' hl d g b => by
    obtain ⟨b1, b2⟩ := b j rfl
    have ho' : Owns δ' j xs := by unfold Owns at ho ⊢; rw [b2]; exact ho
    obtain ⟨a', vs, e1, e2, m⟩ := d.own j xs ho'
    rw [b1, ha] at e1; cases e1
    exact ⟨vs, SqL.of e2, by rw [m.length]; exact hl⟩
/-- over a list or a tuple -/
def tiS (t : TD) : TDI := fun ex δ Q => t ex δ fun r δ1 => ∃ xs, (r.asD = .tuple xs ∨ r.asD = .list xs) ∧ Q xs none δ1
theorem diS {t : TD} (h : DE X e t) : DI X tg e (tiS t) := fun W tk => by
  obtain ⟨te, pe, le⟩ := h W tk
  refine ⟨_, pi_seq pe, fun F ex im σ H δ Q R d q f => le F ex im σ H δ _ _ d q fun v H1 r δ1 x s q1 => ?_⟩
  obtain ⟨xs, ex', q1⟩ := q1
  have m := x.im
  rcases ex' with e | e
  · rw [e] at m
    cases m with
    | tup hs hm => exact ⟨_, rfl, .inr ⟨_, hs, f _ H1 xs none δ1 x.den x.ext s (walk_tup hs hm) q1⟩⟩
  · rw [e] at m
    cases m with
    | lst hs ha hm => exact ⟨_, rfl, .inl ⟨_, SqL.of hs, f _ H1 xs none δ1 x.den x.ext s (walk_list hs ha hm) q1⟩⟩
/-- over a list of the frame's own -/
def tiO (j : Nat) : TDI := fun _ δ Q => ∃ xs, Owns δ j xs ∧ Q xs (some j) δ
theorem diO (j : Nat) {x : Str} (hN : X.N[j]? = some x := by rfl) (hv : Vis X.env.scope x := by first | exact Or.inl rfl | exact Or.inr (Or.inl rfl) | exact Or.inr (Or.inr rfl)) (hd : (x == ("__debug__" : Str)) = false := by decide)
    (hcd : (x == ("__classdict__" : Str)) = false := by decide) : DI X tg (.Name x p) (tiO j) := fun W _ => by
  refine ⟨_, pi_seq (pe_var hN hv hd hcd), fun F ex im σ H δ Q R d q f => ?_⟩
  obtain ⟨xs, ho, q⟩ := q
  obtain ⟨a, vs, e1, e2, e3⟩ := d.own j xs ho
  exact ⟨_, e1, a, rfl, .inl ⟨vs, SqL.of e2, f _ H xs (some j) δ d Ext.refl SameOw.refl (walk_own ho e1) q⟩⟩
/-- lo, lo + c, .. (n of them) -/
def rngD (lo c : Int) (n : Nat) : List D := (List.range n).map fun (i : Nat) => PyData.int (lo + (i : Int) * c)
theorem rngD_get {lo c : Int} {n i : Nat} {x : D} (h : (rngD lo c n)[i]? = some x) : i < n ∧ x = .int (lo + i * c) := by
  unfold rngD at h
  rw [List.getElem?_map] at h
  by_cases z : i < n
  · rw [List.getElem?_range z] at h
    exact ⟨z, (Option.some.inj h).symm⟩
  · rw [List.getElem?_eq_none (by simpa using z)] at h
    cases h
theorem rngD_len {lo c : Int} {n : Nat} : (rngD lo c n).length = n := by unfold rngD; simp
theorem walk_rng {K : PySem.W.Frag} {F : Fm} {σ : St} {H1 : Hp} {δ1 : List SV} {lo : Int} {n : Nat} : WalkOk K F (Itr lo n) (rngD lo 1 n) none σ H1 δ1 where
  go := fun F' i σ' H' δ' x sf hx d g _ => by
    obtain ⟨hi, rfl⟩ := rngD_get hx
    refine ⟨hi, fun v H'' y => ?_⟩
    obtain ⟨rfl, rfl⟩ := y
    rw [Int.mul_one]
    exact ⟨Same.refl _, .int _⟩
  stop := fun F' i σ' H' δ' hl d g _ => by rw [rngD_len] at hl; exact hl
def tiR1 (t : TDA) : TDI := fun ex δ Q => t ex δ fun xs δ1 => ∃ n : Int, xs = [.int n] ∧ -(2 ^ 62) ≤ n ∧ n < 2 ^ 62 ∧ Q (rngD 0 1 n.toNat) none δ1
theorem diR1 {t : TDA} {n : Nat} (hg : Gl X "range") (hm : X.mg "range" = none) (h : DAB X [a] n t) (hs : starEach [a] X.env = [(false, eval a X.env)] := by rfl) : DI X tg (.Call (.Name "range" p) [a] [] pos) (tiR1 t) := fun W tk => by
  obtain ⟨te, pa, la⟩ := h W tk
  refine ⟨_, pi_range1 hg hm pa hs, fun F ex im σ H δ Q R d q f => la F ex im σ H δ _ _ d q fun vs H1 xs δ1 d1 e1 m1 s1 q1 => ?_⟩
  obtain ⟨n, rfl, h1, h2, q1⟩ := q1
  obtain ⟨v, rfl, mm⟩ := pr1 m1
  exact ⟨n, by rw [mm.int], h1, h2, f _ H1 _ none δ1 d1 e1 s1 walk_rng q1⟩
def tiR2 (t : TDA) : TDI := fun ex δ Q => t ex δ fun xs δ1 => ∃ i j : Int, xs = [.int i, .int j] ∧ (-(2 ^ 62) ≤ i ∧ i < 2 ^ 62 ∧ -(2 ^ 62) ≤ j ∧ j < 2 ^ 62) ∧ Q (rngD i 1 (j - i).toNat) none δ1
theorem diR2 {t : TDA} {n : Nat} (hg : Gl X "range") (hm : X.mg "range" = none) (h : DAB X [a, b] n t) (hs : starEach [a, b] X.env = [(false, eval a X.env), (false, eval b X.env)] := by rfl) (hs2 : starEach [b] X.env = [(false, eval b X.env)] := by rfl) : DI X tg (.Call (.Name "range" p) [a, b] [] pos) (tiR2 t) := fun W tk => by
  obtain ⟨te, pa, la⟩ := h W tk
  refine ⟨_, pi_range2 hg hm pa hs hs2, fun F ex im σ H δ Q R d q f => la F ex im σ H δ _ _ d q fun vs H1 xs δ1 d1 e1 m1 s1 q1 => ?_⟩
  obtain ⟨i, j, rfl, hb, q1⟩ := q1
  obtain ⟨v, w, rfl, mm, mm'⟩ := pr2 m1
  exact ⟨i, j, by rw [mm.int, mm'.int], hb, f _ H1 _ none δ1 d1 e1 s1 walk_rng q1⟩
theorem walk_rngC {K : PySem.W.Frag} {F : Fm} {σ : St} {H1 : Hp} {δ1 : List SV} {lo c : Int} {n : Nat} : WalkOk K F (Itc lo c n) (rngD lo c n) none σ H1 δ1 where
  go := fun F' i σ' H' δ' x sf hx d g _ => by
    obtain ⟨hi, rfl⟩ := rngD_get hx
    refine ⟨hi, fun v H'' y => ?_⟩
    obtain ⟨rfl, rfl⟩ := y
    exact ⟨Same.refl _, .int _⟩
  stop := fun F' i σ' H' δ' hl d g _ => by rw [rngD_len] at hl; exact hl
/-- range(i, j, -1) -/
def tiRd (t : TDA) : TDI := fun ex δ Q => t ex δ fun xs δ1 => ∃ i j : Int, xs = [.int i, .int j, .int (-1)] ∧ (-(2 ^ 62) ≤ i ∧ i < 2 ^ 62 ∧ -(2 ^ 62) ≤ j ∧ j < 2 ^ 62) ∧ Q (rngD i (-1) (i - j).toNat) none δ1
theorem diRd {t : TDA} (hg : Gl X "range") (hm : X.mg "range" = none) (h : DA X [a, b, c] t) (hs : starEach [a, b, c] X.env = (false, eval a X.env) :: starEach [b, c] X.env := by rfl) (hpl : (backTo pos (starEach [b, c] X.env)).any (·.1) = false := by rfl) : DI X tg (.Call (.Name "range" p) [a, b, c] [] pos) (tiRd t) := fun W tk => by
  obtain ⟨te, pa, la⟩ := h W tk
  refine ⟨_, pi_range3 hg hm pa hs hpl, fun F ex im σ H δ Q R d q f => la F ex im σ H δ _ _ d q fun vs H1 xs δ1 d1 e1 m1 s1 q1 => ?_⟩
  obtain ⟨i, j, rfl, ⟨h1, h2, h3, h4⟩, q1⟩ := q1
  cases m1 with
  | cons a1 m1 => cases m1 with
    | cons a2 m1 => cases m1 with
      | cons a3 m1 =>
        cases m1; cases a1; cases a2; cases a3
        exact ⟨i, j, -1, _, rfl, RgC.neg h1 h2 h3 h4, f _ H1 _ none δ1 d1 e1 s1 walk_rngC q1⟩
end

/-! ### for -/
section
variable {X : Cx} {tg iter : Expr} {pos : Pos}
def ForB (g : TDG) (t : TDS) (ex : Ex) (D : DEnds) (items : List PyData) (bor : Option Nat) (δ1 : List SV) : Prop := bor = none ∧ ∃ P : Nat → List SV → Prop, P 0 δ1 ∧
  (∀ i x δ', items[i]? = some x → P i δ' → g x δ' fun δ2 => t ex { D with nx := P (i + 1), ct := P (i + 1), bk := D.nx } δ2) ∧ ∀ δ', P items.length δ' → D.nx δ'
def tdFor (ti : TDI) (g : TDG) (t : TDS) : TDS := fun ex D δ => ti ex δ fun items bor δ1 => ForB g t ex D items bor δ1
theorem dfor {body : List Stmt} {ti : TDI} {L : List Nat} {g : TDG} {t : TDS} (hp : PassesOwn (model X.prog X.w) X.A X.env X.xe) (hc : X.calm = true) (hi : DI X tg iter ti) (hg : DG X tg L g) (hb : DSs X body t)
    (hs : ∀ x, foldedSetIterable iter X.env x = pure x := by intro _; rfl) : DS X (.For tg iter body [] pos) (tdFor ti g t) := fun W tk => by
  obtain ⟨wi, pi, li⟩ := hi W tk
  obtain ⟨gt, pg, lg⟩ := hg
  obtain ⟨ts, ps, ls⟩ := hb W tk
  refine ⟨_, ps_for hp hc pi pg ps hs, fun F ex im σ H δ D D' d q f => li F ex im σ H δ _ _ d q fun J H1 items bor δ1 d1 e1 s1 w q1 => ?_⟩
  obtain ⟨rfl, P, p0, step, done⟩ := q1
  have g1 := Grow.so e1 s1
  refine ⟨fun i m σ' H' => m = items.length - i ∧ i ≤ items.length ∧ ∃ δ', Den X.K F σ' H' δ' ∧ Grow σ δ1 H1 σ' δ' H' ∧ P i δ', ⟨items.length, by simp, Nat.zero_le _, δ1, d1, Grow.refl, p0⟩, ?_⟩
  rintro i m σ2 H2 ⟨rfl, hi, δ2, d2, g2, p2⟩
  by_cases hl : i < items.length
  · have hx : items[i]? = some items[i] := List.getElem?_eq_getElem hl
    obtain ⟨go, yl⟩ := w.go F i σ2 H2 δ2 _ (fun _ _ _ _ z => z) hx d2 g2 (fun j e => nomatch e)
    refine .inr ⟨go, fun σ' H' => ∃ δ', Den X.K F σ' H' δ' ∧ Grow σ δ1 H1 σ' δ' H' ∧ P (i + 1) δ', fun σ' H' h => ⟨items.length - (i + 1), by omega, rfl, hl, h⟩, fun v H3 y => ?_⟩
    obtain ⟨sm, mi⟩ := yl v H3 y
    have d3 := d2.same sm
    have g3 : Grow σ2 δ2 H2 σ2 δ2 H3 := ⟨Ext.of_same sm, fun a h => .inl h⟩
    refine lg F σ2 H3 δ2 v _ _ _ d3 mi (step i _ δ2 hx p2) fun σ4 δ4 d4 s4 _ _ q4 => ?_
    have g4 : Grow σ δ1 H1 σ4 δ4 H3 := (g2.trans g3).trans (Grow.sub s4)
    exact ls F ex im σ4 H3 δ4 _ _ d4 q4 ⟨fun σ' H' δ' d' g' q' => ⟨δ', d', g4.trans g', q'⟩, fun σ' H' δ' d' g' q' => f.nx σ' H' δ' d' ((g1.trans g4).trans g') q', fun σ' H' δ' d' g' q' => ⟨δ', d', g4.trans g', q'⟩, f.rt⟩
  · have e : i = items.length := by omega
    subst e
    exact .inl ⟨w.stop F _ σ2 H2 δ2 (Nat.le_refl _) d2 g2 (fun j e => nomatch e), f.nx σ2 H2 δ2 d2 (g1.trans g2) (done δ2 p2)⟩
end
end DL
namespace DL
open PySem PySem.Spec L2
open PyProof.Rows hiding St

/-! ### lists that nobody may know -/
def Fm.avd (F : Fm) (p : Addr) : Fm := { F with av := fun a => F.av a ∨ a = p }
section
variable {K : PySem.W.Frag} {F : Fm} {σ : St} {H : Hp} {δ : List SV} {p : Addr} {ws : List V}
theorem ac_avd {a : Addr} : Ac (F.avd p) σ δ a ↔ Ac F σ δ a ∧ a ≠ p := by
  unfold Ac Fm.avd
  constructor
  · rintro ⟨h1, h2, h3⟩
    exact ⟨⟨h1, fun z => h2 (.inl z), h3⟩, fun z => h2 (.inr z)⟩
  · rintro ⟨⟨h1, h2, h3⟩, h4⟩
    exact ⟨h1, fun z => z.elim h2 h4, h3⟩
theorem Im.toav {v : V} {x : D} (m : Im K (hide p H) (Ac F σ δ) v x) : Im K H (Ac (F.avd p) σ δ) v x :=
  m.mono (fun _ _ q => (hide_le (O := fun _ => False)).tup q) fun a _ q1 q2 => ⟨(hide_some q2).1, ac_avd.mpr ⟨q1, (hide_some q2).2⟩⟩
theorem ImAll.toav {v : List V} {x : List D} (m : ImAll K (hide p H) (Ac F σ δ) v x) : ImAll K H (Ac (F.avd p) σ δ) v x :=
  m.mono (fun _ _ q => (hide_le (O := fun _ => False)).tup q) fun a _ q1 q2 => ⟨(hide_some q2).1, ac_avd.mpr ⟨q1, (hide_some q2).2⟩⟩
theorem Den.toav (d : Den K F σ (hide p H) δ) (hp : H p = some (.lst ws)) : Den K (F.avd p) σ H δ := by
  refine ⟨d.len, fun i x e => ?_, fun i xs e => ?_, d.fre, d.iom, d.mio, d.one, fun a o e => ?_, fun a z => ?_⟩
  · obtain ⟨v, e1, e2⟩ := d.dat i x e
    exact ⟨v, e1, e2.toav⟩
  · obtain ⟨a, vs, e1, e2, e3⟩ := d.own i xs e
    exact ⟨a, vs, e1, (hide_some e2).1, e3.toav⟩
  · rcases d.keep a o e with z | z
    · exact .inl z
    · exact .inr (hide_some z).1
  · rcases z with z | z
    · obtain ⟨⟨vs, e⟩, no⟩ := d.avt a z
      exact ⟨⟨vs, (hide_some e).1⟩, no⟩
    · subst z
      exact ⟨⟨ws, hp⟩, (d.fresh hide_same).2⟩
theorem sqT_hide {t : Addr} {ys : List V} (hp : H p = some (.lst ws)) (q : SqT K H t ys) : SqT K (hide p H) t ys := by
  rcases q with (q | ⟨o, q⟩) | q
  · exact .inl (.inl (by rw [hide_ne (fun z => by subst z; rw [hp] at q; cases q)]; exact q))
  · exact .inl (.inr ⟨o, by rw [hide_ne (fun z => by subst z; rw [hp] at q; cases q)]; exact q⟩)
  · exact .inr q
theorem ImAll.unav {v : List V} {x : List D} (m : ImAll K H (Ac (F.avd p) σ δ) v x) (hp : H p = some (.lst ws)) : ImAll K (hide p H) (Ac F σ δ) v x :=
  m.mono (fun _ _ q => sqT_hide hp q) fun a _ q1 q2 => ⟨by rw [hide_ne (ac_avd.mp q1).2]; exact q2, (ac_avd.mp q1).1⟩
theorem Im.unav {v : V} {x : D} (m : Im K H (Ac (F.avd p) σ δ) v x) (hp : H p = some (.lst ws)) : Im K (hide p H) (Ac F σ δ) v x :=
  m.mono (fun _ _ q => sqT_hide hp q) fun a _ q1 q2 => ⟨by rw [hide_ne (ac_avd.mp q1).2]; exact q2, (ac_avd.mp q1).1⟩
theorem Den.unav (d : Den K (F.avd p) σ H δ) (hg : F.G p = none) (ex : ¬ F.av p) : Den K F σ (hide p H) δ := by
  obtain ⟨⟨ws, hp⟩, no⟩ := d.avt p (.inr rfl)
  refine ⟨d.len, fun i x e => ?_, fun i xs e => ?_, d.fre, d.iom, d.mio, d.one, fun a o e => ?_, fun a z => ?_⟩
  · obtain ⟨v, e1, e2⟩ := d.dat i x e
    exact ⟨v, e1, e2.unav hp⟩
  · obtain ⟨a, vs, e1, e2, e3⟩ := d.own i xs e
    exact ⟨a, vs, e1, by rw [hide_ne (fun z => by subst z; exact no ⟨i, xs, e, e1⟩)]; exact e2, e3.unav hp⟩
  · rcases d.keep a o e with z | z
    · exact .inl z
    · exact .inr (by rw [hide_ne (fun z => by subst z; rw [show F.G _ = _ from hg] at e; cases e)]; exact z)
  · obtain ⟨⟨vs, e⟩, no⟩ := d.avt a (.inl z)
    exact ⟨⟨vs, by rw [hide_ne (fun q => by subst q; exact ex z)]; exact e⟩, no⟩
/-- the list that nobody knows is written -/
theorem Den.avw (d : Den K (F.avd p) σ H δ) {ws' : List V} (h0 : H p = some (.lst ws)) (hg : F.G p = none) : Den K (F.avd p) σ (upd H p (.lst ws')) δ ∧ (∀ {v : V} {x : D}, Im K H (Ac (F.avd p) σ δ) v x → Im K (upd H p (.lst ws')) (Ac (F.avd p) σ δ) v x) ∧
    (∀ {v : List V} {x : List D}, ImAll K H (Ac (F.avd p) σ δ) v x → ImAll K (upd H p (.lst ws')) (Ac (F.avd p) σ δ) v x) := by
  have ext : Ext (fun a => a = p) H (upd H p (.lst ws')) := fun a o e => by
    by_cases z : a = p
    · subst z
      rw [h0] at e; cases e
      exact .inl ⟨rfl, _, rfl⟩
    · exact .inr (by rw [upd_ne z]; exact e)
  have up : ∀ {v : V} {x : D}, Im K H (Ac (F.avd p) σ δ) v x → Im K (upd H p (.lst ws')) (Ac (F.avd p) σ δ) v x := fun m => m.ext ext fun a z => ⟨(ac_avd.mp z).2, z⟩
  have up2 : ∀ {v : List V} {x : List D}, ImAll K H (Ac (F.avd p) σ δ) v x → ImAll K (upd H p (.lst ws')) (Ac (F.avd p) σ δ) v x := fun m => m.ext ext fun a z => ⟨(ac_avd.mp z).2, z⟩
  obtain ⟨_, no⟩ := d.avt p (.inr rfl)
  refine ⟨⟨d.len, fun i x e => ?_, fun i xs e => ?_, d.fre, d.iom, d.mio, d.one, fun a o e => ?_, fun a z => ?_⟩, up, up2⟩
  · obtain ⟨v, e1, e2⟩ := d.dat i x e
    exact ⟨v, e1, up e2⟩
  · obtain ⟨a, vs, e1, e2, e3⟩ := d.own i xs e
    exact ⟨a, vs, e1, by rw [upd_ne (fun z => by subst z; exact no ⟨i, xs, e, e1⟩)]; exact e2, up2 e3⟩
  · rcases d.keep a o e with z | z
    · exact .inl z
    · by_cases w : a = p
      · subst w
        rw [show (F.avd a).G a = none from hg] at e; cases e
      · exact .inr (by rw [upd_ne w]; exact z)
  · obtain ⟨⟨vs, e⟩, no'⟩ := d.avt a z
    by_cases w : a = p
    · subst w; exact ⟨⟨ws', upd_same⟩, no'⟩
    · exact ⟨⟨vs, by rw [upd_ne w]; exact e⟩, no'⟩
end

/-! ### uniform readings -/
def teOf (K : PySem.W.Frag) (W : WX) (t : TD) : TE := fun σ H Q' => ∃ F ex δ Q, Den K F σ H δ ∧ Imp K F ex W ∧ t ex δ Q ∧ ∀ v H' r δ', Res K F σ (Ow σ δ) H δ' H' v r → SameOw σ δ δ' → Q r δ' → Q' v H'
theorem DE.uni {X : Cx} {e : Expr} {t : TD} {W : WX} (h : DE X e t) (tk : Takes X W) : PE X e (teOf X.K W t) := by
  obtain ⟨te, pe, l⟩ := h W tk
  refine ⟨fun pins s σ H Q I hh => ?_⟩
  obtain ⟨F, ex, δ, Q0, d, im, q, f⟩ := hh
  exact pe.run pins s σ H Q I (l F ex im σ H δ Q0 Q d q f)
def ttOf (K : PySem.W.Frag) (W : WX) (t : TDT) : TT := fun σ H Q' => ∃ F ex δ Q, Den K F σ H δ ∧ Imp K F ex W ∧ t ex δ Q ∧ ∀ b H' δ', Den K F σ H' δ' → Ext (Ow σ δ) H H' → SameOw σ δ δ' → Q b δ' → Q' b H'
theorem DT.uni {X : Cx} {e : Expr} {t : TDT} {W : WX} (h : DT X e t) (tk : Takes X W) : PT X e (ttOf X.K W t) := by
  obtain ⟨te, pe, l⟩ := h W tk
  refine ⟨fun pins s σ H Q I hh => ?_⟩
  obtain ⟨F, ex, δ, Q0, d, im, q, f⟩ := hh
  exact pe.run pins s σ H Q I (l F ex im σ H δ Q0 Q d q f)
def gtOf (K : PySem.W.Frag) (L : List Nat) (g : TDG) : TG := fun v σ H Q' => ∃ F δ x Q, Den K F σ H δ ∧ Im K H (Ac F σ δ) v x ∧ g x δ Q ∧ ∀ σ' δ', Den K F σ' H δ' → (∀ a, Ow σ' δ' a → Ow σ δ a) → σ'.length = σ.length → (∀ j, j ∉ L → σ'[j]? = σ[j]?) → Q δ' → Q' σ' H
theorem DG.uni {X : Cx} {tg : Expr} {L : List Nat} {g : TDG} (h : DG X tg L g) : PG X tg (gtOf X.K L g) := by
  obtain ⟨gt, pg, l⟩ := h
  refine ⟨fun pins s σ H v u Q I r hh => ?_⟩
  obtain ⟨F, δ, x, Q0, d, m, q, f⟩ := hh
  exact pg.run pins s σ H v u Q I r (l F σ H δ v x Q0 Q d m q f)

/-! ### comprehensions -/
def wipeD (δ : List SV) : List Nat → List SV
  | [] => δ
  | v :: vs => (wipeD δ vs).set v .un
def isDat (δ : List SV) (j : Nat) : Prop := match δ[j]? with
  | some (.d _) => True
  | some .un => True
  | _ => False
theorem isDat.noIo {δ : List SV} {j : Nat} (h : isDat δ j) : noIo δ j ∧ ∀ xs, ¬ Owns δ j xs := by
  unfold isDat at h
  unfold DL.noIo Owns
  cases e : δ[j]? with
  | none => rw [e] at h; exact h.elim
  | some s =>
    rw [e] at h
    cases s with
    | un => exact ⟨trivial, fun xs z => by rcases z with z | z <;> cases z⟩
    | d _ => exact ⟨trivial, fun xs z => by rcases z with z | z <;> cases z⟩
    | own _ => exact h.elim
    | io _ => exact h.elim
theorem isDat.wipe {δ : List SV} {j : Nat} (h : isDat δ j) : ∀ vs : List Nat, isDat (wipeD δ vs) j
  | [] => h
  | v :: vs => by
    have ih := isDat.wipe h vs
    unfold wipeD isDat
    by_cases e : v = j
    · subst e
      by_cases l : v < (wipeD δ vs).length
      · rw [List.getElem?_set_self l]; trivial
      · rw [List.set_eq_of_length_le (by omega)]; exact ih
    · rw [List.getElem?_set_ne e]; exact ih
theorem wipeD_get {δ : List SV} {j : Nat} : ∀ {vs : List Nat}, (j ∉ vs → (wipeD δ vs)[j]? = δ[j]?) ∧ (j ∈ vs → j < δ.length → (wipeD δ vs)[j]? = some .un) ∧ (wipeD δ vs).length = δ.length
  | [] => ⟨fun _ => rfl, fun h => by simp at h, rfl⟩
  | v :: vs => by
    obtain ⟨h1, h2, h3⟩ := wipeD_get (δ := δ) (j := j) (vs := vs)
    refine ⟨fun hj => ?_, fun hj hl => ?_, by unfold wipeD; rw [List.length_set, h3]⟩
    · unfold wipeD
      rw [List.getElem?_set_ne (fun e => hj (by simp [e]))]
      exact h1 fun z => hj (List.mem_cons_of_mem _ z)
    · unfold wipeD
      by_cases e : v = j
      · subst e
        exact List.getElem?_set_self (by rw [h3]; exact hl)
      · rw [List.getElem?_set_ne e]
        exact h2 ((List.mem_cons.mp hj).resolve_left fun z => e z.symm) hl
section
variable {K : PySem.W.Frag} {F : Fm} {σ : St} {H : Hp} {δ : List SV}
theorem Den.wipe (d : Den K F σ H δ) : ∀ vs : List Nat, (∀ j ∈ vs, isDat δ j) → Den K F (L2.wipe σ vs) H (wipeD δ vs) ∧ ∀ a, Ow (L2.wipe σ vs) (wipeD δ vs) a ↔ Ow σ δ a
  | [], _ => ⟨d, fun _ => Iff.rfl⟩
  | v :: vs, h => by
    obtain ⟨ih, io⟩ := Den.wipe d vs fun j hj => h j (List.mem_cons_of_mem _ hj)
    have hv := (h v List.mem_cons_self).wipe vs
    obtain ⟨d1, sub⟩ := ih.put0 (i := v) (s := .un) (v := none) hv.noIo.1 (fun _ => ⟨(by intro z; cases z), (by intro z; cases z)⟩) (fun x e => by cases e)
    refine ⟨d1, fun a => ⟨fun z => (io a).mp (sub a z), fun z => ?_⟩⟩
    obtain ⟨i, xs, h1, h2⟩ := (io a).mpr z
    have ne : i ≠ v := fun e => hv.noIo.2 xs (e ▸ h1)
    refine ⟨i, xs, ?_, ?_⟩
    · show ((wipeD δ vs).set v .un)[i]? = some (.own xs) ∨ ((wipeD δ vs).set v .un)[i]? = some (.io xs)
      rw [List.getElem?_set_ne (Ne.symm ne)]
      exact h1
    · show (List.set (L2.wipe σ vs) v none)[i]? = _
      rw [List.getElem?_set_ne (Ne.symm ne)]
      exact h2
/-- back in the frame: what was wiped stays unknown -/
theorem Den.unwipe {vs : List Nat} (d : Den K F (L2.wipe σ vs) H δ) (h : ∀ j ∈ vs, δ[j]? = some .un) : Den K F σ H δ ∧ ∀ a, Ow (L2.wipe σ vs) δ a ↔ Ow σ δ a := by
  have no : ∀ {j : Nat} {s : SV}, δ[j]? = some s → s ≠ .un → j ∉ vs := fun {j s} e ne hj => by rw [h j hj] at e; cases e; exact ne rfl
  have ow : ∀ {j : Nat} {xs : List D}, Owns δ j xs → (L2.wipe σ vs)[j]? = σ[j]? := fun {j xs} z => wipe_out (by rcases z with z | z <;> exact no z (by intro q; cases q))
  have io : ∀ a, Ow (L2.wipe σ vs) δ a ↔ Ow σ δ a := fun a => ⟨fun ⟨i, xs, h1, h2⟩ => ⟨i, xs, h1, by rw [← ow h1]; exact h2⟩, fun ⟨i, xs, h1, h2⟩ => ⟨i, xs, h1, by rw [ow h1]; exact h2⟩⟩
  have acm : ∀ a, Ac F (L2.wipe σ vs) δ a → Ac F σ δ a := fun a z => ⟨fun q => z.1 ((io a).mpr q), z.2⟩
  refine ⟨⟨by rw [d.len, wipe_length], fun i x e => ?_, fun i xs e => ?_, fun i xs a e1 e2 => d.fre i xs a e1 (by rw [ow (.inl e1)]; exact e2), fun i xs a e1 e2 => d.iom i xs a e1 (by rw [ow (.inr e1)]; exact e2), fun q hq => ?_,
    fun i j a xs ys h1 h2 h3 h4 => d.one i j a xs ys h1 h2 (by rw [ow h1]; exact h3) (by rw [ow h2]; exact h4), d.keep, fun a z => ⟨(d.avt a z).1, fun q => (d.avt a z).2 ((io a).mpr q)⟩⟩, io⟩
  · obtain ⟨v, e1, e2⟩ := d.dat i x e
    exact ⟨v, by rw [← wipe_out (no e (by intro q; cases q))]; exact e1, e2.mono (fun _ _ q => q) fun a _ q1 q2 => ⟨q2, acm a q1⟩⟩
  · obtain ⟨a, vs', e1, e2, e3⟩ := d.own i xs e
    exact ⟨a, vs', by rw [← ow e]; exact e1, e2, e3.mono (fun _ _ q => q) fun a _ q1 q2 => ⟨q2, acm a q1⟩⟩
  · obtain ⟨h1, xs, h2⟩ := d.mio q hq
    exact ⟨by rw [← ow (.inr h2)]; exact h1, xs, h2⟩
end
theorem wipe_wipe {σ σ' : St} {vs : List Nat} (hl : σ'.length = σ.length) (h : ∀ j, j ∉ vs → σ'[j]? = (L2.wipe σ vs)[j]?) : L2.wipe σ' vs = L2.wipe σ vs := by
  have inn : ∀ (τ : St) (ws : List Nat) (j : Nat), j ∈ ws → (L2.wipe τ ws)[j]? = if j < τ.length then some none else none := by
    intro τ ws
    induction ws with
    | nil => intro j hj; simp at hj
    | cons w ws ih =>
      intro j hj
      show (List.set (L2.wipe τ ws) w none)[j]? = _
      by_cases e : w = j
      · subst e
        by_cases l : w < τ.length
        · rw [List.getElem?_set_self (by rw [wipe_length]; exact l), if_pos l]
        · rw [if_neg l, List.getElem?_eq_none (by rw [List.length_set, wipe_length]; omega)]
      · rw [List.getElem?_set_ne e]
        exact ih j ((List.mem_cons.mp hj).resolve_left fun z => e z.symm)
  apply List.ext_getElem?
  intro j
  by_cases hj : j ∈ vs
  · rw [inn σ' vs j hj, inn σ vs j hj, hl]
  · rw [wipe_out hj]
    exact h j hj
def ex0 : Ex := fun _ _ => False
def W0 : WX := fun _ _ _ _ => False
theorem imp0 {K : PySem.W.Frag} {F : Fm} : Imp K F ex0 W0 := fun _ _ _ _ ⟨_, _, z⟩ => z.elim
def tYesD : TDT := fun _ δ Q => Q true δ
def LcB (g : TDG) (tt : TDT) (te : TD) (vs : List Nat) (Q : SV → List SV → Prop) (items : List PyData) (bor : Option Nat) (δ1 : List SV) : Prop := (∀ j ∈ vs, isDat δ1 j) ∧ ∃ P : Nat → List PyData → List SV → Prop, P 0 [] (wipeD δ1 vs) ∧
  (∀ i acc δ', P i acc δ' → (∀ j ∈ vs, δ'[j]? = some .un) ∧ ∀ j, bor = some j → j ∉ vs ∧ δ'[j]? = δ1[j]?) ∧
  (∀ i x acc δ', items[i]? = some x → P i acc δ' → g x δ' fun δ2 => (∀ j ∈ vs, isDat δ2 j) ∧ tt ex0 δ2 fun b δ3 => (∀ j ∈ vs, isDat δ3 j) ∧ if b = true then te ex0 δ3 fun r δ4 => (∀ j ∈ vs, isDat δ4 j) ∧ acc.length < sizeLine ∧ P (i + 1) (acc ++ [r.asD]) (wipeD δ4 vs) else P (i + 1) acc (wipeD δ3 vs)) ∧
  ∀ acc δ', P items.length acc δ' → Q (.own acc) δ'
def tdLc (ti : TDI) (g : TDG) (tt : TDT) (te : TD) (vs : List Nat) : TD := fun ex δ Q => ti ex δ fun items bor δ1 => LcB g tt te vs Q items bor δ1
/-- a comprehension that leaves the slots as they are: F i stands made when i items are walked -/
theorem lcb {g : TDG} {tt : TDT} {te : TD} {vs : List Nat} {Q : SV → List SV → Prop} {items : List PyData} {bor : Option Nat} {δ1 : List SV} (F : Nat → List PyData) (h1 : ∀ j ∈ vs, isDat δ1 j) (hb : ∀ j, bor = some j → j ∉ vs) (h0 : F 0 = [])
    (step : ∀ i x, items[i]? = some x → g x (wipeD δ1 vs) fun δ2 => (∀ j ∈ vs, isDat δ2 j) ∧ tt ex0 δ2 fun b δ3 => (∀ j ∈ vs, isDat δ3 j) ∧ if b = true then te ex0 δ3 fun r δ4 => (∀ j ∈ vs, isDat δ4 j) ∧ (F i).length < sizeLine ∧ F i ++ [r.asD] = F (i + 1) ∧ wipeD δ4 vs = wipeD δ1 vs else F i = F (i + 1) ∧ wipeD δ3 vs = wipeD δ1 vs)
    (fin : Q (.own (F items.length)) (wipeD δ1 vs)) : LcB g tt te vs Q items bor δ1 := by
  refine ⟨h1, fun i acc δ' => acc = F i ∧ δ' = wipeD δ1 vs, ⟨h0.symm, rfl⟩, fun i acc δ' h => ?_, fun i x acc δ' hx h => ?_, fun acc δ' h => ?_⟩
  · obtain ⟨rfl, rfl⟩ := h
    refine ⟨fun j hj => ?_, fun j e => ⟨hb j e, wipeD_get.1 (hb j e)⟩⟩
    have z := h1 j hj
    unfold isDat at z
    cases e : δ1[j]? with
    | none => rw [e] at z; exact z.elim
    | some s => exact wipeD_get.2.1 hj (lt_of_get e)
  · obtain ⟨rfl, rfl⟩ := h
    exact step i x hx
  · obtain ⟨rfl, rfl⟩ := h
    exact fin

section
variable {X : Cx} {elt tg iter : Expr} {ifs : List Expr} {scope : Scope} {own : List (Str × Nat)} {pos : Pos} {ti : TDI} {L : List Nat} {g : TDG} {tt : TDT} {te : TD}
/-- what the layer below asks of the comprehension -/
theorem lc_lift {W : WX} {wi : TI} (li : ∀ F ex, Imp X.K F ex W → LiftI X.K F ex wi ti) {ttv : TT} (htv : ∀ F, LiftT X.K F ex0 ttv tt) {tev : TE} (hte : ∀ F, LiftE X.K F ex0 tev te) {gv : TG} (hgv : ∀ F, LiftG X.K F L gv g) {vs : List Nat} (hL : ∀ j ∈ L, j ∈ vs) :
    ∀ F ex, Imp X.K F ex W → LiftE X.K F ex (tLc wi gv ttv tev vs) (tdLc ti g tt te vs) := by
  intro F ex im σ H δ Q Q' d q f
  refine li F ex im σ H δ _ _ d q fun J H1 items bor δ1 d1 e1 s1 w q1 => ?_
  obtain ⟨hdat, P, p0, hP, step, fin⟩ := q1
  intro Dp hD
  -- the frame in which nobody knows the new list
  have hgD : F.G Dp = none := (d1.fresh hD).1
  have nav : ¬ F.av Dp := d1.av_fresh hD
  have sD : Same H1 (upd H1 Dp (.lst [])) := same_new hD
  have dA : Den X.K (F.avd Dp) σ (upd H1 Dp (.lst [])) δ1 := Den.toav (ws := []) (by rw [hide_upd hD]; exact d1) upd_same
  obtain ⟨dW, oW⟩ := dA.wipe vs hdat
  have un0 : ∀ {δ' : List SV}, (∀ j ∈ vs, isDat δ' j) → ∀ j ∈ vs, (wipeD δ' vs)[j]? = some .un := fun {δ'} h j hj => by
    refine (wipeD_get (δ := δ') (j := j) (vs := vs)).2.1 hj ?_
    have z := h j hj
    unfold isDat at z
    cases e : δ'[j]? with
    | none => rw [e] at z; exact z.elim
    | some s => exact lt_of_get e
  have g0 : Grow σ δ1 H1 (L2.wipe σ vs) (wipeD δ1 vs) (upd H1 Dp (.lst [])) := ⟨Ext.of_same sD, fun a z => .inl ((oW a).mp z)⟩
  refine ⟨fun i m H' => m = items.length - i ∧ i ≤ items.length ∧ ∃ δ' acc ws, Den X.K (F.avd Dp) (L2.wipe σ vs) H' δ' ∧ Grow σ δ1 H1 (L2.wipe σ vs) δ' H' ∧ H' Dp = some (.lst ws) ∧ ImAll X.K H' (Ac (F.avd Dp) (L2.wipe σ vs) δ') ws acc ∧ (∀ a, Ow (L2.wipe σ vs) δ' a → Ow σ δ1 a) ∧ P i acc δ',
    ⟨items.length, by simp, Nat.zero_le _, wipeD δ1 vs, [], [], dW, g0, upd_same, .nil, fun a z => (oW a).mp z, p0⟩, ?_⟩
  rintro i m H2 ⟨rfl, hi, δ2, acc, ws, d2, g2, hl2, m2, o2, p2⟩
  obtain ⟨hun, hbor⟩ := hP i acc δ2 p2
  have bor2 : ∀ j, bor = some j → (L2.wipe σ vs)[j]? = σ[j]? ∧ δ2[j]? = δ1[j]? := fun j e => ⟨wipe_out (hbor j e).1, (hbor j e).2⟩
  have forget : ∀ {τ : St} {H' : Hp} {δ' : List SV}, Den X.K (F.avd Dp) τ H' δ' → Den X.K F τ (hide Dp H') δ' := fun z => z.unav hgD nav
  have d2F : Den X.K F (L2.wipe σ vs) H2 δ2 := (forget d2).ext hide_le
  by_cases hlt : i < items.length
  · have hx : items[i]? = some items[i] := List.getElem?_eq_getElem hlt
    have sf : SubF F (F.avd Dp) H1 := fun τ δ' a h1 h2 => ac_avd.mpr ⟨h2, fun z => h1 (by rw [z]; exact hD)⟩
    obtain ⟨go, yl⟩ := w.go (F.avd Dp) i _ H2 δ2 _ sf hx d2 g2 bor2
    refine .inr ⟨go, fun H' => ∃ δ' acc' ws', Den X.K (F.avd Dp) (L2.wipe σ vs) H' δ' ∧ Grow σ δ1 H1 (L2.wipe σ vs) δ' H' ∧ H' Dp = some (.lst ws') ∧ ImAll X.K H' (Ac (F.avd Dp) (L2.wipe σ vs) δ') ws' acc' ∧ (∀ a, Ow (L2.wipe σ vs) δ' a → Ow σ δ1 a) ∧ P (i + 1) acc' δ',
      fun H' h => ⟨items.length - (i + 1), by omega, rfl, hlt, h⟩, fun v H3 y => ?_⟩
    obtain ⟨sm, mi⟩ := yl v H3 y
    have d3 := d2.same sm
    have g3 : Grow σ δ1 H1 (L2.wipe σ vs) δ2 H3 := g2.trans ⟨Ext.of_same sm, fun a h => .inl h⟩
    have m3 : ImAll X.K H3 (Ac (F.avd Dp) (L2.wipe σ vs) δ2) ws acc := m2.ext (O := fun _ => False) (Ext.of_same sm) fun a z => ⟨id, z⟩
    refine hgv (F.avd Dp) _ H3 δ2 v _ _ _ d3 mi (step i _ acc δ2 hx p2) fun σ4 δ4 d4 s4 l4 n4 q4 => ?_
    obtain ⟨dat4, q4⟩ := q4
    have g4 : Grow σ δ1 H1 σ4 δ4 H3 := g3.trans (Grow.sub s4)
    have w4 : L2.wipe σ4 vs = L2.wipe σ vs := wipe_wipe (by rw [l4, wipe_length]) fun j hj => n4 j fun z => hj (hL j z)
    -- the end of a turn
    have endT : ∀ {H' : Hp} {δ' : List SV} {acc' : List PyData} {ws' : List V}, Den X.K (F.avd Dp) σ4 H' δ' → Grow σ δ1 H1 σ4 δ' H' → SameOw σ4 δ4 δ' → H' Dp = some (.lst ws') → ImAll X.K H' (Ac (F.avd Dp) σ4 δ') ws' acc' → (∀ j ∈ vs, isDat δ' j) → P (i + 1) acc' (wipeD δ' vs) →
        ∃ δ'' acc'' ws'', Den X.K (F.avd Dp) (L2.wipe σ vs) H' δ'' ∧ Grow σ δ1 H1 (L2.wipe σ vs) δ'' H' ∧ H' Dp = some (.lst ws'') ∧ ImAll X.K H' (Ac (F.avd Dp) (L2.wipe σ vs) δ'') ws'' acc'' ∧ (∀ a, Ow (L2.wipe σ vs) δ'' a → Ow σ δ1 a) ∧ P (i + 1) acc'' δ'' := by
      intro H' δ' acc' ws' dd gg so hl mm hd pp
      obtain ⟨d5, o5⟩ := dd.wipe vs hd
      rw [w4] at d5 o5
      have o4 : ∀ a, Ow σ4 δ4 a → Ow σ δ1 a := fun a z => o2 a (s4 a z)
      refine ⟨wipeD δ' vs, acc', ws', d5, ⟨gg.1, fun a z => gg.2 a ((o5 a).mp z)⟩, hl, mm.mono (fun _ _ q => q) fun a _ q1 q2 => ⟨q2, fun z => q1.1 ((o5 a).mp z), q1.2⟩, fun a z => o4 a (so a ((o5 a).mp z)), pp⟩
    refine ⟨w4, ?_⟩
    refine htv (F.avd Dp) σ4 H3 δ4 _ _ d4 q4 fun k H5 δ5 d5 e5 s5 q5 => ?_
    obtain ⟨dat5, q5⟩ := q5
    have l4' : ∃ ws4, H3 Dp = some (.lst ws4) := ⟨ws, sm _ _ hl2⟩
    have hl3 : H3 Dp = some (.lst ws) := sm _ _ hl2
    have noD : ∀ {τ : St} {H' : Hp} {δ' : List SV}, Den X.K (F.avd Dp) τ H' δ' → ¬ Ow τ δ' Dp := fun z => (z.avt Dp (.inr rfl)).2
    have m4 : ImAll X.K H3 (Ac (F.avd Dp) σ4 δ4) ws acc := m3.sub s4
    have hl5 : H5 Dp = some (.lst ws) := e5.lst (noD d4) hl3
    have m5 : ImAll X.K H5 (Ac (F.avd Dp) σ4 δ5) ws acc := m4.over e5 s5
    have g5 : Grow σ δ1 H1 σ4 δ5 H5 := g4.trans (Grow.so e5 s5)
    cases k with
    | false =>
      rw [if_neg Bool.false_ne_true] at q5 ⊢
      exact endT d5 g5 s5 hl5 m5 dat5 q5
    | true =>
      rw [if_pos rfl] at q5 ⊢
      refine hte (F.avd Dp) σ4 H5 δ5 _ _ d5 q5 fun yv H6 r δ6 x6 s6 q6 => ?_
      obtain ⟨dat6, hsz, q6⟩ := q6
      have d6 := x6.den
      have hl6 : H6 Dp = some (.lst ws) := x6.ext.lst (noD d5) hl5
      have m6 : ImAll X.K H6 (Ac (F.avd Dp) σ4 δ6) ws acc := m5.over x6.ext s6
      obtain ⟨d7, up1, up2⟩ := d6.avw (ws' := ws ++ [yv]) hl6 hgD
      have extD : ∀ a o, H6 a = some o → a = Dp ∨ upd H6 Dp (.lst (ws ++ [yv])) a = some o := fun a o e => by
        by_cases z : a = Dp
        · exact .inl z
        · exact .inr (by rw [upd_ne z]; exact e)
      have g6 : Grow σ δ1 H1 σ4 δ6 H6 := g5.trans (x6.grow s6)
      have g7 : Grow σ δ1 H1 σ4 δ6 (upd H6 Dp (.lst (ws ++ [yv]))) := ⟨fun a o e => by
        rcases g6.1 a o e with z | z
        · exact .inl z
        · rcases extD a o z with z | z
          · subst z; rw [hD] at e; cases e
          · exact .inr z, g6.2⟩
      refine ⟨ws, hl6, by rw [m6.length]; exact hsz, ?_⟩
      exact endT d7 g7 (s5.trans s6) upd_same ((up2 m6).append (.cons (up1 x6.im) .nil)) dat6 q6
  · have e : i = items.length := by omega
    subst e
    refine .inl ⟨w.stop F _ _ H2 δ2 (Nat.le_refl _) d2F g2 bor2, ?_⟩
    have fr := forget d2
    obtain ⟨dF, oF⟩ := fr.unwipe hun
    have mF : ImAll X.K (hide Dp H2) (Ac F σ δ2) ws acc := (m2.unav hl2).mono (fun _ _ q => q) fun a _ q1 q2 => ⟨q2, fun z => q1.1 ((oF a).mpr z), q1.2⟩
    refine f (.ref Dp) H2 (.own acc) δ2 (.own hl2 dF (fun a o e => ?_) mF hgD) (s1.trans fun a z => o2 a ((oF a).mpr z)) (fin acc δ2 p2)
    rcases e1 a o e with z | z
    · exact .inl z
    · rcases g2.1 a o z with ⟨z1, z2⟩ | z1
      · exact .inl ⟨s1 a z1, z2⟩
      · refine .inr ?_
        rw [hide_ne (fun q => by subst q; rw [hD] at z; cases z)]
        exact z1
end

end DL
namespace DL
open PySem PySem.Spec L2
open PyProof.Rows hiding St

section
variable {X : Cx} {elt tg iter c : Expr} {ifs : List Expr} {scope : Scope} {own : List (Str × Nat)} {pos : Pos} {ti : TDI} {L : List Nat} {g : TDG} {tt : TDT} {te : TD}
def DPT (X : Cx) (ifs : List Expr) (tt : TDT) : Prop := ∃ t, PTs X ifs t ∧ t = ttOf X.K W0 tt
theorem dptN : DPT X [] tYesD := ⟨_, ⟨fun pins s σ H Q I h => by
  obtain ⟨F, ex, δ, Q0, d, im, q, f⟩ := h
  exact pts_nil.run pins s σ H Q I (f true H δ d Ext.refl SameOw.refl q)⟩, rfl⟩
theorem dpt1 (h : DT X c tt) : DPT X [c] tt := ⟨_, pts_one (h.uni takes0), rfl⟩
theorem dlc (hc : X.calm = true) (hN : X.N.Nodup) (hi : DI X tg iter ti) (ok : BlkOk X.N X.env.scope scope own) (hL : ∀ j ∈ L, j ∈ own.map (·.2))
    (hg : ∀ (s : Shared) (H : Hp) (C : Addr) (cl : List (Str × Addr)) (fp : List Addr), DG (X.blk s H scope (compEnvC scope cl C X.env) fp) tg L g)
    (ht : ∀ (s : Shared) (H : Hp) (C : Addr) (cl : List (Str × Addr)) (fp : List Addr), DPT (X.blk s H scope (compEnvC scope cl C X.env) fp) ifs tt)
    (he : ∀ (s : Shared) (H : Hp) (C : Addr) (cl : List (Str × Addr)) (fp : List Addr), DE (X.blk s H scope (compEnvC scope cl C X.env) fp) elt te) (hs : ∀ x, foldedSetIterable iter X.env x = pure x := by intro _; rfl) :
    DE X (.ListComp elt [⟨tg, iter, ifs, 0⟩] scope pos) (tdLc ti g tt te (own.map (·.2))) := fun W tk => by
  obtain ⟨wi, pi, li⟩ := hi W tk
  refine ⟨_, pe_lc (g := gtOf X.K L g) (tt := ttOf X.K W0 tt) (te := teOf X.K W0 te) hc hN pi ok (fun s H C cl fp => (hg s H C cl fp).uni) (fun s H C cl fp => ?_) (fun s H C cl fp => (he s H C cl fp).uni takes0) hs,
    lc_lift li (fun F σ H δ Q Q' d q f => ⟨F, ex0, δ, Q, d, imp0, q, f⟩) (fun F σ H δ Q Q' d q f => ⟨F, ex0, δ, Q, d, imp0, q, f⟩) (fun F σ H δ v x Q Q' d m q f => ⟨F, δ, x, Q, d, m, q, f⟩) hL⟩
  obtain ⟨t, pt, rfl⟩ := ht s H C cl fp
  exact pt
/-- y = [..], stored as it is made -/
theorem dsetLc (i : Nat) {y : Str} {py : Pos} {spos : Pos} (hc : X.calm = true) (hN : X.N.Nodup) (hi : DI X tg iter ti) (ok : BlkOk X.N X.env.scope scope own) (hL : ∀ j ∈ L, j ∈ own.map (·.2))
    (hg : ∀ (s : Shared) (H : Hp) (C : Addr) (cl : List (Str × Addr)) (fp : List Addr), DG (X.blk s H scope (compEnvC scope cl C X.env) fp) tg L g)
    (ht : ∀ (s : Shared) (H : Hp) (C : Addr) (cl : List (Str × Addr)) (fp : List Addr), DPT (X.blk s H scope (compEnvC scope cl C X.env) fp) ifs tt)
    (he : ∀ (s : Shared) (H : Hp) (C : Addr) (cl : List (Str × Addr)) (fp : List Addr), DE (X.blk s H scope (compEnvC scope cl C X.env) fp) elt te)
    (hsw : swapsWith (.ListComp elt [⟨tg, iter, ifs, 0⟩] scope pos) (some (.Name y py)) spos.line X.env = pure true) (hy : X.N[i]? = some y := by rfl) (hyl : X.env.scope.names.lookup y = some .local := by rfl) (hs : ∀ x, foldedSetIterable iter X.env x = pure x := by intro _; rfl) :
    DS X (.Assign [.Name y py] (.ListComp elt [⟨tg, iter, ifs, 0⟩] scope pos) spos) (tdSet i (tdLc ti g tt te (own.map (·.2)))) := fun W tk => by
  obtain ⟨wi, pi, li⟩ := hi W tk
  refine ⟨_, ps_setLc (g := gtOf X.K L g) (tt := ttOf X.K W0 tt) (te := teOf X.K W0 te) hc hN hy hyl hsw pi ok (fun s H C cl fp => (hg s H C cl fp).uni) (fun s H C cl fp => ?_) (fun s H C cl fp => (he s H C cl fp).uni takes0) hs, fun F ex im σ H δ D D' d q f => ?_⟩
  · obtain ⟨t, pt, rfl⟩ := ht s H C cl fp
    exact pt
  · have le := lc_lift (g := g) (tt := tt) (te := te) li (ttv := ttOf X.K W0 tt) (tev := teOf X.K W0 te) (gv := gtOf X.K L g) (fun F σ H δ Q Q' d q f => ⟨F, ex0, δ, Q, d, imp0, q, f⟩) (fun F σ H δ Q Q' d q f => ⟨F, ex0, δ, Q, d, imp0, q, f⟩) (fun F σ H δ v x Q Q' d m q f => ⟨F, δ, x, Q, d, m, q, f⟩) hL
    refine le F ex im σ H δ _ _ d q fun v H' r δ' x s q => ?_
    obtain ⟨d1, g1⟩ := x.put s q.1
    exact f.nx _ H' _ d1 g1 q.2
end

/-! ### exceptions -/
/-- an own exception class without fields -/
structure ExcD (K : PySem.W.Frag) (mg : Str → Option Value) (x : Str) (C : Addr) : Prop where
  g : mg x = some (.ref C)
  q : PySem.W.excIn K C [.type "ValueError", .type "Exception", .type "BaseException", .type "object"] "ValueError.__new__" = true
  k : PySem.W.keepIn K (.ref C) = true
  b : PySem.W.subIn K (.ref C) (.type "BaseException") = some true
  t : PySem.W.typeIn K (.ref C) = some (.type "type")
  e : PySem.W.exmOne K (.ref C) (.ref C) = some true
section
variable {X : Cx} {C : Addr} {x : Str} {p pos : Pos}
theorem pmk_none (E : ExcD X.K X.mg x C) (hg : Gl X x) (hdb : (x == ("__debug__" : Str)) = false := by decide) : PMk X (.Call (.Name x p) [] [] pos) (fun _ H Q => Q (.ref C) none H) := by
  intro pins s σ H Q I h
  refine wpAny_Call_Name_kw (ld_glob I hg E.g ?_ hdb)
  refine PySem.W.callWith_K0 I.kIn E.k ?_
  obtain ⟨bm, N, nm, qn, bs, hdct, sn, sub, ab, col, dd, k0, k1, k2, k3, k5, mN, hC, hN, hni, T⟩ := exc_obj I.kIn E.q
  exact wpAny_call_exc_subT (rest := []) PySem.F.excBase_ValueError T hC hN hni (fun h' e hm => mk_of I hm (raises_own E.b E.t) h (I.hok.gone hm.new)) (Nat.zero_le _)
def tdRaise (C : Addr) : TDS := fun ex _ δ => ex (.ref C) δ
theorem draise (hc : X.calm = true) (E : ExcD X.K X.mg x C) (hg : Gl X x := by rfl) (hdb : (x == ("__debug__" : Str)) = false := by decide) : DS X (.Raise (some (.Call (.Name x p) [] [] pos)) none pos) (tdRaise C) := fun W tk =>
  ⟨_, ps_raise hc tk (pmk_none E hg hdb), fun F ex im σ H δ D D' d q f => im (.ref C) none σ H ⟨δ, d, q⟩⟩
theorem draise' {p3 : Pos} (hc : X.calm = true) (E : ExcD X.K X.mg x C) (hg : Gl X x := by rfl) (hdb : (x == ("__debug__" : Str)) = false := by decide) : DS X (.Raise (some (.Call (.Name x p) [] [] pos)) none p3) (tdRaise C) := fun W tk =>
  ⟨_, ps_raise hc tk (pmk_none E hg hdb), fun F ex im σ H δ D D' d q f => im (.ref C) none σ H ⟨δ, d, q⟩⟩
/-- try: f(..) .. except x: suite; only the call may raise -/
def tdTryC (C : Addr) (n : Nat) (sp : SpD) (ta : TDA) (t u : TDS) : TDS := fun _ D δ => ta ex0 δ fun xs δ1 => xs.length = n ∧ sp xs (fun _ => t ex0 D δ1) fun cls => cls = .ref C ∧ u ex0 D δ1
theorem dtryC {rest suite : List Stmt} {b0 : Stmt} {np pos' fp cpos epos : Pos} {t u : TDS} {y : Str} {k : Nat} {ps : List Str} {sp : SpD} {ta : TDA} {e : Expr} {es : List Expr} (hs : X.stack = X.env :: X.outer) (hf : X.env.frame = some X.env.locals) (E : ExcD X.K X.mg x C)
    (Fn : FnD X.prog X.w X.K X.mg X.base y k ps sp) (hr : Room k X.A) (ha : ∀ (pn : List (Addr × Obj)) (xe : Value → Shared → Prop), DA (X.tr pn xe) (e :: es) ta)
    (hb : ∀ (pn : List (Addr × Obj)) (xe : Value → Shared → Prop), PassesOwn (model X.prog X.w) X.A X.env xe → DSs (X.tr pn xe) rest t) (hu : ∀ (a : Addr) (pn : List (Addr × Obj)), DSs (X.suite a pn) (b0 :: suite) u)
    (hg : Gl X x := by rfl) (hdb : (x == ("__debug__" : Str)) = false := by decide) (hgy : Gl X y := by rfl) (hdy : (y == ("__debug__" : Str)) = false := by decide) (he : starEach (e :: es) X.env = (false, eval e X.env) :: starEach es X.env := by rfl) (hpl : (backTo cpos (starEach es X.env)).any (·.1) = false := by rfl)
    (hsw : swapsWith (.Call (.Name y fp) (e :: es) [] cpos) none epos.line X.env = pure false := by rfl) :
    DS X (.Try (.Expr (.Call (.Name y fp) (e :: es) [] cpos) epos :: rest) [.ExceptHandler (some (.Name x np)) none (b0 :: suite) pos'] [] [] pos) (tdTryC C ps.length sp ta t u) := fun W tk => by
  let tb : WX → TS := fun V D' σ H => ∃ F D δ, Den X.K F σ H δ ∧ tdTryC C ps.length sp ta t u ex0 D δ ∧ EndsOk X.K F σ H δ D D' ∧ ∀ cls d H' δ1, cls = .ref C → Den X.K F σ H' δ1 → Grow σ δ H σ δ1 H' → u ex0 D δ1 → V cls d σ H'
  let tu : Addr → Value → Option Addr → TS := fun _ _ _ D' σ H => ∃ F D δ, Den X.K F σ H δ ∧ u ex0 D δ ∧ EndsOk X.K F σ H δ D D'
  refine ⟨_, ps_try_only (tb := tb) (ts := tu) (Wout := W) hs hf ⟨hg, hdb, .inl E.g⟩ tk (fun V pn xe tk' po => ?_) (fun a oe cls d pn _ _ => ?_), fun F ex im σ H δ D D' d q f => ?_⟩
  · obtain ⟨te, pa, la⟩ := ha pn xe V tk'
    obtain ⟨ts, ps', ls⟩ := hb pn xe po V tk'
    obtain ⟨fa, fd, fo, hm, hk, hbd⟩ := Fn.ex
    refine ⟨fun pins s σ H D' I hh => ?_⟩
    obtain ⟨F, D, δ, d, q, f, g⟩ := hh
    have im0 : Imp X.K F ex0 V := fun _ _ _ _ ⟨_, _, z⟩ => z.elim
    refine (pss_cons (ps_expr (pe_callS (X := X.tr pn xe) fo hr hgy hm hk hbd (fun τ => passAt tk' τ) pa hdy he hpl) hsw) ps').run pins s σ H D' I ?_
    refine la F ex0 im0 σ H δ _ _ d q fun vs H1 xs δ1 d1 e1 m1 s1 q1 => ?_
    refine ⟨by rw [m1.length]; exact q1.1, xs, Ac F σ δ1, _, _, m1, q1.2, fun r hr H' v s c => ?_, fun cls hc d0 H' s => ?_⟩
    · have x := call_res d1 e1 s c
      exact ls F ex0 im0 σ H' δ1 D D' x.den hr (f.on (x.grow s1))
    · have g1 : Grow σ δ H σ δ1 H' := (Grow.so e1 s1).trans ⟨Ext.of_same s, fun a h => .inl h⟩
      exact g cls d0 H' δ1 hc.1 (d1.same s) g1 hc.2
  · obtain ⟨ts, ps', ls⟩ := hu a ((a, oe) :: pn) W0 takes0
    refine ⟨fun pins s σ H D' I hh => ?_⟩
    obtain ⟨F, D, δ, d, q, f⟩ := hh
    exact ps'.run pins s σ H D' I (ls F ex0 imp0 σ H δ D D' d q f)
  · refine ⟨F, D, δ, d, q, f, ?_⟩
    rintro cls dd H' δ1 rfl d1 g1 q1
    exact ⟨true, E.e, fun _ a _ => ⟨F, D, δ1, d1, q1, f.on g1⟩, fun z => nomatch z⟩
end
end DL
namespace DL
open PySem PySem.Spec L2
open PyProof.Rows hiding St

/-! ### defs of the program -/
/-- the def st stands in the text's top, bound to its name -/
structure TopF (K : PySem.W.Frag) (mg : Str → Option Value) (x : Str) (st : Stmt) : Prop where
  ex : ∃ f fd, Fun K x x st f fd ∧ mg x = some (.ref f)
def startD (N : List Str) (ds : List D) : List SV := ds.map .d ++ List.replicate (N.length - ds.length) .un
/-- the frame of a def that changes no argument -/
def fm0 (H : Hp) (A0 : Addr → Prop) : Fm := ⟨H, [], A0, fun _ => False⟩
theorem startD_get {N : List Str} {ds : List D} {i : Nat} {s : SV} (h : (startD N ds)[i]? = some s) : (∃ x, ds[i]? = some x ∧ s = .d x) ∨ s = .un := by
  unfold startD at h
  by_cases hi : i < ds.length
  · rw [List.getElem?_append_left (by simpa using hi), List.getElem?_map, List.getElem?_eq_getElem hi] at h
    exact .inl ⟨ds[i], List.getElem?_eq_getElem hi, (Option.some.inj h).symm⟩
  · rw [List.getElem?_append_right (by simpa using hi), List.getElem?_replicate] at h
    split at h
    · exact .inr (Option.some.inj h).symm
    · cases h
theorem den_start {K : PySem.W.Frag} {H : Hp} {A0 : Addr → Prop} {N : List Str} {vs : List V} {ds : List D} (m : ImAll K H A0 vs ds) : Den K (fm0 H A0) (start N vs) H (startD N ds) := by
  have noO : ∀ {i : Nat} {xs : List D}, ¬ Owns (startD N ds) i xs := fun {i xs} z => by
    rcases z with z | z <;> (rcases startD_get z with ⟨x, _, e⟩ | e <;> cases e)
  have noW : ∀ a, ¬ Ow (start N vs) (startD N ds) a := fun a ⟨i, xs, h, _⟩ => noO h
  refine ⟨?_, fun i x e => ?_, fun i xs e => (noO e).elim, fun i xs a e _ => (noO (.inl e)).elim, fun i xs a e _ => (noO (.inr e)).elim, fun p hp => (nomatch hp), fun i j a xs ys h _ _ _ => (noO h).elim, fun a o e => .inr e, fun a z => z.elim⟩
  · unfold startD L2.start
    simp [m.length]
  · rcases startD_get e with ⟨y, e1, e2⟩ | e2
    · cases e2
      obtain ⟨v, h1, h2⟩ := m.get e1
      refine ⟨v, ?_, h2.mono (fun _ _ q => q) fun a _ q1 q2 => ⟨q2, noW a, id, .inl q1⟩⟩
      unfold L2.start
      rw [List.getElem?_append_left (by simpa using lt_of_get h1), List.getElem?_map, h1]
      rfl
    · cases e2
theorem callOk_of {K : PySem.W.Frag} {H H' H0 : Hp} {A0 : Addr → Prop} {σ : St} {δ : List SV} {O : Addr → Prop} {v : V} {r : SV} (x : Res K (fm0 H A0) σ O H0 δ H' v r) : Same H H' ∧ CallOk K A0 H H' v r := by
  have d := x.den
  refine ⟨fun a o e => (d.keep a o e).elim (fun ⟨_, z⟩ => nomatch z) id, ?_⟩
  cases x with
  | d a b c => exact c.mono (fun _ _ q => q) fun a _ q1 q2 => ⟨q2, q1.2.2⟩
  | own a b c dd g => exact ⟨_, _, rfl, a, g, dd.mono (fun _ _ q => q) fun a _ q1 q2 => ⟨q2, q1.2.2⟩⟩
section
variable {P : Program} {w : World} {K : PySem.W.Frag} {mg : Str → Option Value} {base : Heap}
/-- THE RULE for a def -/
theorem okD {x : Str} {st : Stmt} {N ps : List Str} {k : Nat} {sp : SpD} (T : TopF K mg x st) (S : FnScope N ps (defScope st))
    (hb : ∀ (kV doc pm : Value) (an : Option Addr) (cdv ct : Value) (us : List Value), us.length = ps.length → bindArgs (PySem.W.fnOf x x (defArgs st) (defBody st) (defScope st) .none kV doc pm an cdv ct) ⟨us, []⟩ = pure (ps.zip us))
    (body : ∀ (f : Addr) (cdv : Value) (A : Around) (outer : List Env) (s : Shared) (H : Hp) (E : XK), Room k (A.deeper (envOfC x (defScope st) s.heap.objs.size f cdv)) →
      ∃ t, DSs (cxOf (L2.CX P w) P w K mg base N x (defScope st) f cdv A outer s H E) (defBody st) t ∧ ∀ ds Q X, sp ds Q X → ds.length = ps.length → t (fun cls _ => X cls) { nx := fun _ => Q (.d .none), rt := fun r _ => Q r } (startD N ds)) : FnD P w K mg base x (k + 1) ps sp := by
  obtain ⟨f, fd, F, hm⟩ := T.ex
  refine ⟨f, fd, ?_, hm, F.kp, F.binds hb⟩
  refine F.okX S (fun vs H Q E h => h.1) fun cdv A outer s H vs Q E hr h => ?_
  obtain ⟨hl, ds, A0, Q0, E0, m, hsp, hQ, hE⟩ := h
  obtain ⟨t, hd, hrd⟩ := body f cdv A outer s H E hr
  have tk : Takes (cxOf (L2.CX P w) P w K mg base N x (defScope st) f cdv A outer s H E) (fun cls d _ H' => E cls d H') := takes_of rfl rfl rfl rfl
  obtain ⟨ts, ps', ls⟩ := hd _ tk
  refine ⟨ts, ps', ?_⟩
  have d0 := den_start (N := N) m
  refine ls (fm0 H A0) (fun cls _ => E0 cls) (fun cls d σ H' hh => ?_) (start N vs) H (startD N ds) _ _ d0 (hrd ds Q0 E0 hsp (by rw [← m.length]; exact hl)) ⟨fun σ' H' δ' d' g q => ?_, fun _ _ _ _ _ z => z.elim, fun _ _ _ _ _ z => z.elim, fun v H' r σ' δ' O H0 x q => ?_⟩
  · obtain ⟨δ', d', q⟩ := hh
    exact hE cls q d H' fun a o e => (d'.keep a o e).elim (fun ⟨_, z⟩ => nomatch z) id
  · obtain ⟨s1, c1⟩ := callOk_of (r := .d .none) (.d d' (Ext.refl (O := fun _ => False)) .non)
    exact hQ _ q H' _ s1 c1
  · obtain ⟨s1, c1⟩ := callOk_of x
    exact hQ _ q H' _ s1 c1
end

/-! ### defs that change their first argument, a list -/
abbrev SpB := List D → List D → (D → List D → Prop) → Prop
def toSpB (K : PySem.W.Frag) (n : Nat) (sp : SpB) : Sp := fun vs H Q _ => vs.length = n ∧ ∃ p ws bag vs' ds A0 Q0, vs = .ref p :: vs' ∧ H p = some (.lst ws) ∧ ¬ A0 p ∧ ImAll K H A0 ws bag ∧ ImAll K H A0 vs' ds ∧ sp bag ds Q0 ∧
  ∀ y bag', Q0 y bag' → ∀ H' v ws', (∀ a o, H a = some o → a ≠ p → H' a = some o) → H' p = some (.lst ws') → ImAll K H' (fun a => A0 a ∨ H a = none) ws' bag' → Im K H' (fun a => A0 a ∨ H a = none) v y → Q v H'
structure FnB (P : Program) (w : World) (K : PySem.W.Frag) (mg : Str → Option Value) (base : Heap) (x : Str) (k : Nat) (ps : List Str) (sp : SpB) : Prop where
  ex : ∃ f fd, FnOk P w K mg base (L2.CX P w) k f fd ps (toSpB K ps.length sp) ∧ mg x = some (.ref f) ∧ PySem.W.keepIn K (.ref f) = true ∧ Binds K fd ps []
section
variable {X : Cx} {e : Expr} {es : List Expr} {pos p p0 : Pos}
/-- f(x, ..), x a list of the frame's own, that f changes -/
def tCalB (i n : Nat) (sp : SpB) (t : TDA) : TD := fun ex δ Q => (∃ xs, Owns δ i xs) ∧ t ex δ fun xs δ1 => xs.length + 1 = n ∧ ∃ bag, Owns δ1 i bag ∧ sp bag xs fun y bag' => Q (.d y) (setO δ1 i bag')
theorem dcallB (i : Nat) {x y : Str} {k : Nat} {ps : List Str} {sp : SpB} {t : TDA} (Fn : FnB X.prog X.w X.K X.mg X.base x k ps sp) (hr : Room k X.A) (h : DA X es t) (hN : X.N[i]? = some y := by rfl)
    (hv : Vis X.env.scope y := by first | exact Or.inl rfl | exact Or.inr (Or.inl rfl) | exact Or.inr (Or.inr rfl)) (hd : (y == ("__debug__" : Str)) = false := by decide) (hcd : (y == ("__classdict__" : Str)) = false := by decide)
    (hg : Gl X x := by rfl) (hdb : (x == ("__debug__" : Str)) = false := by decide) (he : starEach (.Name y p0 :: es) X.env = (false, eval (.Name y p0) X.env) :: starEach es X.env := by rfl) (hpl : (backTo pos (starEach es X.env)).any (·.1) = false := by rfl) :
    DE X (.Call (.Name x p) (.Name y p0 :: es) [] pos) (tCalB i ps.length sp t) := fun W tk => by
  obtain ⟨te, pa, la⟩ := h W tk
  obtain ⟨f, fd, fo, hm, hk, hb⟩ := Fn.ex
  refine ⟨_, pe_callS fo hr hg hm hk hb (fun σ => passAt tk σ) (pa_cons (pe_var hN hv hd hcd) pa he) hdb he hpl, fun F ex im σ H δ Q Q' d q g => ?_⟩
  obtain ⟨⟨xs0, ho⟩, q⟩ := q
  obtain ⟨a, ws0, e1, _, _⟩ := d.own i xs0 ho
  refine ⟨_, e1, la F ex im σ H δ _ _ d q fun vs H1 xs δ1 d1 x1 m1 s1 q1 => ?_⟩
  obtain ⟨hl, bag, ob, hsp⟩ := q1
  obtain ⟨a', ws, f1, f2, f3⟩ := d1.own i bag ob
  rw [e1] at f1; cases f1
  have oa : Ow σ δ1 a := ⟨i, bag, ob, e1⟩
  refine ⟨by rw [List.length_cons, m1.length]; exact hl, a, ws, bag, vs, xs, Ac F σ δ1, _, rfl, f2, fun z => z.1 oa, f3, m1, hsp, fun yv bag' hq H' v ws' hk' hp' mb mv => ?_⟩
  have cl : ∀ {b : Addr}, (Ac F σ δ1 b ∨ H1 b = none) → Ac F σ δ1 b := fun z => z.elim id fun z => d1.ac_fresh z
  obtain ⟨d2, x2⟩ := d1.wr (ys := bag') ob e1 hk' hp' (mb.mono (fun _ _ q => q) fun b _ q1 q2 => ⟨q2, cl q1⟩)
  have so := ow_setO (σ := σ) (xs := bag') ob
  refine g v H' (.d yv) _ (.d d2 (x1.on s1 x2) (mv.mono (fun _ _ q => q) fun b _ q1 q2 => ⟨q2, ac_mono so b (cl q1)⟩)) (s1.trans so) hq
end
def startB (N : List Str) (bag ds : List D) : List SV := .io bag :: (ds.map .d ++ List.replicate (N.length - (ds.length + 1)) .un)
def fmB (H : Hp) (A0 : Addr → Prop) (p : Addr) : Fm := ⟨H, [(0, p)], A0, fun _ => False⟩
theorem startB_get {N : List Str} {bag ds : List D} {i : Nat} {s : SV} (h : (startB N bag ds)[i]? = some s) : (i = 0 ∧ s = .io bag) ∨ (∃ j x, i = j + 1 ∧ ds[j]? = some x ∧ s = .d x) ∨ s = .un := by
  cases i with
  | zero => exact .inl ⟨rfl, (Option.some.inj h).symm⟩
  | succ j =>
    have h : (ds.map SV.d ++ List.replicate (N.length - (ds.length + 1)) .un)[j]? = some s := h
    by_cases hj : j < ds.length
    · rw [List.getElem?_append_left (by simpa using hj), List.getElem?_map, List.getElem?_eq_getElem hj] at h
      exact .inr (.inl ⟨j, ds[j], rfl, List.getElem?_eq_getElem hj, (Option.some.inj h).symm⟩)
    · rw [List.getElem?_append_right (by simpa using hj), List.getElem?_replicate] at h
      split at h
      · exact .inr (.inr (Option.some.inj h).symm)
      · cases h
theorem den_startB {K : PySem.W.Frag} {H : Hp} {A0 : Addr → Prop} {N : List Str} {p : Addr} {ws vs : List V} {bag ds : List D} (hN : 0 < N.length) (hp : H p = some (.lst ws)) (ha : ¬ A0 p) (mb : ImAll K H A0 ws bag) (m : ImAll K H A0 vs ds) (hl : vs.length + 1 ≤ N.length) :
    Den K (fmB H A0 p) (start N (.ref p :: vs)) H (startB N bag ds) := by
  have z0 : (start N (.ref p :: vs))[0]? = some (some (.ref p)) := by unfold L2.start; rfl
  have own0 : ∀ {i : Nat} {xs : List D}, Owns (startB N bag ds) i xs → i = 0 ∧ xs = bag := fun {i xs} z => by
    rcases z with z | z <;> rcases startB_get z with ⟨e1, e2⟩ | ⟨j, x, _, _, e2⟩ | e2 <;> cases e2
    exact ⟨e1, rfl⟩
  have ow0 : ∀ a, Ow (start N (.ref p :: vs)) (startB N bag ds) a → a = p := fun a ⟨i, xs, h1, h2⟩ => by
    obtain ⟨rfl, _⟩ := own0 h1
    rw [z0] at h2; cases h2; rfl
  have ac : ∀ a, A0 a → Ac (fmB H A0 p) (start N (.ref p :: vs)) (startB N bag ds) a := fun a h => ⟨fun z => ha (ow0 a z ▸ h), id, .inl h⟩
  refine ⟨?_, fun i x e => ?_, fun i xs e => ?_, fun i xs a e _ => ?_, fun i xs a e1 e2 => ?_, fun q hq => ?_, fun i j a xs ys h1 h2 _ _ => (own0 h1).1.trans (own0 h2).1.symm, fun a o e => .inr e, fun a z => z.elim⟩
  · unfold startB L2.start
    have := m.length
    simp only [List.length_cons, List.length_append, List.length_map, List.length_replicate]
    omega
  · rcases startB_get e with ⟨_, e2⟩ | ⟨j, y, rfl, e1, e2⟩ | e2
    · cases e2
    · cases e2
      obtain ⟨v, h1, h2⟩ := m.get e1
      refine ⟨v, ?_, h2.mono (fun _ _ q => q) fun a _ q1 q2 => ⟨q2, ac a q1⟩⟩
      unfold L2.start
      have := lt_of_get h1
      rw [List.getElem?_append_left (by simp; omega), List.getElem?_map, List.getElem?_cons_succ, h1]
      rfl
    · cases e2
  · obtain ⟨rfl, rfl⟩ := own0 e
    exact ⟨p, ws, z0, hp, mb.mono (fun _ _ q => q) fun a _ q1 q2 => ⟨q2, ac a q1⟩⟩
  · rcases startB_get e with ⟨_, e2⟩ | ⟨j, y, _, _, e2⟩ | e2 <;> cases e2
  · obtain ⟨rfl, _⟩ := own0 (.inr e1)
    rw [z0] at e2; cases e2
    exact List.mem_singleton.mpr rfl
  · have e := List.mem_singleton.mp hq
    subst e
    exact ⟨z0, bag, rfl⟩
section
variable {P : Program} {w : World} {K : PySem.W.Frag} {mg : Str → Option Value} {base : Heap}
/-- THE RULE for such a def: at its end the first slot holds what the list has become -/
theorem okB {x : Str} {st : Stmt} {N ps : List Str} {k : Nat} {sp : SpB} (T : TopF K mg x st) (S : FnScope N ps (defScope st))
    (hb : ∀ (kV doc pm : Value) (an : Option Addr) (cdv ct : Value) (us : List Value), us.length = ps.length → bindArgs (PySem.W.fnOf x x (defArgs st) (defBody st) (defScope st) .none kV doc pm an cdv ct) ⟨us, []⟩ = pure (ps.zip us)) (hps : ps.length ≤ N.length)
    (body : ∀ (f : Addr) (cdv : Value) (A : Around) (outer : List Env) (s : Shared) (H : Hp) (E : XK), Room k (A.deeper (envOfC x (defScope st) s.heap.objs.size f cdv)) →
      ∃ t, DSs (cxOf (L2.CX P w) P w K mg base N x (defScope st) f cdv A outer s H E) (defBody st) t ∧ ∀ bag ds Q, sp bag ds Q → ds.length + 1 = ps.length → t ex0 { nx := fun _ => False, rt := fun r δ => ∃ bag', δ[0]? = some (.io bag') ∧ Q r.asD bag' } (startB N bag ds)) : FnB P w K mg base x (k + 1) ps sp := by
  obtain ⟨f, fd, F, hm⟩ := T.ex
  refine ⟨f, fd, ?_, hm, F.kp, F.binds hb⟩
  refine F.okX S (fun vs H Q E h => h.1) fun cdv A outer s H vs Q E hr h => ?_
  obtain ⟨hl, p, ws, bag, vs', ds, A0, Q0, rfl, hp, ha, mb, m, hsp, hQ⟩ := h
  obtain ⟨t, hd, hrd⟩ := body f cdv A outer s H E hr
  have tk : Takes (cxOf (L2.CX P w) P w K mg base N x (defScope st) f cdv A outer s H E) (fun cls d _ H' => E cls d H') := takes_of rfl rfl rfl rfl
  obtain ⟨ts, ps', ls⟩ := hd _ tk
  refine ⟨ts, ps', ?_⟩
  rw [List.length_cons] at hl
  have d0 := den_startB (N := N) (by omega) hp ha mb m (by omega)
  refine ls (fmB H A0 p) ex0 (fun cls d σ H' ⟨_, _, z⟩ => z.elim) (start N (.ref p :: vs')) H (startB N bag ds) _ _ d0 (hrd bag ds Q0 hsp (by rw [← m.length]; exact hl)) ⟨fun _ _ _ _ _ z => z.elim, fun _ _ _ _ _ z => z.elim, fun _ _ _ _ _ z => z.elim, fun v H' r σ' δ' O H0 x q => ?_⟩
  obtain ⟨bag', h0, q⟩ := q
  have d := x.den
  obtain ⟨h1, _⟩ := d.mio (0, p) (List.mem_singleton.mpr rfl)
  obtain ⟨p', ws', f1, f2, f3⟩ := d.own 0 bag' (.inr h0)
  rw [h1] at f1; cases f1
  refine hQ _ bag' q H' v ws' (fun a o e ne => ?_) f2 (f3.mono (fun _ _ q => q) fun a _ q1 q2 => ⟨q2, q1.2.2⟩) (x.im.mono (fun _ _ q => q) fun a _ q1 q2 => ⟨q2, q1.2.2⟩)
  rcases d.keep a o e with ⟨i, z⟩ | z
  · have e' := List.mem_singleton.mp z
    cases e'
    exact absurd rfl ne
  · exact z
end
end DL
namespace DL
open PySem PySem.Spec L2
open PyProof.Rows hiding St

/-! ### a, b = x, y -/
section
variable {K : PySem.W.Frag} {F : Fm} {σ : St} {H : Hp} {δ : List SV}
/-- a result laid by, while others are reckoned: in the frame F' nobody knows it -/
inductive Laid (K : PySem.W.Frag) (F : Fm) (σ : St) : Fm → Hp → List SV → V → SV → Prop
  | d {H : Hp} {δ : List SV} {v : V} {x : D} : Im K H (Ac F σ δ) v x → Laid K F σ F H δ v (.d x)
  | own {H : Hp} {δ : List SV} {p : Addr} {vs : List V} {xs : List D} : H p = some (.lst vs) → ImAll K H (Ac (F.avd p) σ δ) vs xs → F.G p = none → ¬ F.av p → Laid K F σ (F.avd p) H δ (.ref p) (.own xs)
theorem Res.lay {O : Addr → Prop} {H0 : Hp} {v : V} {r : SV} (x : Res K F σ O H0 δ H v r) : ∃ F', Laid K F σ F' H δ v r ∧ Den K F' σ H δ ∧ (F' = F ∨ ∃ p, F' = F.avd p) := by
  cases x with
  | d a b c => exact ⟨F, .d c, a, .inl rfl⟩
  | own a b c d g => exact ⟨_, .own a d.toav g (b.av_fresh hide_same), b.toav a, .inr ⟨_, rfl⟩⟩
theorem Laid.grow {F' : Fm} {σ' : St} {H' : Hp} {δ' : List SV} {v : V} {r : SV} (x : Laid K F σ F' H δ v r) (d : Den K F' σ H δ) (g : Grow σ δ H σ' δ' H') : Laid K F σ' F' H' δ' v r := by
  cases x with
  | d c => exact .d (c.grow g)
  | own a c h n => exact .own (g.1.lst (d.avt _ (.inr rfl)).2 a) (c.grow g) h n
theorem Den.forget {p : Addr} (d : Den K (F.avd p) σ H δ) : Den K F σ H δ := by
  have ac : ∀ a, Ac (F.avd p) σ δ a → Ac F σ δ a := fun a z => (ac_avd.mp z).1
  refine ⟨d.len, fun i x e => ?_, fun i xs e => ?_, d.fre, d.iom, d.mio, d.one, d.keep, fun a z => d.avt a (.inl z)⟩
  · obtain ⟨v, e1, e2⟩ := d.dat i x e
    exact ⟨v, e1, e2.mono (fun _ _ q => q) fun a _ q1 q2 => ⟨q2, ac a q1⟩⟩
  · obtain ⟨a, vs, e1, e2, e3⟩ := d.own i xs e
    exact ⟨a, vs, e1, e2, e3.mono (fun _ _ q => q) fun a _ q1 q2 => ⟨q2, ac a q1⟩⟩
theorem Res.newO {O : Addr → Prop} {H0 : Hp} {a : Addr} {xs : List D} (x : Res K F σ O H0 δ H (.ref a) (.own xs)) : O a ∨ H0 a = none := by
  cases x with
  | own h1 h2 e h4 h5 =>
    cases q : H0 a with
    | none => exact .inr rfl
    | some o =>
      rcases e a o q with ⟨w, _⟩ | w
      · exact .inl w
      · rw [hide_same] at w; cases w
/-- it is put into a slot -/
theorem Laid.put {F' : Fm} {v : V} {r : SV} (x : Laid K F σ F' H δ v r) (d : Den K F' σ H δ) {i : Nat} (hi : noIo δ i) : Den K F (σ.set i (some v)) H (δ.set i r) ∧ ∀ a, Ow (σ.set i (some v)) (δ.set i r) a → Ow σ δ a ∨ (v = .ref a ∧ ∃ xs, r = .own xs) := by
  cases x with
  | d c =>
    obtain ⟨d1, sub⟩ := d.put0 (s := .d _) (v := some v) hi (fun _ => ⟨(by intro z; cases z), (by intro z; cases z)⟩) (fun x e => by cases e; exact ⟨v, rfl, c⟩)
    exact ⟨d1, fun a z => .inl (sub a z)⟩
  | own a c g n =>
    obtain ⟨d1, sub⟩ := (d.unav g n).putO hi a (c.unav a) g
    exact ⟨d1, fun b z => (sub b z).imp id fun q => ⟨by rw [q], _, rfl⟩⟩
end
section
variable {X : Cx} {a b c : Expr} {pos : Pos}
def tdPar (i j : Nat) (ta tb : TD) : TDS := fun ex D δ => ta ex δ fun r δ1 => tb ex δ1 fun r2 δ2 => noIo δ2 i ∧ noIo δ2 j ∧ D.nx ((δ2.set i r).set j r2)
theorem noIo_set {δ : List SV} {i j : Nat} {r : SV} (h : noIo δ j) (hr : ∀ xs, r ≠ .io xs) : noIo (δ.set i r) j := by
  unfold noIo
  by_cases e : i = j
  · subst e
    rw [List.getElem?_set_self h.lt]
    cases r with
    | io xs => exact absurd rfl (hr xs)
    | _ => trivial
  · rw [List.getElem?_set_ne e]
    exact h
theorem dpar (i j : Nat) {x y : Str} {px py pt : Pos} {kt k2 : Nat} {pt2 : Pos} {ta tb : TD} (hc : X.calm = true) (hN : X.N.Nodup) (ha : DE X a ta) (hb : DE X b tb) (hi : X.N[i]? = some x := by rfl) (hj : X.N[j]? = some y := by rfl) (hij : i ≠ j := by decide)
    (hx : X.env.scope.names.lookup x = some .local := by rfl) (hy : X.env.scope.names.lookup y = some .local := by rfl) (hs1 : starEach (a :: [b]) X.env = (false, eval a X.env) :: starEach [b] X.env := by rfl) (hs2 : starEach (b :: []) X.env = (false, eval b X.env) :: starEach [] X.env := by rfl)
    (hw : swappedStores [.Tuple [.Name x px, .Name y py] kt pt] (.Tuple [a, b] k2 pt2) X.env = pure (some [x, y]) := by rfl) (hs : swapsWithSole [.Tuple [.Name x px, .Name y py] kt pt] (.Tuple [a, b] k2 pt2) pos.line X.env = pure false := by rfl) :
    DS X (.Assign [.Tuple [.Name x px, .Name y py] kt pt] (.Tuple [a, b] k2 pt2) pos) (tdPar i j ta tb) := fun W tk => by
  obtain ⟨te, pe, le⟩ := ha W tk
  obtain ⟨ue, pu, lu⟩ := hb W tk
  refine ⟨_, ps_par hc hN hi hj hij hx hy (pa_cons pe (pa_cons pu pa_nil hs2) hs1) hw hs, fun F ex im σ H δ D D' d q f => ?_⟩
  refine le F ex im σ H δ _ _ d q fun v H1 r δ1 x1 s1 q1 => ?_
  obtain ⟨F', l1, d1, hF⟩ := x1.lay
  have im' : Imp X.K F' ex W := fun cls dd σ' H' ⟨δ', d', z⟩ => by
    rcases hF with rfl | ⟨p, rfl⟩
    · exact im cls dd σ' H' ⟨δ', d', z⟩
    · exact im cls dd σ' H' ⟨δ', d'.forget, z⟩
  refine lu F' ex im' σ H1 δ1 _ _ d1 q1 fun w H2 r2 δ2 x2 s2 q2 => ?_
  obtain ⟨ni, nj, q2⟩ := q2
  have hr2 : ∀ xs, r2 ≠ .io xs := fun xs z => by subst z; cases x2
  obtain ⟨dj, gj⟩ := x2.put s2 nj
  have l2 := l1.grow d1 gj
  obtain ⟨di, sub⟩ := l2.put dj (noIo_set ni hr2)
  rw [List.set_comm _ _ (Ne.symm hij), List.set_comm _ _ (Ne.symm hij)] at di
  have g0 := (x1.grow s1).trans gj
  refine ⟨v, w, rfl, f.nx _ H2 _ di ⟨g0.1, fun a z => ?_⟩ q2⟩
  rw [List.set_comm _ _ hij, List.set_comm _ _ hij] at z
  rcases sub a z with z | ⟨z, xs, e⟩
  · exact g0.2 a z
  · subst z e
    exact x1.newO
end
end DL
namespace DL
open PySem PySem.Spec L2
open PyProof.Rows hiding St
section
variable {prog : Program} {w : World} {A : Around} {E : Value → Shared → Prop} {s : Shared}
theorem applied_back {sl : Addr} {vl vu vs : Value} {n : Nat} {Q : Int × Int × Nat → Shared → Prop} (hs : s.heap.IsSliceOf sl vl vu vs) (pl : IsPart vl none) (pu : IsPart vu none) (ps : IsPart vs (some (-1)))
    (h : Q ((n : Int) - 1, -1, n) s) : wpAny (model prog w) A (Builtin.Slice.sliceApplied (.ref sl) (pure (n : Int))) Q E s := by
  obtain ⟨os, hos, hcs, hds⟩ := id hs
  unfold Builtin.Slice.sliceApplied Builtin.Slice.sliceFields
  refine wpAny_bind (wpAny_bind (wpAny_field hos hds (x := vl) rfl (wpAny_bind (wpAny_field hos hds (x := vu) rfl (wpAny_bind (wpAny_field hos hds (x := vs) rfl (wpAny_pure ?_)))))))
  refine wpAny_bind (HT.slicePart_ ps ?_)
  show wpAny _ _ (if ((-1 : Int) == 0) = true then _ else _) _ _ s
  rw [if_neg (by decide)]
  refine wpAny_bind (HT.slicePart_ pl (wpAny_bind (HT.slicePart_ pu (wpAny_bind (wpAny_pure ?_)))))
  have e : Builtin.Slice.sliceAdjust none none (-1) (n : Int) = ((n : Int) - 1, -1) := by
    unfold Builtin.Slice.sliceAdjust
    simp
  show wpAny _ _ (match Builtin.Slice.sliceAdjust none none (-1) (n : Int) with | (lo, hi) => pure (lo, (-1 : Int), Builtin.Slice.slicePlaces lo hi (-1))) _ _ s
  rw [e]
  have e2 : Builtin.Slice.slicePlaces ((n : Int) - 1) (-1) (-1) = n := by
    unfold Builtin.Slice.slicePlaces
    simp
    split <;> omega
  show wpAny _ _ (pure ((n : Int) - 1, (-1 : Int), Builtin.Slice.slicePlaces ((n : Int) - 1) (-1) (-1))) _ _ s
  rw [e2]
  exact wpAny_pure h
theorem fm_some {α β : Type} {f : α → Option β} {g : α → β} : ∀ (l : List α), (∀ x ∈ l, f x = some (g x)) → l.filterMap f = l.map g
  | [], _ => rfl
  | a :: l, h => by rw [List.filterMap_cons, h a List.mem_cons_self, fm_some l fun x hx => h x (List.mem_cons_of_mem _ hx)]; rfl
theorem getItem_back {t sl : Addr} {items : Array Value} {vl vu vs : Value} {Q : Value → Shared → Prop} (ht : IsTup s.heap t items) (hs : s.heap.IsSliceOf sl vl vu vs) (pl : IsPart vl none) (pu : IsPart vu none) (ps : IsPart vs (some (-1)))
    (h : Q (.ref s.heap.objs.size) { s with heap := s.heap.push { cls := .type "tuple", data := .seq items.toList.reverse.toArray } }) (hsz : items.size ≤ sizeLine) : wpAny (model prog w) A (getItem (.ref t) (.ref sl)) Q E s := by
  have ok : sizeOk (.seq items.toList.reverse.toArray) := by
    show items.toList.reverse.toArray.size ≤ sizeLine
    simpa using hsz
  obtain ⟨os, hos, hcs, hds⟩ := id hs
  have hTs : s.TypeIs (.ref sl) "slice" := ⟨os, hos, hcs⟩
  have hp : ((List.range items.size).filterMap fun (m : Nat) => items[(((items.size : Nat) : Int) - 1 + (m : Int) * -1).toNat]?).toArray = items.toList.reverse.toArray := by
    congr 1
    apply List.ext_getElem?
    intro i
    have fm : (List.range items.size).filterMap (fun (m : Nat) => items[(((items.size : Nat) : Int) - 1 + (m : Int) * -1).toNat]?) = (List.range items.size).map fun m => items.toList.getD (items.size - 1 - m) .none := fm_some _ fun m hm => by
      have hm' := List.mem_range.mp hm
      have e : (((items.size : Nat) : Int) - 1 + (m : Int) * -1).toNat = items.size - 1 - m := by omega
      rw [e, List.getD_eq_getElem?_getD, List.getElem?_eq_getElem (by rw [Array.length_toList]; omega), Array.getElem?_eq_getElem (by omega)]
      rfl
    rw [fm, List.getElem?_map]
    by_cases hi : i < items.size
    · rw [List.getElem?_range hi, List.getElem?_reverse (by rw [Array.length_toList]; exact hi), Array.length_toList]
      show some (items.toList.getD (items.size - 1 - i) .none) = _
      rw [List.getD_eq_getElem?_getD, List.getElem?_eq_getElem (l := items.toList) (by rw [Array.length_toList]; omega)]
      rfl
    · rw [List.getElem?_eq_none (by simpa using hi), List.getElem?_eq_none (by rw [List.length_reverse, Array.length_toList]; omega)]
      rfl
  unfold getItem
  try with_reducible refine wpAny_holding ?_
  first | refine wpAny_bind (wpAny_pure ?_) | skip
  refine wpAny_bind (wpAny_sequenceKey ht.typeIs (by decide) ?_)
  refine wpAny_bind (wpAny_callSpecial?_slot (name := Str.ofString "__getitem__") ht.typeIs PyProof.Rows.slot_tuple_getitem
    (wpAny_call_entry PyProof.Rows.slot_tuple_getitem ht.typeIs entry_tuple_getitem ?_ (args_tuple_getitem _ _)))
  show wpAny _ _ (Builtin.Tuple.tupleItemsOf (.ref t) >>= _) _ _ s
  refine wpAny_bind (tupleItemsOf_ ht ?_)
  refine wpAny_bind (wpAny_typeOf hTs ?_)
  rw [if_pos (by decide)]
  refine wpAny_bind (applied_back hs pl pu ps ?_)
  have hno : ¬ ((((items.size : Nat) : Int) - 1 == 0 && (-1 : Int) == 1 && items.size == items.size) = true) := by simp
  show wpAny _ _ (if (((items.size : Nat) : Int) - 1 == 0 && (-1 : Int) == 1 && items.size == items.size) = true then _ else _) _ _ s
  rw [if_neg hno, hp]
  first
    | exact wpAny_bind (m := Builtin.Tuple.tupleExact _) (wpAny_newObj_type (wpAny_pure ⟨_, rfl, wpAny_pure h⟩) ok)
    | exact wpAny_bind (m := Builtin.Tuple.tupleExact _) (wpAny_newObj_type (wpAny_bind (wpAny_pure (wpAny_pure ⟨_, rfl, wpAny_pure h⟩))) ok)
    | exact wpAny_bind (wpAny_bind (m := Builtin.Tuple.tupleExact _) (wpAny_newObj_type (wpAny_pure (wpAny_pure ⟨_, rfl, wpAny_pure h⟩)) ok))
    | exact wpAny_bind (wpAny_bind (m := Builtin.Tuple.tupleExact _) (wpAny_newObj_type (wpAny_pure ⟨_, rfl, wpAny_pure h⟩) ok))
end
section
variable {X : Cx} {e : Expr} {pos : Pos}
def tRevT (K : PySem.W.Frag) (te : TE) : TE := fun σ H Q => te σ H fun x H1 => ∃ a xs, x = .ref a ∧ SqT K H1 a xs ∧ ∀ p, H1 p = none → Q (.ref p) (upd H1 p (.tup xs.reverse))
theorem pe_revT {te : TE} {k : Nat} {p1 p2 p3 : Pos} (he : PE X e te) : PE X (.Subscript e (.Slice none none (some (.UnaryOp .USub (.Constant (.int 1) k p1) p2)) p3) pos) (tRevT X.K te) := by
  refine ⟨fun pins s σ H Q I h => ?_⟩
  refine Subscript_ (thn (he.run pins s σ H _ I h) fun v s1 ⟨x, H1, I1, r1, a, xs, ex, hx, q⟩ => ?_)
  subst ex
  cases r1
  have hst : PO X (some (.UnaryOp .USub (.Constant (.int 1) k p1) p2)) (tPart (tUn (rU fun i => .int (-i)) (tC (.int 1)))) := po_some (pe_un un_neg pe_int)
  refine wpAny_Slice (thn (po_none.run pins s1 σ H1 (fun o H2 => o = none ∧ H2 = H1) I1 ⟨rfl, rfl⟩) fun vl s2 ⟨l, H2, I2, pl, el, e2⟩ => ?_)
  subst el e2
  refine thn (po_none.run pins s2 σ H2 (fun o H3 => o = none ∧ H3 = H2) I2 ⟨rfl, rfl⟩) fun vu s3 ⟨u, H3, I3, pu, eu, e3⟩ => ?_
  subst eu e3
  refine thn (hst.run pins s3 σ H3 (fun o H4 => o = some (-1) ∧ H4 = H3) I3 ⟨1, rfl, -1, rfl, rfl, rfl⟩) fun vs s4 ⟨o, H4, I4, ps, eo, e4⟩ => ?_
  subst eo e4
  have I5 : Inv X pins σ H4 { s4 with heap := s4.heap.push { cls := .type "slice", data := .fields #[vl, vu, vs] } } := I4.kept (t' := s4.toks) fun b ob q => Heap.get?_push_of_some _ q
  obtain ⟨its, r, ht, hz⟩ := I5.tuple hx
  have hlen := r.length
  show wpAny (model X.prog X.w) X.A (subscriptTail e (.Slice none none (some (.UnaryOp .USub (.Constant (.int 1) k p1) p2)) p3) (.ref a) (.ref s4.heap.objs.size)) (EP X pins σ Q) X.xe { s4 with heap := s4.heap.push { cls := .type "slice", data := .fields #[vl, vu, vs] } }
  refine tail_any (ops := [.ref a, .ref s4.heap.objs.size]) ht.typeIs (PyProof.Rows.slot_tuple_getitem.lookup) ?_ (by with_unfolding_all rfl)
  refine getItem_back ht (Heap.IsSliceOf.new _ vl vu vs) pl pu ps ?_ (by rw [List.size_toArray]; omega)
  refine ⟨.ref _, _, I5.laid (t' := s4.toks) (o := .tup xs.reverse) (fun b ob q => Heap.get?_push_of_some _ q) (Nat.le_refl _) ?_, rfl, q _ (I5.hok.fresh (Nat.le_refl _))⟩
  exact ⟨by rw [List.length_reverse]; exact hz, _, r.reverse, IsTup.new _ _⟩
/-- xs[::-1] of a tuple -/
def kRvT : Ex → D → List SV → (SV → List SV → Prop) → Prop := fun _ x δ1 Q => ∃ xs, x = .tuple xs ∧ Q (.d (.tuple xs.reverse)) δ1
theorem drevT {k : Nat} {p1 p2 p3 : Pos} {ta : TB} (ha : DB X e ta) : DE X (.Subscript e (.Slice none none (some (.UnaryOp .USub (.Constant (.int 1) k p1) p2)) p3) pos) (t1 ta kRvT) := fun W tk => by
  obtain ⟨t, pa, la⟩ := ha W tk
  refine ⟨_, pe_revT pa, fun F ex im σ H δ Q Q' d q f => la F ex im σ H δ _ _ d q fun v H1 x δ1 d1 e1 m1 s1 q1 => ?_⟩
  obtain ⟨xs, rfl, q1⟩ := q1
  obtain ⟨p1, vs, rfl, h1, i1⟩ := m1.tup
  exact ⟨p1, vs, rfl, h1, fun p hp => f _ _ _ δ1 (.newT d1 e1 i1.rev hp) s1 q1⟩
end
end DL
namespace DL
open PySem PySem.Spec L2
open PyProof.Rows hiding St
/-! ### tuple * 0, tuple * 1 -/
theorem tmul_one (l : Addr) (items : Array Value) (n : Nat) (dd : Option Addr) (sl : Array (Option Value)) (x : Int) (u : Tok) (c0 : (decide (x < -(2 ^ 63)) || decide (x ≥ 2 ^ 63)) = false) (c1 : (items.isEmpty || x == 1) = true) :
    Meets (Builtin.«tuple.__mul__» ⟨[.ref l, .int x u], []⟩) (fun _ R s => s.heap.get? l = some { cls := .type "tuple", dict := dd, data := .seq items n, slots := sl } ∧ R (.ok (.ret (.ref l))) s) :=
  .of_wp fun prog w A R s h => by
    obtain ⟨hp, g, d, tk, os⟩ := s
    obtain ⟨hl, h⟩ := h
    have f1 := AutoSeq1.idx_int
    wp_walk using wpAny_loadPart' hl
    repeat (first
      | (refine wpAny_ite_false (decide_eq_false (by rw [c0]; exact Bool.false_ne_true)) ?_; wp_walk using wpAny_loadPart' hl)
      | (refine wpAny_ite_true (decide_eq_true (by rw [c1])) ?_; wp_walk using wpAny_loadPart' hl))
    exact ⟨_, rfl, h⟩
theorem tmul_nil (l : Addr) (items : Array Value) (n : Nat) (dd : Option Addr) (sl : Array (Option Value)) (x : Int) (u : Tok) (c0 : (decide (x < -(2 ^ 63)) || decide (x ≥ 2 ^ 63)) = false) (c1 : (items.isEmpty || x == 1) = false) (c2 : (decide (x ≤ 0) || items.isEmpty) = true) :
    Meets (Builtin.«tuple.__mul__» ⟨[.ref l, .int x u], []⟩) (fun _ R s => s.heap.get? l = some { cls := .type "tuple", dict := dd, data := .seq items n, slots := sl } ∧
      R (.ok (.ret (Value.ref s.heap.objs.size))) { s with heap := s.heap.push { cls := Value.type "tuple", data := Data.seq #[] }, toks := s.toks }) :=
  .of_wp fun prog w A R s h => by
    obtain ⟨hp, g, d, tk, os⟩ := s
    obtain ⟨hl, h⟩ := h
    have f1 := AutoSeq1.idx_int
    wp_walk using wpAny_loadPart' hl
    repeat (first
      | (refine wpAny_ite_false (decide_eq_false (by rw [c0]; exact Bool.false_ne_true)) ?_; wp_walk using wpAny_loadPart' hl)
      | (refine wpAny_ite_false (decide_eq_false (by rw [c1]; exact Bool.false_ne_true)) ?_; wp_walk using wpAny_loadPart' hl)
      | (refine wpAny_ite_true (decide_eq_true (by rw [c2])) ?_; wp_walk using wpAny_loadPart' hl))
    exact ⟨_, rfl, h⟩
section
variable {X : Cx}
def rRepA (K : PySem.W.Frag) : R2 := fun x y H Q => ∃ l k xs, x = .ref l ∧ y = .int k ∧ SqT K H l xs ∧ -1000 ≤ k ∧ k ≤ 1000 ∧ xs.length ≤ 1000 ∧ ((xs = [] ∨ k = 1) → Q (.ref l) H) ∧ (¬ (xs = [] ∨ k = 1) → ∀ p, H p = none → Q (.ref p) (upd H p (.tup (List.replicate k.toNat xs).flatten)))
theorem op_repA : OpR X (binaryOp .Mult) (rRepA X.K) := by
  intro pins s σ H x y v u Q I rx ry h
  obtain ⟨l, k, xs, rfl, rfl, hT, h1, h2, hz, q1, q2⟩ := h
  rcases Classical.em (xs = [] ∨ k = 1) with hc | hc
  · cases rx
    obtain ⟨t, rfl⟩ := ry
    obtain ⟨its, r, ⟨⟨cls, dd, data, sl⟩, ho, hcl, n, hd⟩, hs⟩ := I.tuple hT
    simp only at hcl hd
    subst hcl hd
    have hle : its.length = xs.length := r.length.symm
    have c0 : (decide (k < -(2 ^ 63)) || decide (k ≥ 2 ^ 63)) = false := by
      rw [decide_eq_false (by omega), decide_eq_false (by omega)] <;> rfl
    have c1 : (its.toArray.isEmpty || k == 1) = true := by
      rcases hc with z | z
      · have : its = [] := List.eq_nil_of_length_eq_zero (by rw [hle, z]; rfl)
        rw [this]; rfl
      · rw [z, Bool.or_eq_true]; exact .inr rfl
    exact wpAny_binaryOp_repeat_ref (T := "tuple") (U := "int") (by decide) ⟨_, ho, rfl⟩ (fun s' => typeIs_int s' k t) noFill_tuple_mul F.fills_int_mul F.slot_int_rmul repeat_tuple F.slot_int_index.lookup
      (call_meets F.slot_int_rmul (typeIs_int s k t) F.entry_int_rmul (F.args_int_rmul_2 _ _) (int_rmul_tuple k t l its.toArray n dd sl)
        ⟨ho, rfl, ⟨_, ho, rfl⟩, call_meets F.slot_tuple_mul ⟨_, ho, rfl⟩ F.entry_tuple_mul (F.args_tuple_mul_2 _ _) (tmul_one l its.toArray n dd sl k t c0 c1) ⟨ho, .ref l, H, I, rfl, q1 hc⟩⟩)
  · rcases Classical.em (2 ≤ k) with hk | hk
    · exact op_repT pins s σ H _ _ v u Q I rx ry ⟨l, k, xs, rfl, rfl, hT, fun z => hc (.inl z), hk, h2, hz, q2 hc⟩
    cases rx
    obtain ⟨t, rfl⟩ := ry
    obtain ⟨its, r, ⟨⟨cls, dd, data, sl⟩, ho, hcl, n, hd⟩, hs⟩ := I.tuple hT
    simp only at hcl hd
    subst hcl hd
    have hle : its.length = xs.length := r.length.symm
    have c0 : (decide (k < -(2 ^ 63)) || decide (k ≥ 2 ^ 63)) = false := by
      rw [decide_eq_false (by omega), decide_eq_false (by omega)] <;> rfl
    have hn : its ≠ [] := fun z => hc (.inl (List.eq_nil_of_length_eq_zero (by rw [← hle, z]; rfl)))
    have hi : its.toArray.isEmpty = false := by
      cases its with
      | nil => exact absurd rfl hn
      | cons a b => rfl
    have hk1 : k ≠ 1 := fun z => hc (.inr z)
    have c1 : (its.toArray.isEmpty || k == 1) = false := by
      rw [hi, Bool.false_or]
      exact beq_eq_false_iff_ne.mpr hk1
    have c2 : (decide (k ≤ 0) || its.toArray.isEmpty) = true := by
      rw [decide_eq_true (by omega : k ≤ 0)]; rfl
    have hk0 : k.toNat = 0 := by omega
    have q := q2 hc
    rw [hk0] at q
    refine wpAny_binaryOp_repeat_ref (T := "tuple") (U := "int") (by decide) ⟨_, ho, rfl⟩ (fun s' => typeIs_int s' k t) noFill_tuple_mul F.fills_int_mul F.slot_int_rmul repeat_tuple F.slot_int_index.lookup
      (call_meets F.slot_int_rmul (typeIs_int s k t) F.entry_int_rmul (F.args_int_rmul_2 _ _) (int_rmul_tuple k t l its.toArray n dd sl)
        ⟨ho, rfl, ⟨_, ho, rfl⟩, call_meets F.slot_tuple_mul ⟨_, ho, rfl⟩ F.entry_tuple_mul (F.args_tuple_mul_2 _ _) (tmul_nil l its.toArray n dd sl k t c0 c1 c2) ⟨ho, ?_⟩⟩)
    exact ⟨.ref s.heap.objs.size, _, I.laid (t' := s.toks) (o := .tup []) (fun b ob q => Heap.get?_push_of_some _ q) (Nat.le_refl _) ⟨Nat.zero_le _, [], .nil, IsTup.new _ _⟩, rfl, q _ (I.hok.fresh (Nat.le_refl _))⟩
variable {a b : Expr} {pos : Pos}
def kRT : Ex → D → D → List SV → List SV → (SV → List SV → Prop) → Prop := fun _ x y δ1 δ2 Q => δ2 = δ1 ∧ ∃ xs k, x = .tuple xs ∧ y = .int k ∧ -1000 ≤ k ∧ k ≤ 1000 ∧ xs.length ≤ 1000 ∧ Q (.d (.tuple (reps k.toNat xs))) δ2
theorem drepT {ta tb : TB} (ha : DB X a ta) (hb : DB X b tb) : DE X (.BinOp a .Mult b pos) (t2 ta tb kRT) := fun W tk => by
  obtain ⟨t, pa, la⟩ := ha W tk
  obtain ⟨u, pb, lb⟩ := hb W tk
  refine ⟨_, pe_op op_repA pa pb, fun F ex im σ H δ Q Q' d q f => ?_⟩
  refine (la F ex im).two (lb F ex im) d q fun v w H' x y δ1 δ2 d2 e s m1 mi m2 q => ?_
  obtain ⟨ee, xs, k, rfl, rfl, k1, k2, hl, q⟩ := q
  obtain ⟨p1, vs, rfl, h1, i1⟩ := (m1 ee).tup
  refine ⟨p1, k, vs, rfl, m2.int, h1, k1, k2, by rw [i1.length]; exact hl, fun z => ?_, fun _ p hp => f _ _ _ δ2 (.newT d2 e (i1.reps _) hp) s q⟩
  have e1 : reps k.toNat xs = xs := by
    rcases z with z | z
    · have : xs = [] := List.eq_nil_of_length_eq_zero (by rw [← i1.length, z]; rfl)
      subst this
      unfold reps
      induction k.toNat with
      | zero => rfl
      | succ n ih => rw [List.replicate_succ, List.flatten_cons, ih]; rfl
    · subst z; unfold reps; simp
  rw [e1] at q
  exact f _ _ _ δ2 (.d d2 e (.tup h1 i1)) s q
end

/-! ### enumerate(tuple) -/
def Iet (K : PySem.W.Frag) (a : Addr) : It :=
  ⟨fun i H => ∃ (xs : List V) (x : V), SqT K H a xs ∧ xs[i]? = some x, fun i H v H' => ∃ T x, v = .ref T ∧ H T = none ∧ H' = upd H T (.tup [.int (i : Nat), x]) ∧ ∀ xs, SqT K H a xs → xs[i]? = some x, fun i H => ∃ xs : List V, SqT K H a xs ∧ xs.length ≤ i⟩
section
variable {P : Program} {w : World} {K : PySem.W.Frag} {elts : List Expr} {kk : Nat} {tpos : Pos}
theorem draws_end {prog : Program} {w : World} {A : Around} (hh : A.handled = none) (it t : Addr) (items : Array Value) (n : Nat) (hn : items[n]? = none) :
    Draws prog w A it [it, t] n (fun _ _ => True) (fun i h => i = n ∧ h.IsTupleIter it t i ∧ h.IsTuple t items) where
  live := fun _ _ st => let ⟨o, ho, _⟩ := st.2.1; ⟨o, ho⟩
  frame := fun _ _ _ st hk => ⟨st.1, st.2.1.at fun o e => hk it (by simp) o e, st.2.2.at fun o e => hk t (by simp) o e⟩
  item := fun i s Q E hi st _ => absurd st.1 (Nat.ne_of_lt hi)
  done := fun s Q E st hE => wpAny_nextOf_tuple_end hh st.2.1 st.2.2 hn hE
theorem turn_enumT (a e it : Addr) : Turn P w K (.Tuple elts kk tpos) (Iet K a) [e, it] e (fun i h => (∃ old, IsEnum h e it ((i : Nat) : Int) old) ∧ h.IsTupleIter it a i ∧ e ≠ it) where
  mem := by simp
  obj := fun i h st b hb => by
    obtain ⟨⟨old, he⟩, ⟨o, ho, hc, hd⟩, _⟩ := st
    rcases (by simpa using hb : b = e ∨ b = it) with rfl | rfl
    · exact ⟨_, he, fun v q => nomatch q⟩
    · exact ⟨o, ho, fun v q => by rw [hd] at q; cases q⟩
  keep := fun i h h' st k => let ⟨⟨old, he⟩, hi, hne⟩ := st; ⟨⟨old, k e (by simp) _ he⟩, hi.at fun o q => k it (by simp) o q, hne⟩
  item := by
    intro X hP hw hK hc i pins s σ H E I hf st hg
    subst hP hw hK
    obtain ⟨⟨old, he⟩, hit, hne⟩ := st
    obtain ⟨xs, x, hq, hx⟩ := hg
    obtain ⟨its, rv, p, hz⟩ := I.tuple hq
    obtain ⟨u, hu, ru⟩ := rv.get hx
    have hel : e < s.heap.objs.size := Heap.lt_size he
    have hil : it < s.heap.objs.size := by obtain ⟨_, q, _⟩ := hit; exact Heap.lt_size q
    have ht : s.heap.IsTuple a its.toArray := p
    have ne1 : a ≠ it := fun z => by
      obtain ⟨o, ho, hcc, _⟩ := ht
      obtain ⟨o', ho', hc', _⟩ := hit
      rw [z, ho'] at ho; cases ho; rw [hc'] at hcc; exact absurd hcc (by decide)
    have ne2 : e ≠ a := fun z => by
      obtain ⟨o, ho, hcc, _⟩ := ht
      rw [← z, he] at ho; cases ho; exact absurd (Value.type.inj (show Value.type "enumerate" = Value.type "tuple" from hcc)) (by decide)
    have hlen := rv.length
    refine wpAny_pyNext_enum_itemD (Draws.tuple (A := X.A.in1) (I.ok.hd hc) it a ne1 its.toArray) he ⟨hit, ht⟩ (by rw [List.size_toArray, ← hlen]; exact lt_of_get hx) hne (by simp; exact ⟨hne, ne2⟩) fun x' h' tk hx' ho st' hT hsz hk => ?_
    have ex : x' = u := by
      have hx2 : its.toArray[i]? = some x' := hx'
      rw [List.getElem?_toArray, hu] at hx2; exact (Option.some.inj hx2).symm
    subst ex
    refine ⟨_, rfl, wpAny_letOwnedTupleGo_enum (s := { s with heap := h', toks := tk + 1 }) ho fun h'' he' sb => ?_⟩
    have hT2 : h''.get? s.heap.objs.size = some { cls := .type "tuple", data := .seq #[.int i tk, x'] } := (sb.2 _ (Nat.ne_of_gt hel)).trans hT
    have new : ObjOk X.prog X.w (upd H s.heap.objs.size (.tup [.int (i : Nat), x])) h'' s.heap.objs.size (.tup [.int (i : Nat), x]) :=
      ⟨by show 2 ≤ sizeLine; decide, [.int i tk, x'], .cons ⟨_, rfl⟩ (.cons ru .nil), ⟨_, hT2, rfl, _, rfl⟩⟩
    have I1 : Inv X pins σ (upd H s.heap.objs.size (.tup [.int (i : Nat), x])) { s with heap := h'', toks := tk + 1 } :=
      I.turnedNew (ch := [e, it]) (fun b ob hb q => (sb.2 b (fun z => hb (by simp [z]))).trans (hk b ob (fun z => hb (by simp [z])) (fun z => hb (by simp [z])) q)) hf (Nat.le_refl _) new
    refine ⟨.ref s.heap.objs.size, _, I1, rfl, ⟨_, x, rfl, I.hok.fresh (Nat.le_refl _), rfl, fun ys hy => ?_⟩, ⟨⟨x', ?_⟩, st'.1.at fun o q => (sb.2 it (Ne.symm hne)).trans q, hne⟩, fun b hb => ?_⟩
    · rw [I.tuple_inj hy hq]; exact hx
    · have e1 : ((i + 1 : Nat) : Int) = (i : Int) + 1 := by omega
      rw [e1]; exact he'
    · have hb' : b < s.heap.objs.size := by
        rcases (by simpa using hb : b = e ∨ b = it) with z | z
        · rw [z]; exact hel
        · rw [z]; exact hil
      rw [upd_ne (Nat.ne_of_lt hb')]
      exact (hf b hb).1
  done := by
    intro X hP hw hK hc i pins s σ H E I hf st hg
    subst hP hw hK
    obtain ⟨⟨old, he⟩, hit, hne⟩ := st
    obtain ⟨xs, hq, hx⟩ := hg
    obtain ⟨its, rv, p, hz⟩ := I.tuple hq
    obtain ⟨f0, f1, f2, f3, f4, f5⟩ := hf it (by simp)
    have hl := rv.length
    have ht : s.heap.IsTuple a its.toArray := p
    exact wpAny_pyNext_enum_endD (draws_end (A := X.A.in1) (I.ok.hd hc) it a its.toArray i (by rw [List.getElem?_toArray]; exact List.getElem?_eq_none (by omega))) he ⟨rfl, hit, ht⟩ fun h' eb => ⟨rfl, I.turned (t' := s.toks) (fun b o hb q => eb b o hb q) f0 f1 f3 f4 f5⟩
  self := fun A i s Q E st h => let ⟨⟨_, he⟩, _⟩ := st; wpAny_pyIter_enum he h
end
theorem meets_enum1 {v : Value} {o : Obj} {H : Heap → Prop} (B : Begins v o H) :
    Meets (Builtin.«enumerate.__new__» ⟨[.type "enumerate", v], []⟩) (fun _ R s => H s.heap ∧
      R (.ok (.ret (.ref (s.heap.push o).objs.size))) { s with heap := (s.heap.push o).push { cls := .type "enumerate", data := .fields #[.none, .bool false, .ref s.heap.objs.size, rawInt 0, .none, .none] } }) :=
  .of_wp fun prog w A R s h => by
    obtain ⟨hp, g, d, tk, os⟩ := s; obtain ⟨h1, h⟩ := h
    have hsub := sub_enumerate
    have q1 : ∀ {A' : Around} {E : Value → Shared → Prop} {Q : Value → Shared → Prop}, Q (.ref hp.objs.size) ⟨hp.push o, g, d, tk, os⟩ → wpAny (model prog w) A' (pyIter v) Q E ⟨hp, g, d, tk, os⟩ :=
      fun q => B.iter prog w _ _ ⟨hp, g, d, tk, os⟩ _ h1 q
    wp_walk using q1
    refine wpAny_stack_any fun st => wpAny_pure ?_
    split
    · rename_i c _ _ _ _ _
      cases (c == Value.type "enumerate")
      · wp_walk using q1
        exact ⟨_, rfl, h⟩
      · wp_walk using q1
        exact ⟨_, rfl, h⟩
    · wp_walk using q1
      exact ⟨_, rfl, h⟩
section
variable {prog : Program} {w : World} {A : Around} {E : Value → Shared → Prop} {s : Shared}
theorem enum1_begins {v : Value} {o : Obj} {H : Heap → Prop} {Q : Value → Shared → Prop} (B : Begins v o H) (h1 : H s.heap)
    (h : ∀ h', IsEnum h' (s.heap.objs.size + 1) s.heap.objs.size 0 .none → h'.get? s.heap.objs.size = some o →
      (∀ b o, s.heap.get? b = some o → h'.get? b = some o) → Q (.ref (s.heap.objs.size + 1)) { s with heap := h' }) :
    wpAny (model prog w) A (call (.type "enumerate") [v]) Q E s := by
  refine callType_new F.called_enumerate (by decide) (F.typeCall_enumerate_1 _) (F.newCall_enumerate_1 _) (fun obj => F.args_object_init_2 obj _) F.entry_enumerate_new
    (meets_enum1 B) ⟨h1, ?_⟩
  have hz : (s.heap.push o).objs.size = s.heap.objs.size + 1 := Heap.size_push ..
  show _ ∧ _
  rw [hz]
  have he : IsEnum ((s.heap.push o).push { cls := .type "enumerate", data := .fields #[.none, .bool false, .ref s.heap.objs.size, rawInt 0, .none, .none] }) (s.heap.objs.size + 1) s.heap.objs.size 0 .none := by
    have := Heap.get?_push_size (s.heap.push o) (o := { cls := .type "enumerate", data := .fields #[.none, .bool false, .ref s.heap.objs.size, rawInt 0, .none, .none] }) rfl
    rw [hz] at this; exact this
  exact ⟨⟨_, he, rfl⟩, h _ he (Heap.get?_push_of_some _ (Heap.get?_push_size _ B.free)) fun b o x => Heap.get?_push_of_some _ (Heap.get?_push_of_some _ x)⟩
end
section
variable {X : Cx} {e : Expr} {p pos tpos : Pos} {elts : List Expr} {kk : Nat}
def iEnT (K : PySem.W.Frag) (ta : TA) : TI := fun σ H R => ta σ H fun vs H1 => ∃ a xs, vs = [.ref a] ∧ SqT K H1 a xs ∧ R (Iet K a) H1
theorem pi_enumT {ta : TA} (hg : Gl X "enumerate") (hm : X.mg "enumerate" = none) (ha : PA X [e] ta) (hs : starEach [e] X.env = [(false, eval e X.env)] := by rfl) :
    PI X (.Tuple elts kk tpos) (.Call (.Name "enumerate" p) [e] [] pos) (iEnT X.K ta) := by
  refine ⟨fun pins s σ H R I h => ?_⟩
  refine Call_ (ld_blt I hg hm boot_enumerate (PyProof.Rows.callWith_type1 (thn (ha.run pos pins s σ H _ I h) fun us s1 ⟨vs, H1, I1, r1, a, xs, ex, hq, q⟩ => ?_) hs rfl))
  subst ex
  cases r1 with
  | cons r rr =>
    cases rr
    cases r
    obtain ⟨its, rv, p', hz⟩ := I1.tuple hq
    refine enum1_begins (begins_tuple a its.toArray) p' fun h' he hit hk => wpAny_pyIter_enum he ?_
    have I2 : Inv X pins σ H1 { s1 with heap := h' } := I1.kept (t' := s1.toks) hk
    refine ⟨s1.heap.objs.size + 1, [s1.heap.objs.size + 1, s1.heap.objs.size], _, _, H1, rfl, I2, turn_enumT a (s1.heap.objs.size + 1) s1.heap.objs.size, ⟨⟨.none, he⟩, ⟨_, hit, rfl, rfl⟩, Nat.succ_ne_self _⟩, fun b hb => ?_, q⟩
    have hle : s1.heap.objs.size ≤ b := by
      rcases (by simpa using hb : b = s1.heap.objs.size + 1 ∨ b = s1.heap.objs.size) with z | z
      · rw [z]; exact Nat.le_add_right _ _
      · rw [z]; exact Nat.le_refl _
    exact I1.fpOk hle (I1.hok.fresh hle)
/-- the pairs (i, x) -/
def enD (n : Nat) : List D → List D
  | [] => []
  | x :: xs => .tuple [.int (n : Int), x] :: enD (n + 1) xs
theorem enD_len : ∀ (xs : List D) (n : Nat), (enD n xs).length = xs.length
  | [], _ => rfl
  | x :: xs, n => by simp [enD, enD_len xs (n + 1)]
theorem enD_get : ∀ {xs : List D} {n i : Nat} {y : D}, (enD n xs)[i]? = some y → ∃ x, xs[i]? = some x ∧ y = .tuple [.int ((n + i : Nat) : Int), x]
  | [], n, i, y, h => by simp [enD] at h
  | x :: xs, n, 0, y, h => by simp [enD] at h; exact ⟨x, rfl, by rw [← h]; simp⟩
  | x :: xs, n, i + 1, y, h => by
    obtain ⟨z, e1, e2⟩ := enD_get (xs := xs) (n := n + 1) (i := i) (by simpa [enD] using h)
    exact ⟨z, by simpa using e1, by rw [e2]; congr 4; omega⟩
theorem walk_enT {K : PySem.W.Frag} {F : Fm} {σ : St} {H1 : Hp} {δ1 : List SV} {a : Addr} {vs : List V} {xs : List D} (ha : SqT K H1 a vs) (m : ImAll K H1 (Ac F σ δ1) vs xs) : WalkOk K F (Iet K a) (enD 0 xs) none σ H1 δ1 where
  go := fun F' i σ' H' δ' x sf hx d g _ => by
    obtain ⟨y, hy, rfl⟩ := enD_get hx
    obtain ⟨u, hu, mu⟩ := (m.mono (A' := Ac F' σ δ1) (fun _ _ q => q) fun b _ q1 q2 => ⟨q2, sf σ δ1 b (by rw [q2]; simp) q1⟩).get hy
    have h' : SqT K H' a vs := g.1.tup ha
    refine ⟨⟨vs, u, h', hu⟩, fun v H'' q => ?_⟩
    obtain ⟨T, z, rfl, hT, rfl, q⟩ := q
    have e := q vs h'
    rw [hu] at e; cases e
    have s := same_new (o := .tup [.int (i : Nat), u]) hT
    refine ⟨s, .tup (SqT.of upd_same) (.cons ?_ (.cons ((mu.grow g).ext (O := fun _ => False) (Ext.of_same s) fun _ z => ⟨id, z⟩) .nil))⟩
    rw [Nat.zero_add]
    exact .int _
  stop := fun F' i σ' H' δ' hl d g _ => ⟨vs, g.1.tup ha, by rw [m.length, ← enD_len xs 0]; exact hl⟩
/-- over enumerate(t), t a tuple -/
def tiE (t : TDA) : TDI := fun ex δ Q => t ex δ fun ys δ1 => ∃ xs, ys = [.tuple xs] ∧ Q (enD 0 xs) none δ1
theorem diE {t : TDA} {n : Nat} (hg : Gl X "enumerate") (hm : X.mg "enumerate" = none) (h : DAB X [e] n t) (hs : starEach [e] X.env = [(false, eval e X.env)] := by rfl) : DI X (.Tuple elts kk tpos) (.Call (.Name "enumerate" p) [e] [] pos) (tiE t) := fun W tk => by
  obtain ⟨te, pa, la⟩ := h W tk
  refine ⟨_, pi_enumT hg hm pa hs, fun F ex im σ H δ Q R d q f => la F ex im σ H δ _ _ d q fun vs H1 xs δ1 d1 e1 m1 s1 q1 => ?_⟩
  obtain ⟨ys, rfl, q1⟩ := q1
  obtain ⟨v, rfl, mm⟩ := pr1 m1
  obtain ⟨a, ws, rfl, ha, im2⟩ := mm.tup
  exact ⟨a, ws, rfl, ha, f _ H1 _ none δ1 d1 e1 s1 (walk_enT ha im2) q1⟩
end
end DL
namespace DL
open PySem PySem.Spec L2
open PyProof.Rows hiding St
section
variable {X : Cx} {e a b c : Expr} {es : List Expr} {pos p p2 : Pos}
/-- the value is taken for data at once -/
def tFz (t : TD) : TD := fun ex δ Q => t ex δ fun r δ' => Q (.d r.asD) δ'
theorem DE.fz {t : TD} (h : DE X e t) : DE X e (tFz t) := fun W tk => by
  obtain ⟨te, pe, l⟩ := h W tk
  exact ⟨te, pe, fun F ex im σ H δ Q Q' d q f => l F ex im σ H δ _ _ d q fun v H' r δ' x s q => f v H' _ δ' x.frz s q⟩
/-- a tuple constant of the module -/
structure ConD (K : PySem.W.Frag) (mg : Str → Option Value) (x : Str) (y : D) : Prop where
  ex : ∃ a, mg x = some (.ref a) ∧ ∀ H A, Im K H A (.ref a) y
theorem dcon {x : Str} {y : D} (E : ConD X.K X.mg x y) (hg : Gl X x := by rfl) (hd : (x == ("__debug__" : Str)) = false := by decide) : DE X (.Name x pos) (tK y) := by
  obtain ⟨a, hm, hi⟩ := E.ex
  exact dglob hg hm (show RelV (.ref a) (.ref a) from rfl) hi hd
/-- isinstance(x, int), isinstance(x, bool) of ints -/
def kIsi (r : Bool) : Ex → D → List SV → (SV → List SV → Prop) → Prop := fun _ x δ1 Q => ∃ i, x = .int i ∧ Q (.d (.bool r)) δ1
theorem disi {ta : TB} {T : String} {r : Bool} {x : Str} (hg : Gl X "isinstance") (hm : X.mg "isinstance" = none) (hgT : Gl X x) (hmT : X.mg x = none) (hvT : bootBuiltins x = some (.type T)) (hk : PySem.W.kitOne X.K (.type "int") (.type T) = some r) (ha : DB X e ta)
    (hv : bootBuiltins "isinstance" = some (.builtin "isinstance")) (hn : x ≠ "__name__" := by decide) (hd : (x == ("__debug__" : Str)) = false := by decide)
    (hs : starEach (e :: [.Name x p2]) X.env = (false, eval e X.env) :: starEach [.Name x p2] X.env := by rfl) (hs2 : starEach (.Name x p2 :: []) X.env = (false, eval (.Name x p2) X.env) :: starEach [] X.env := by rfl)
    (hpl : (backTo pos (starEach [.Name x p2] X.env)).any (·.1) = false := by rfl) : DE X (.Call (.Name "isinstance" p) [e, .Name x p2] [] pos) (t1 ta (kIsi r)) := fun W tk => by
  obtain ⟨t, pa, la⟩ := ha W tk
  refine ⟨_, pe_callB call_isi hg hm hv (pa_cons pa (pa_cons (pe_bltn hgT hmT hvT (show RelV (.ty T) (.type T) from rfl) hn hd) pa_nil hs2) hs) (by decide) (by decide) hs hpl, fun F ex im σ H δ Q Q' d q f => la F ex im σ H δ _ _ d q fun v H1 x δ1 d1 e1 m1 s1 q1 => ?_⟩
  obtain ⟨i, rfl, q1⟩ := q1
  exact ⟨v, .ty T, _, _, r, rfl, .ty T, (by rw [m1.int]; exact .base (.int _)), hk, f _ H1 _ δ1 (.d d1 e1 (.bl r)) s1 q1⟩
/-- min(xs), max(xs) of a list of ints -/
theorem ints_im {K : PySem.W.Frag} {H : Hp} {A : Addr → Prop} : ∀ {vs : List V} {ns : List Int}, ImAll K H A vs (ns.map PyData.int) → vs = ns.map V.int
  | _, [], h => by cases h; rfl
  | _, n :: ns, h => by
    cases h with
    | cons a b => cases a; rw [ints_im b]; rfl
def kMn : List D → List SV → (SV → List SV → Prop) → Prop := fun xs δ Q => ∃ ns : List Int, xs = [.list (ns.map .int)] ∧ 0 < ns.length ∧ ∀ m, m ∈ ns → (∀ y, y ∈ ns → m ≤ y) → Q (.d (.int m)) δ
theorem dminL {t : TDA} {n : Nat} (hc : X.calm = true) (hg : Gl X "min") (hm : X.mg "min" = none) (hv : bootBuiltins "min" = some (.builtin "min")) (h : DAB X (e :: es) n t) (he : starEach (e :: es) X.env = (false, eval e X.env) :: starEach es X.env := by rfl) (hpl : (backTo pos (starEach es X.env)).any (·.1) = false := by rfl) :
    DE X (.Call (.Name "min" p) (e :: es) [] pos) (tBi t kMn) := by
  refine dbi (cr_min hc) (fun {F σ H H' δ δ' vs xs Q Q'} d e s m q f => ?_) hg hm hv h (by decide) (by decide) he hpl
  obtain ⟨ns, rfl, hl, q⟩ := q
  obtain ⟨v, rfl, mm⟩ := pr1 m
  obtain ⟨a, ws, rfl, ha, im⟩ := mm.lst d
  have ew := ints_im im
  subst ew
  exact ⟨a, ns, rfl, SqL.of ha, hl, fun m h1 h2 => f _ H' _ (.d d e (.int m)) (q m h1 h2)⟩
def kMx : List D → List SV → (SV → List SV → Prop) → Prop := fun xs δ Q => ∃ ns : List Int, xs = [.list (ns.map .int)] ∧ 0 < ns.length ∧ ∀ m, m ∈ ns → (∀ y, y ∈ ns → y ≤ m) → Q (.d (.int m)) δ
theorem dmaxL {t : TDA} {n : Nat} (hc : X.calm = true) (hg : Gl X "max") (hm : X.mg "max" = none) (hv : bootBuiltins "max" = some (.builtin "max")) (h : DAB X (e :: es) n t) (he : starEach (e :: es) X.env = (false, eval e X.env) :: starEach es X.env := by rfl) (hpl : (backTo pos (starEach es X.env)).any (·.1) = false := by rfl) :
    DE X (.Call (.Name "max" p) (e :: es) [] pos) (tBi t kMx) := by
  refine dbi (cr_max hc) (fun {F σ H H' δ δ' vs xs Q Q'} d e s m q f => ?_) hg hm hv h (by decide) (by decide) he hpl
  obtain ⟨ns, rfl, hl, q⟩ := q
  obtain ⟨v, rfl, mm⟩ := pr1 m
  obtain ⟨a, ws, rfl, ha, im⟩ := mm.lst d
  have ew := ints_im im
  subst ew
  exact ⟨a, ns, rfl, SqL.of ha, hl, fun m h1 h2 => f _ H' _ (.d d e (.int m)) (q m h1 h2)⟩
/-! xs[k] += e -/
def tGetL : V → V → Hp → VK → Prop := fun o i H Q => ∃ a vs k x, o = .ref a ∧ i = .int k ∧ H a = some (.lst vs) ∧ 0 ≤ k ∧ k < 2 ^ 63 ∧ vs[k.toNat]? = some x ∧ Q x H
theorem get_list : PGet X tGetL := by
  intro pins s σ H o i ov iv Q I r1 r2 h
  obtain ⟨a, vs, k, x, rfl, rfl, ha, h0, h1, hx, q⟩ := h
  cases r1
  obtain ⟨t, rfl⟩ := r2
  obtain ⟨its, rv, hl, hz⟩ := I.list (SqL.of ha)
  obtain ⟨u, hu, ru⟩ := rv.get hx
  exact wpAny_getItem_list hl.isList h0 h1 (by simpa using hu) ⟨x, H, I, ru, q⟩
def tdAugS (i : Nat) (k : Nat) (t : TB) : TDS := fun ex D δ => ∃ xs n, Owns δ i xs ∧ xs[k]? = some (.int n) ∧ k < 1000 ∧ t ex δ fun y δ1 => δ1 = δ ∧ ∃ m, y = .int m ∧ D.nx (setO δ1 i (xs.set k (.int (n + m))))
theorem daugS (i : Nat) {x : Str} {k j : Nat} {t : TB} {p1 p3 tpos : Pos} (h : DB X e t) (hN : X.N[i]? = some x := by rfl) (hv : Vis X.env.scope x := by first | exact Or.inl rfl | exact Or.inr (Or.inl rfl) | exact Or.inr (Or.inr rfl)) (hd : (x == ("__debug__" : Str)) = false := by decide)
    (hcd : (x == ("__classdict__" : Str)) = false := by decide) (ha : ∀ ov iv new, augStore (.Constant (.int (k : Int)) j p3) ov iv new = (do holding [new, ov, iv] (setItem ov iv new); release [new, ov, iv] []; pure .next) := by intros; rfl) :
    DS X (.AugAssign (.Subscript (.Name x p1) (.Constant (.int (k : Int)) j p3) tpos) .Add e pos) (tdAugS i k t) := fun W tk => by
  obtain ⟨te, pe, le⟩ := h W tk
  refine ⟨_, ps_augS (pe_var hN hv hd hcd) pe_int get_list pe ip_add set_list ha, fun F ex im σ H δ D D' d q f => ?_⟩
  obtain ⟨xs, n, ho, hn, hk, q⟩ := q
  obtain ⟨a, vs, e1, e2, e3⟩ := d.own i xs ho
  obtain ⟨u, hu, mu⟩ := e3.get hn
  cases mu
  refine ⟨_, e1, a, vs, (k : Int), _, rfl, rfl, e2, by omega, by omega, by simpa using hu, le F ex im σ H δ _ _ d q fun w H1 y δ1 d1 x1 m1 s1 q1 => ?_⟩
  obtain ⟨ez, m, rfl, q1⟩ := q1
  subst ez
  obtain ⟨a', ws, f1, f2, f3⟩ := d1.own i xs ho
  rw [e1] at f1; cases f1
  have hkk : ∀ b o, H1 b = some o → b ≠ a → upd H1 a (.lst (ws.set k (.int (n + m)))) b = some o := fun b o z nb => by rw [upd_ne nb]; exact z
  have exw : Ext (Ow σ δ1) H1 (upd H1 a (.lst (ws.set k (.int (n + m))))) := ext_wr ho e1 f2 hkk
  obtain ⟨d3, e3'⟩ := d1.wr (ys := xs.set k (.int (n + m))) ho e1 hkk upd_same ((f3.over exw SameOw.refl).set k (.int _))
  have hlt := lt_of_get hn
  refine ⟨n, m, rfl, m1.int, a, ws, (k : Int), k, rfl, rfl, f2, ?_, f.nx σ _ _ d3 ((Grow.so x1 s1).trans (Grow.so e3' (ow_setO ho))) q1⟩
  unfold ixN
  rw [f3.length, if_pos (by omega), if_pos (by omega)]; simp
/-! a, b, c = x, y, z : data -/
def tdPar3 (i j l : Nat) (t : TDA) : TDS := fun ex D δ => t ex δ fun xs δ1 => ∃ x y z, xs = [x, y, z] ∧ noIo δ1 i ∧ noIo δ1 j ∧ noIo δ1 l ∧ D.nx (((δ1.set i (.d x)).set j (.d y)).set l (.d z))
theorem dpar3 (i j l : Nat) {x y z : Str} {px py pz pt : Pos} {kt k2 : Nat} {pt2 : Pos} {t : TDA} (hc : X.calm = true) (hN : X.N.Nodup) (h : DA X [a, b, c] t) (hi : X.N[i]? = some x := by rfl) (hj : X.N[j]? = some y := by rfl) (hl : X.N[l]? = some z := by rfl)
    (hij : i ≠ j := by decide) (hil : i ≠ l := by decide) (hjl : j ≠ l := by decide) (hx : X.env.scope.names.lookup x = some .local := by rfl) (hy : X.env.scope.names.lookup y = some .local := by rfl) (hz : X.env.scope.names.lookup z = some .local := by rfl)
    (hw : swappedStores [.Tuple [.Name x px, .Name y py, .Name z pz] kt pt] (.Tuple [a, b, c] k2 pt2) X.env = pure (some [x, y, z]) := by rfl) (hs : swapsWithSole [.Tuple [.Name x px, .Name y py, .Name z pz] kt pt] (.Tuple [a, b, c] k2 pt2) pos.line X.env = pure false := by rfl) :
    DS X (.Assign [.Tuple [.Name x px, .Name y py, .Name z pz] kt pt] (.Tuple [a, b, c] k2 pt2) pos) (tdPar3 i j l t) := fun W tk => by
  obtain ⟨te, pe, le⟩ := h W tk
  refine ⟨_, ps_par3 hc hN hi hj hl hij hil hjl hx hy hz pe hw hs, fun F ex im σ H δ D D' d q f => le F ex im σ H δ _ _ d q fun vs H1 xs δ1 d1 e1 m1 s1 q1 => ?_⟩
  obtain ⟨x1, x2, x3, rfl, n1, n2, n3, q1⟩ := q1
  cases m1 with
  | @cons v1 _ _ _ a1 m1 => cases m1 with
    | @cons v2 _ _ _ a2 m1 => cases m1 with
      | @cons v3 _ _ _ a3 m1 =>
        cases m1
        refine ⟨v1, v2, v3, rfl, ?_⟩
        have hd : ∀ y : PyData, ∀ xs, SV.d y ≠ .own xs ∧ SV.d y ≠ .io xs := fun y xs => ⟨(by intro z; cases z), (by intro z; cases z)⟩
        obtain ⟨b1, s2⟩ := d1.put0 (s := .d x1) (v := some v1) n1 (hd _) (fun y e => by cases e; exact ⟨_, rfl, a1⟩)
        have up : ∀ {σ1 σ2 : St} {δ1 δ2 : List SV} {v : V} {y : PyData}, (∀ a, Ow σ2 δ2 a → Ow σ1 δ1 a) → Im X.K H1 (Ac F σ1 δ1) v y → Im X.K H1 (Ac F σ2 δ2) v y := fun s m => m.mono (fun _ _ q => q) fun a _ q1 q2 => ⟨q2, fun z => q1.1 (s a z), q1.2⟩
        obtain ⟨b2, s3⟩ := b1.put0 (s := .d x2) (v := some v2) (noIo_set n2 fun xs => (hd _ xs).2) (hd _) (fun y e => by cases e; exact ⟨_, rfl, up s2 a2⟩)
        obtain ⟨b3, s4⟩ := b2.put0 (s := .d x3) (v := some v3) (noIo_set (noIo_set n3 fun xs => (hd _ xs).2) fun xs => (hd _ xs).2) (hd _) (fun y e => by cases e; exact ⟨_, rfl, up s3 (up s2 a3)⟩)
        exact f.nx _ H1 _ b3 ((Grow.so e1 s1).trans (Grow.sub fun a z => s2 a (s3 a (s4 a z)))) q1
end
end DL
namespace DL
open PySem PySem.Spec L2
open PyProof.Rows hiding St
/-! ### repr of data -/
def ShowOk (x : D) : Prop := x.showable = true ∧ x.hasDict = false ∧ x.depth ≤ 64 ∧ x.shown.length ≤ sizeLine
def rReprD (K : PySem.W.Frag) : List V → Hp → VK → Prop := fun xs H Q => ∃ a d, xs = [V.ref a] ∧ Dp K H (.ref a) d ∧ ShowOk d ∧ Q (.str d.shown) H
theorem call_reprD {X : Cx} (hg : X.A.guards = some []) (hu : X.A.units + 66 < cLine) : CallR X (.builtin "repr") (rReprD X.K) := by
  intro pins s σ H xs us Q I r h
  obtain ⟨a, d, rfl, hd, ok, q⟩ := h
  rw [Vals.ref1 r]
  obtain ⟨as, rd⟩ := Dp.reads I d (.ref a) (.ref a) hd rfl
  have := ok.2.2.1
  exact repr_of_reads' rd ok.1 (PyData.noDict_hsm ok.2.1) hg (by omega) (fun _ _ e => e) (fun h' u tk hk => ⟨.str _, H, I.kept (t' := tk) hk, ⟨_, rfl⟩, q⟩) ok.2.2.2
section
variable {X : Cx} {e : Expr} {es : List Expr} {pos p : Pos}
def kRp : List D → List SV → (SV → List SV → Prop) → Prop := fun xs δ Q => ∃ x ys, xs = [x] ∧ (x = .list ys ∨ x = .tuple ys) ∧ ShowOk x ∧ Q (.d (.str x.shown)) δ
theorem drepr {t : TDA} {n : Nat} (hG : X.A.guards = some []) (hu : X.A.units + 66 < cLine) (hg : Gl X "repr") (hm : X.mg "repr" = none) (hv : bootBuiltins "repr" = some (.builtin "repr")) (h : DAB X (e :: es) n t) (he : starEach (e :: es) X.env = (false, eval e X.env) :: starEach es X.env := by rfl) (hpl : (backTo pos (starEach es X.env)).any (·.1) = false := by rfl) :
    DE X (.Call (.Name "repr" p) (e :: es) [] pos) (tBi t kRp) := by
  refine dbi (call_reprD hG hu) (fun {F σ H H' δ δ' vs xs Q Q'} d e s m q f => ?_) hg hm hv h (by decide) (by decide) he hpl
  obtain ⟨x, ys, rfl, hx, ok, q⟩ := q
  obtain ⟨v, rfl, mm⟩ := pr1 m
  have dp := mm.dp d
  rcases hx with rfl | rfl
  · obtain ⟨a, ws, rfl, _, _⟩ := mm.lst d
    exact ⟨a, _, rfl, dp, ok, f _ H' _ (.d d e (.str _)) q⟩
  · obtain ⟨a, ws, rfl, _, _⟩ := mm.tup
    exact ⟨a, _, rfl, dp, ok, f _ H' _ (.d d e (.str _)) q⟩
end

/-- == of texts -/
def kEqS : Ex → D → D → List SV → List SV → (SV → List SV → Prop) → Prop := fun _ x y δ1 δ2 Q => δ2 = δ1 ∧ ∃ a b : Str, x = .str a ∧ y = .str b ∧ Q (.d (.bool (decide (a = b)))) δ2
theorem deqS {X : Cx} {a b : Expr} {pos : Pos} {ta tb : TB} (ha : DB X a ta) (hb : DB X b tb) : DE X (.Compare a [.Eq] [b] pos) (t2 ta tb kEqS) := fun W tk => by
  obtain ⟨t, pa, la⟩ := ha W tk
  obtain ⟨u, pb, lb⟩ := hb W tk
  refine ⟨_, pe_cmpR op_eq pa pb (nomark _), fun F ex im σ H δ Q Q' d q f => ?_⟩
  refine (la F ex im).two (lb F ex im) d q fun v w H' x y δ1 δ2 d2 e s m1 mi m2 q => ?_
  obtain ⟨ee, a, b, rfl, rfl, q⟩ := q
  rw [(m1 ee).str, m2.str]
  refine ⟨rfl, ?_⟩
  have : decide (V.str a = V.str b) = decide (a = b) := by
    by_cases h : a = b
    · subst h; simp
    · rw [decide_eq_false h, decide_eq_false (fun z => h (V.str.inj z))]
  rw [this]
  exact f _ H' _ δ2 (.d d2 e (.bl _)) s q

/-! ### defs that run where nothing is under way -/
structure FnG (P : Program) (w : World) (K : PySem.W.Frag) (mg : Str → Option Value) (base : Heap) (CX : CXT) (k : Nat) (f : Addr) (fd : FuncData) (ps : List Str) (sp : Sp) : Prop where
  len : ∀ vs H Q E, sp vs H Q E → vs.length = ps.length
  run : ∀ (A : Around) (outer : List Env) (s : Shared) (H : Hp) (args : Args) (us : List Value) (vs : List V) (Q : VK) (E : XK), Room k A → A.guards = some [] → Env0 P w K mg base A outer s H → BindsTo s fd args (ps.zip us) → Vals vs us → sp vs H Q E →
    codeAny (model P w) A (.call (.ref f) args) (CR CX outer P w H s Q E) s
theorem guards_deeper {A : Around} {env : Env} : (A.deeper env).guards = A.guards := rfl
theorem fnG_of {P : Program} {w : World} {K : PySem.W.Frag} {mg : Str → Option Value} {base : Heap} {k : Nat} {x qual : Str} {st : Stmt} {f : Addr} {fd : FuncData} {N ps : List Str} {sp : Sp} (F : Fun K x qual st f fd) (S : FnScope N ps (defScope st)) (len : ∀ vs H Q E, sp vs H Q E → vs.length = ps.length)
    (hbody : ∀ (cdv : Value) (A : Around) (outer : List Env) (s : Shared) (H : Hp) (vs : List V) (Q : VK) (E : XK), Room k (A.deeper (envOfC qual (defScope st) s.heap.objs.size f cdv)) → A.guards = some [] → Env0 P w K mg base A outer s H → sp vs H Q E →
      ∃ t, PSs (cxOf (L2.CX P w) P w K mg base N qual (defScope st) f cdv A outer s H E) (defBody st) t ∧ t { nx := fun _ H' => Q .non H', rt := Q } (start N vs) H) : FnG P w K mg base (L2.CX P w) (k + 1) f fd ps sp := by
  obtain ⟨oc, od, kV, doc, pm, an, cdv, ct, osl, rfl, lk, hcd⟩ := F.ex
  refine ⟨len, fun A outer s H args us vs Q E hr hG e0 hb r hsp => ?_⟩
  -- the same road as for any def, at this one A
  have F1 : FnOk P w K mg base (L2.CX P w) (k + 1) f (PySem.W.fnOf x qual (defArgs st) (defBody st) (defScope st) .none kV doc pm an cdv ct) ps (fun vs' H' Q' E' => vs'.length = ps.length ∧ False) :=
    fn_of lk hcd S (fun _ _ _ _ h => h.1) fun _ _ _ _ _ _ _ _ h => h.2.elim
  have hl := len _ _ _ _ hsp
  have KX : K.In s.heap := e0.mod.kin.keeps fun b o e => (e0.bs b o e).1
  have lim : s.heap.NoLimit := e0.mod.nolimit.keeps fun b o e => (e0.bs b o e).1
  have hkind : ∀ y ∈ ps.zip us, (defScope st).names.lookup y.1 = some .local ∨ ((defScope st).names.lookup y.1 = some .cell ∧ ((cellsFrom (s.heap.objs.size + 1) (defScope st).names []).lookup y.1).isSome = true) := fun ⟨n, v⟩ hy => by
    rcases S.par n (List.of_mem_zip hy).1 with q | q
    · exact .inl q
    · exact .inr ⟨q, PySem.W.cellsFrom_some _ _ _ (.inl q)⟩
  refine codeAny_call_function hr.depth (KX _ _ lk) rfl S.co S.gen rfl (PySem.W.codeRec_of KX hcd) (hb _ _ _ _ ?_)
  refine wpAny_newFunctionEnv_cells S.kind hkind fun env he s1 x => ?_
  subst he
  refine ⟨lim.keeps x.toInCall.keep, codeAny_func ?_⟩
  obtain ⟨t, ht, hq⟩ := hbody _ A outer s H vs Q E (hr.deeper _) hG e0 hsp
  have I := inv_start (CX := L2.CX P w) (E := E) (cd := cdv) S hr.hd e0 hl r x
  refine wpAny_mono (ht.run [] s1 (start N vs) H _ I hq) (fun fl s' hs => ?_) fun e s' hs => hs
  cases fl with
  | ret u =>
    obtain ⟨v, σ', H', J, rv, q⟩ := hs
    exact ⟨v, H', J.os, J.bare, J.base, J.hok, rv, q⟩
  | next =>
    obtain ⟨σ', H', J, q⟩ := hs
    exact ⟨.non, H', J.os, J.bare, J.base, J.hok, rfl, q⟩
  | brk => obtain ⟨_, _, _, q⟩ := hs; exact False.elim q
  | cont => obtain ⟨_, _, _, q⟩ := hs; exact False.elim q
section
variable {X : Cx} {CX : CXT} {k : Nat} {f : Addr} {fd : FuncData} {ps : List Str} {sp : Sp} {E : St → XK} {x : Str} {p pos : Pos} {e : Expr} {es : List Expr} {t : TA}
theorem pe_callG (F : FnG X.prog X.w X.K X.mg X.base CX k f fd ps sp) (hr : Room k X.A) (hG : X.A.guards = some []) (hg : Gl X x) (hm : X.mg x = some (.ref f)) (hk : PySem.W.keepIn X.K (.ref f) = true) (hb : Binds X.K fd ps []) (hx : ∀ σ, PassesAt CX X σ (E σ))
    (ha : PA X (e :: es) t) (hdb : (x == ("__debug__" : Str)) = false := by decide) (he : starEach (e :: es) X.env = (false, eval e X.env) :: starEach es X.env := by rfl) (hpl : (backTo pos (starEach es X.env)).any (·.1) = false := by rfl) :
    PE X (.Call (.Name x p) (e :: es) [] pos) (tCallS sp E t) := by
  refine ⟨fun pins s σ H Q I h => ?_⟩
  refine wpAny_Call_Name_kw (ld_glob I hg hm ?_ hdb)
  refine PySem.W.callWith_K (h₀ := X.base) I.ok.mod.kin hk (thn (ha.run pos pins s σ H _ I h) fun us s1 ⟨vs, H1, I1, r, q⟩ => ⟨I1.kIn, ?_⟩) he hpl
  have hl : us.length = ps.length := by rw [← r.length]; exact F.len _ _ _ _ q
  have b := hb s1 us I1.kIn (by rw [List.append_nil]; exact hl)
  rw [List.append_nil] at b
  refine wpAny_call (codeAny_mono (F.run X.A X.stack s1 H1 ⟨us, []⟩ us vs Q (E σ) hr hG I1.env0 b r q) fun r' s' hq => ?_)
  cases r' with
  | error e => exact hx σ pins H1 s1 e s' I1 hq
  | ok fl =>
    cases fl with
    | ret u => exact I1.after hq
    | next => exact False.elim hq
    | brk => exact False.elim hq
    | cont => exact False.elim hq
end
structure FnDG (P : Program) (w : World) (K : PySem.W.Frag) (mg : Str → Option Value) (base : Heap) (x : Str) (k : Nat) (ps : List Str) (sp : SpD) : Prop where
  ex : ∃ f fd, FnG P w K mg base (L2.CX P w) k f fd ps (toSp K ps.length sp) ∧ mg x = some (.ref f) ∧ PySem.W.keepIn K (.ref f) = true ∧ Binds K fd ps []
theorem dcallG {X : Cx} {e : Expr} {es : List Expr} {pos p : Pos} {x : Str} {k : Nat} {ps : List Str} {sp : SpD} {t : TDA} (Fn : FnDG X.prog X.w X.K X.mg X.base x k ps sp) (hr : Room k X.A) (hG : X.A.guards = some []) (h : DA X (e :: es) t) (hg : Gl X x := by rfl) (hdb : (x == ("__debug__" : Str)) = false := by decide)
    (hl : ps.length = (e :: es).length := by rfl) (he : starEach (e :: es) X.env = (false, eval e X.env) :: starEach es X.env := by rfl) (hpl : (backTo pos (starEach es X.env)).any (·.1) = false := by rfl) : DE X (.Call (.Name x p) (e :: es) [] pos) (fun ex δ Q => t ex δ fun xs δ1 => xs.length = ps.length ∧ sp xs (fun r => Q r δ1) fun cls => ex cls δ1) := fun W tk => by
  obtain ⟨te, pa, la⟩ := h W tk
  obtain ⟨f, fd, fo, hm, hk, hb⟩ := Fn.ex
  refine ⟨_, pe_callG fo hr hG hg hm hk hb (fun σ => passAt tk σ) pa hdb he hpl, fun F ex im σ H δ Q Q' d q g => la F ex im σ H δ _ _ d q fun vs H1 xs δ1 d1 e1 m1 s1 q1 => ?_⟩
  refine ⟨by rw [m1.length]; exact q1.1, xs, Ac F σ δ1, _, _, m1, q1.2, fun r hr H' v s c => ?_, fun cls hc d0 H' s => im cls d0 σ H' ⟨δ1, d1.same s, hc⟩⟩
  exact g v H' r δ1 (call_res d1 e1 s c) s1 hr
section
variable {P : Program} {w : World} {K : PySem.W.Frag} {mg : Str → Option Value} {base : Heap}
/-- okD for a def that is run where nothing is under way -/
theorem okDG {x : Str} {st : Stmt} {N ps : List Str} {k : Nat} {sp : SpD} (T : TopF K mg x st) (S : FnScope N ps (defScope st))
    (hb : ∀ (kV doc pm : Value) (an : Option Addr) (cdv ct : Value) (us : List Value), us.length = ps.length → bindArgs (PySem.W.fnOf x x (defArgs st) (defBody st) (defScope st) .none kV doc pm an cdv ct) ⟨us, []⟩ = pure (ps.zip us))
    (body : ∀ (f : Addr) (cdv : Value) (A : Around) (outer : List Env) (s : Shared) (H : Hp) (E : XK), Room k (A.deeper (envOfC x (defScope st) s.heap.objs.size f cdv)) → A.guards = some [] →
      ∃ t, DSs (cxOf (L2.CX P w) P w K mg base N x (defScope st) f cdv A outer s H E) (defBody st) t ∧ ∀ ds Q X, sp ds Q X → ds.length = ps.length → t (fun cls _ => X cls) { nx := fun _ => Q (.d .none), rt := fun r _ => Q r } (startD N ds)) : FnDG P w K mg base x (k + 1) ps sp := by
  obtain ⟨f, fd, F, hm⟩ := T.ex
  refine ⟨f, fd, ?_, hm, F.kp, F.binds hb⟩
  refine fnG_of F S (fun vs H Q E h => h.1) fun cdv A outer s H vs Q E hr hG _ h => ?_
  obtain ⟨hl, ds, A0, Q0, E0, m, hsp, hQ, hE⟩ := h
  obtain ⟨t, hd, hrd⟩ := body f cdv A outer s H E hr hG
  have tk : Takes (cxOf (L2.CX P w) P w K mg base N x (defScope st) f cdv A outer s H E) (fun cls d _ H' => E cls d H') := takes_of rfl rfl rfl rfl
  obtain ⟨ts, ps', ls⟩ := hd _ tk
  refine ⟨ts, ps', ?_⟩
  have d0 := den_start (N := N) m
  refine ls (fm0 H A0) (fun cls _ => E0 cls) (fun cls d σ H' hh => ?_) (start N vs) H (startD N ds) _ _ d0 (hrd ds Q0 E0 hsp (by rw [← m.length]; exact hl)) ⟨fun σ' H' δ' d' g q => ?_, fun _ _ _ _ _ z => z.elim, fun _ _ _ _ _ z => z.elim, fun v H' r σ' δ' O H0 x q => ?_⟩
  · obtain ⟨δ', d', q⟩ := hh
    exact hE cls q d H' fun a o e => (d'.keep a o e).elim (fun ⟨_, z⟩ => nomatch z) id
  · obtain ⟨s1, c1⟩ := callOk_of (r := .d .none) (.d d' (Ext.refl (O := fun _ => False)) .non)
    exact hQ _ q H' _ s1 c1
  · obtain ⟨s1, c1⟩ := callOk_of x
    exact hQ _ q H' _ s1 c1
end
end DL
namespace DL
open PySem PySem.Spec L2
open PyProof.Rows hiding St
/-! ### long division has room -/
theorem plroom {X : Cx} {env : Env} {l : List Env} {k : Nat} (hN : X.base.NoSeer) (ht : X.prog.given.tree = none) (hst : X.stack = env :: l) (hg : env.globals = mainGlobals) (hb : env.builtins = builtinsNs) (hgen : env.scope.isGenerator = false) (hco : env.scope.isCoroutine = false) (hr : Room k X.A) (hk : 35 ≤ k) :
    ∀ pins σ H s, Inv X pins σ H s → PylongRoom (model X.prog X.w) X.A s := fun pins σ H s I => by
  refine PylongRoom.of I.nolimit ?_ (SeerAt.of (hN.keeps I.bk) ht (by rw [I.ok.frames, hst]) hgen hco hb hg)
  have := hr.dp
  show X.A.depth + 100 < recursionLimit
  omega
theorem noSeer_hid {h : Heap} {H : Hp} {a : Addr} {vs : List Value} (x : h.NoSeer) (ha : h.get? a = some { cls := .type "list", data := .seq vs.toArray }) (hA : ∀ b, H b ≠ none → b = a) : (hidT h H).NoSeer := by
  have base_of : ∀ {b : Addr} {o : Obj}, h.get? b = some o → H b = none → (hidT h H).get? b = some o := fun e n => hidT_get e n
  have non : ∀ {b : Addr} {o : Obj}, h.get? b = some o → o.cls ≠ .type "list" ∨ (∃ es ep, o.data = .dict es ep) → H b = none := fun {b o} e d => by
    cases q : H b with
    | none => rfl
    | some u =>
      have e' : b = a := hA b (by rw [q]; simp)
      subst e'
      rw [ha] at e; cases e
      rcases d with d | ⟨es, ep, d⟩
      · exact absurd rfl d
      · have d' : Data.seq vs.toArray _ = Data.dict es ep := d
        cases d'
  have nsK : ∀ {b : Addr} {m : Str → Option Value}, h.Ns b m → (hidT h H).Ns b m := fun {b m} ⟨o, es, ep, e, d, r⟩ => ⟨o, es, ep, base_of e (non e (.inr ⟨es, ep, d⟩)), d, r⟩
  refine ⟨?_, ?_, ?_, ?_⟩
  · obtain ⟨mc, n, q⟩ := x.statics; exact ⟨mc, nsK n, q⟩
  · obtain ⟨mc, n, q⟩ := x.mods; exact ⟨mc, nsK n, q⟩
  · obtain ⟨mc, n, q⟩ := x.imp; exact ⟨mc, nsK n, q⟩
  · obtain ⟨mg, bm, ob, n, q1, q2, q3, q4⟩ := x.main
    exact ⟨mg, bm, ob, nsK n, q1, base_of q2 (non q2 (.inl (by rw [q3]; exact fun z => absurd (Value.type.inj z) (by decide)))), q3, q4⟩

/-! ### the law -/
def spLaw (K : PySem.W.Frag) (n : Nat) : Sp := fun vs H Q _ => vs.length = 1 ∧ ∃ (a : Addr) (ns : List Int), vs = [.ref a] ∧ ns.length ≤ n ∧ SqL K H a (ns.map V.int) ∧ ∀ H', Q (.bl true) H'
theorem law_callG {P : Program} {w : World} {K : PySem.W.Frag} {mg mb : Str → Option Value} {k n : Nat} {fa a : Addr} {fd : FuncData} {x : Str} {s₁ : Shared} {vs : List Value} {ns : List Int}
    (KX : K.In s₁.heap) (hns : s₁.heap.Ns mainGlobals mg) (hb : s₁.heap.Ns builtinsNs mb) (hbb : ∀ x : Str, x ≠ "__name__" → mb x = bootBuiltins x) (hlim : s₁.heap.NoLimit) (hseer : s₁.heap.NoSeer) (hg : s₁.gens = #[])
    (ha : s₁.heap.get? a = some { cls := .type "list", data := .seq vs.toArray }) (hi : IntsAre vs ns) (hn : ns.length ≤ n) (hl : n ≤ sizeLine) (hr : Room k callerA)
    (F : ∀ base : Heap, K.In base → base.Ns mainGlobals mg → base.NoSeer → FnG P w K mg base (L2.CX P w) k fa fd [x] (spLaw K n)) (hbind : ∀ (s : Shared) (u : Value), BindsTo s fd ⟨[u], []⟩ [(x, u)])
    (hCX : ∀ H e s', L2.CX P w [] H s₁ (fun _ _ _ => False) e s' → False) :
    codeAny (model P w) callerA (.call (.ref fa) ⟨[.ref a], []⟩) (fun r s' => r = .ok (.ret (.bool true)) ∧ OldK s₁.heap s'.heap ∧ s'.os = s₁.os ∧ AllBare s'.gens) s₁ := by
  have rv := vals_ints hi
  have lenV := hi.length
  have core : ∀ H : Hp, Only H → SqL K H a (ns.map V.int) → HOk P w H s₁.heap → (∀ b, H b ≠ none → b = a) → (H a ≠ none → K.lookup a = none) →
      codeAny (model P w) callerA (.call (.ref fa) ⟨[.ref a], []⟩) (fun r s' => r = .ok (.ret (.bool true)) ∧ OldK s₁.heap s'.heap ∧ s'.os = s₁.os ∧ AllBare s'.gens) s₁ := by
    intro H hO hS hok hA hK
    have free : ∀ {b : Addr} {o : Obj}, s₁.heap.get? b = some o → o.data ≠ .seq vs.toArray → H b = none := fun {b o} e d => by
      cases q : H b with
      | none => rfl
      | some u =>
        have e' : b = a := hA b (by rw [q]; simp)
        subst e'
        rw [ha] at e; cases e
        exact absurd rfl d
    have nsK : ∀ {b : Addr} {m : Str → Option Value}, s₁.heap.Ns b m → (hidT s₁.heap H).Ns b m := fun {b m} ⟨o, es, ep, e, d, r⟩ => ⟨o, es, ep, hidT_get e (free e (by rw [d]; exact fun z => nomatch z)), d, r⟩
    have hKb : K.In (hidT s₁.heap H) := fun b o e => hidT_get (KX b o e) (by
      cases q : H b with
      | none => rfl
      | some u =>
        have e' : b = a := hA b (by rw [q]; simp)
        subst e'
        rw [hK (by rw [q]; simp)] at e; cases e)
    have hM : Mod K mg (hidT s₁.heap H) := ⟨hKb, nsK hns, ⟨mb, nsK hb, hbb⟩, let ⟨mc, h1, h2⟩ := hlim; ⟨mc, nsK h1, h2⟩⟩
    have e0 : Env0 P w K mg (hidT s₁.heap H) callerA [] s₁ H := ⟨rfl, hM, fun b o e => of_hidT e, Nat.le_of_eq (hidT_size _ _), trivial, fun b hb => absurd (show b ∈ ([] : List Addr) from hb) (by simp), hok, .of_eq hg⟩
    refine codeAny_mono ((F _ hKb (nsK hns) (noSeer_hid hseer ha hA)).run callerA [] s₁ H ⟨[.ref a], []⟩ [.ref a] [.ref a] (fun v _ => v = .bl true) (fun _ _ _ => False) hr rfl e0 (hbind s₁ (.ref a)) (.cons rfl .nil) ⟨rfl, a, ns, rfl, hn, hS, fun _ => rfl⟩) fun r s' h => ?_
    cases r with
    | error e => exact (hCX H e s' h).elim
    | ok fl =>
      cases fl with
      | next => exact False.elim h
      | brk => exact False.elim h
      | cont => exact False.elim h
      | ret u =>
        obtain ⟨v, H', os, bare, un, hok', r', q⟩ := h
        have q' : v = .bl true := q
        subst q'
        obtain rfl : u = Value.bool true := r'
        refine ⟨rfl, OldK.of_keep fun b o e => ?_, os, bare⟩
        cases q : H b with
        | none => exact un.keep b o e q (by intro z; exact absurd (show b ∈ ([] : List Addr) from z) (by simp)) (by simp)
        | some u =>
          rcases hO b with z | ⟨ob, xs, z⟩
          · rw [q] at z; cases z
          · obtain ⟨e1, _⟩ := hok b _ z
            obtain ⟨e2, _⟩ := hok' b _ (un.frzs b ob _ z)
            rw [e] at e1; cases e1
            exact e2
  have hnl : ns.length ≤ sizeLine := Nat.le_trans hn hl
  cases hk : K.lookup a with
  | some o =>
    have e := KX a o hk
    rw [ha] at e
    cases e
    exact core (fun _ => none) (fun _ => .inl rfl) (.inr ⟨_, vs.toArray, _, hk, rfl, rfl, rfl, by rw [List.size_toArray, lenV]; exact hnl, by simpa using rv⟩) (fun b u z => by have z' : (none : Option HO) = some u := z; cases z') (fun b z => absurd rfl z) fun z => absurd rfl z
  | none =>
    refine core (fun b => if b = a then some (.frz { cls := .type "list", data := .seq vs.toArray } (.lst (ns.map V.int))) else none) (fun b => ?_) (.inl (.inr ⟨{ cls := .type "list", data := .seq vs.toArray }, if_pos rfl⟩)) (fun b u z => ?_) (fun b z => ?_) fun _ => hk
    · by_cases hb : b = a
      · exact .inr ⟨_, _, if_pos hb⟩
      · exact .inl (if_neg hb)
    · by_cases hb : b = a
      · have z' := (if_pos hb).symm.trans z
        cases z'
        subst hb
        exact ⟨ha, by rw [List.length_map]; exact hnl, vs, _, rv, ha⟩
      · have z' := (if_neg hb).symm.trans z
        cases z'
    · by_cases hb : b = a
      · exact hb
      · exact absurd (if_neg hb) z
theorem walk_ofG {l : PySem.W.OpenLaw} {n k : Nat} {q : Program} {loose : List Str} {XP : (Str → Option Value) → Heap → Prop} {YP : World → Heap → Prop} {d : DefRec} {K : Params → PySem.W.Frag} {x : Str}
    (hn : l.most = some n) (hn2 : n ≤ sizeLine) (hdf : d.params.defaults = []) (hr : Room k callerA) (hq : importsNone q = true)
    (hY : ∀ (w : World) (h : Heap), YP w h → (K w.params).In h)
    (F : ∀ (w : World) (mg : Str → Option Value) (fa : Addr) (h : Heap), (K w.params).In h → h.Ns mainGlobals mg → mg d.name = some (.ref fa) →
      ∃ fd : FuncData, (∀ (s : Shared) (u : Value), BindsTo s fd ⟨[u], []⟩ [(x, u)]) ∧
        ∀ base : Heap, (K w.params).In base → base.Ns mainGlobals mg → base.NoSeer → FnG l.prog w (K w.params) mg base (L2.CX l.prog w) k fa fd [x] (spLaw (K w.params) n)) :
    PySem.W.WalkO q loose XP YP l.row.toRowW d [] (fun f vs => PySem.call f vs) := by
  refine Att.attach_call hn hdf fun w s₀ s₁ mg mb fa o pm cd doc a vs ns G Y ho hd hcd hmg hobj hints hlen hg => ?_
  have KX := hY w _ Y
  obtain ⟨fd, hb, hF⟩ := F w mg fa _ KX G.T.g hmg
  refine law_callG KX G.T.g G.T.b G.T.builtins G.T.nolimit (G.T.seer hq) hg hobj hints hlen hn2 hr hF hb fun H e s' h => ?_
  obtain ⟨_, _, _, _, _, _, _, _, _, _, _, _, z⟩ := h
  exact z.elim
end DL
namespace DL
open PySem PySem.Spec L2
open PyProof.Rows hiding St
def absI (i : Int) : Int := if i < 0 then -i else i
def bag0 (cs : List Int) : List D := [.int 0, .int 1234567891, .int 0, .list (cs.map .int)]
def spBag (K : PySem.W.Frag) : Sp := fun vs H Q _ => vs.length = 1 ∧ ∃ (a : Addr) (ns : List Int), vs = [.ref a] ∧ SqL K H a (ns.map V.int) ∧ ns.length ≤ 63 ∧
  ∀ p q H', H p = none → H q = none → p ≠ q → Same H H' → H' q = some (.lst ((ns.map absI).map V.int)) → H' p = some (.lst [.int 0, .int 1234567891, .int 0, .ref q]) → Q (.ref p) H'
theorem cutV_all {xs : List V} (h : xs.length ≤ 63) : cutV xs none (some 63) = xs := by
  unfold cutV
  have e : HT.sIx xs.length xs.length (some 63) = xs.length := by
    unfold HT.sIx
    simp only
    rw [if_neg (by decide)]
    show min 63 xs.length = xs.length
    omega
  have e0 : HT.sIx xs.length 0 none = 0 := rfl
  rw [e, e0, List.drop_zero, Nat.sub_zero, List.take_length]
def tBag (K : PySem.W.Frag) : TS := tRet (tLst (tCons (tC (.int 0)) (tCons (tC (.int 1234567891)) (tCons (tC (.int 0)) (tCons
  (tLc (iSeq K (tSl (rSlL K) (tVar 0) tNoPart (tPart (tC (.int 63))))) (gName 1) tYes (tCB (fun xs H Q => ∃ i, xs = [V.int i] ∧ Q (V.int (if i < 0 then -i else i)) H) (tCons (tVar 1) tNil)) [1]) tNil)))))
theorem bag_read {K : PySem.W.Frag} {H : Hp} {Q : VK} {a : Addr} {ns : List Int} (hS : SqL K H a (ns.map V.int)) (hl : ns.length ≤ 63)
    (h : ∀ p q H', H p = none → H q = none → p ≠ q → Same H H' → H' q = some (.lst ((ns.map absI).map V.int)) → H' p = some (.lst [.int 0, .int 1234567891, .int 0, .ref q]) → Q (.ref p) H') {nx : St → Hp → Prop} :
    tBag K { nx := nx, rt := Q } [some (.ref a), none] H := by
  refine ⟨_, rfl, ?_⟩
  refine ⟨63, rfl, a, ns.map V.int, rfl, hS, fun p hp => ⟨p, rfl, .inl ⟨_, SqL.of upd_same, fun D hD => ?_⟩⟩⟩
  have hl' : (ns.map V.int).length ≤ 63 := by rw [List.length_map]; exact hl
  rw [cutV_all hl'] at hD ⊢
  have hDp : D ≠ p := fun z => by rw [z, upd_same] at hD; cases hD
  have hDH : H D = none := by rw [upd_ne hDp] at hD; exact hD
  -- the list as far as it is made
  let St : Nat → Hp := fun i => upd (upd H p (.lst (ns.map V.int))) D (.lst (((ns.take i).map absI).map V.int))
  refine ⟨fun i m H' => m = ns.length - i ∧ i ≤ ns.length ∧ H' = St i, ⟨ns.length, by simp, Nat.zero_le _, rfl⟩, ?_⟩
  rintro i m H' ⟨rfl, hi, rfl⟩
  have sp : SqL K (St i) p (ns.map V.int) := SqL.of (by show upd (upd H p _) D _ p = _; rw [upd_ne (Ne.symm hDp), upd_same])
  by_cases hlt : i < ns.length
  · have hx : (ns.map V.int)[i]? = some (.int ns[i]) := by rw [List.getElem?_map, List.getElem?_eq_getElem hlt]; rfl
    refine .inr ⟨⟨_, _, sp, hx⟩, fun H' => H' = St (i + 1), fun H' h' => ⟨ns.length - (i + 1), by omega, rfl, hlt, h'⟩, fun x H' y => ?_⟩
    obtain ⟨rfl, y⟩ := y
    have e := y _ sp
    rw [hx] at e; cases e
    refine ⟨rfl, ?_⟩
    refine ⟨_, rfl, ns[i], rfl, ((ns.take i).map absI).map V.int, ?_, ?_, ?_⟩
    · show upd _ D _ D = _; exact upd_same
    · rw [List.length_map, List.length_map, List.length_take, sizeLine_eq]; omega
    · show upd (upd (upd H p _) D _) D _ = upd (upd H p _) D _
      have e1 : ((ns.take (i + 1)).map absI).map V.int = ((ns.take i).map absI).map V.int ++ [V.int (if ns[i] < 0 then -ns[i] else ns[i])] := by
        rw [List.take_succ, List.getElem?_eq_getElem hlt, List.map_append, List.map_append]; rfl
      rw [e1]
      funext b
      by_cases hb : b = D
      · subst hb; rw [upd_same, upd_same]
      · rw [upd_ne hb, upd_ne hb, upd_ne hb]
  · have e : i = ns.length := by omega
    subst e
    refine .inl ⟨⟨_, sp, by rw [List.length_map]; exact Nat.le_refl _⟩, ?_⟩
    refine ⟨by show 4 ≤ sizeLine; rw [sizeLine_eq]; decide, fun p' hp' => ?_⟩
    have n1 : p' ≠ D := fun z => by rw [z] at hp'; change upd _ D _ D = none at hp'; rw [upd_same] at hp'; cases hp'
    have hp2 : upd H p (.lst (ns.map V.int)) p' = none := by change upd _ D _ p' = none at hp'; rw [upd_ne n1] at hp'; exact hp'
    have n2 : p' ≠ p := fun z => by rw [z, upd_same] at hp2; cases hp2
    have hp3 : H p' = none := by rw [upd_ne n2] at hp2; exact hp2
    refine h p' D _ hp3 hDH n1 (fun b o e => ?_) ?_ upd_same
    · have b1 : b ≠ p := ne_of_none e hp
      have b2 : b ≠ D := ne_of_none e hDH
      have b3 : b ≠ p' := ne_of_none e hp3
      rw [upd_ne b3]
      show upd (upd H p _) D _ b = _
      rw [upd_ne b2, upd_ne b1]; exact e
    · rw [upd_ne (Ne.symm n1)]
      show upd _ D _ D = _
      rw [upd_same, List.take_length]
/-! ### the law's def: its bag is made, then data -/
def tSetBag (K : PySem.W.Frag) (i : Nat) (W : WX) : TS := tAsg (tCallS (spBag K) (WE W) (tCons (tVar 0) tNil)) (gName i)
def startL (n i : Nat) (cs : List Int) : List SV := (List.replicate n SV.un).set i (.own (bag0 cs))
theorem startL_get {n i j : Nat} {cs : List Int} {s : SV} (h : (startL n i cs)[j]? = some s) : (j = i ∧ s = .own (bag0 cs)) ∨ s = .un := by
  unfold startL at h
  by_cases e : i = j
  · subst e
    by_cases l : i < n
    · rw [List.getElem?_set_self (by simpa using l)] at h
      exact .inl ⟨rfl, (Option.some.inj h).symm⟩
    · rw [List.set_eq_of_length_le (by simp; omega), List.getElem?_replicate, if_neg l] at h
      cases h
  · rw [List.getElem?_set_ne e, List.getElem?_replicate] at h
    split at h
    · exact .inr (Option.some.inj h).symm
    · cases h
theorem ims_int {K : PySem.W.Frag} {H : Hp} {A : Addr → Prop} : ∀ ns : List Int, ImAll K H A (ns.map V.int) (ns.map PyData.int)
  | [] => .nil
  | n :: ns => .cons (.int n) (ims_int ns)
theorem den_law {K : PySem.W.Frag} {H H' : Hp} {N : List Str} {ib : Nat} {a p q : Addr} {cs : List Int} (hib : ib < N.length) (h1 : 1 ≤ N.length) (hp : H p = none) (hq : H q = none) (hpq : p ≠ q) (same : Same H H') (e1 : H' q = some (.lst (cs.map V.int))) (e2 : H' p = some (.lst [.int 0, .int 1234567891, .int 0, .ref q])) :
    Den K (fm0 H fun _ => False) ((start N [.ref a]).set ib (some (.ref p))) H' (startL N.length ib cs) := by
  have ls : (start N [.ref a]).length = N.length := by unfold L2.start; simp; omega
  have z0 : ((start N [.ref a]).set ib (some (.ref p)))[ib]? = some (some (.ref p)) := List.getElem?_set_self (by rw [ls]; exact hib)
  have own0 : ∀ {j : Nat} {xs : List PyData}, Owns (startL N.length ib cs) j xs → j = ib ∧ xs = bag0 cs := fun {j xs} z => by
    rcases z with z | z <;> rcases startL_get z with ⟨h1, h2⟩ | h2 <;> cases h2
    exact ⟨h1, rfl⟩
  have ow0 : ∀ b, Ow ((start N [.ref a]).set ib (some (.ref p))) (startL N.length ib cs) b → b = p := fun b ⟨j, xs, h1, h2⟩ => by
    obtain ⟨rfl, _⟩ := own0 h1
    rw [z0] at h2; cases h2; rfl
  refine ⟨by rw [List.length_set, ls]; unfold startL; rw [List.length_set, List.length_replicate], fun i x e => ?_, fun i xs e => ?_, fun i xs b e1 e2 => ?_, fun i xs b e1 _ => ?_, fun q hq => (nomatch hq), fun i j b xs ys h1 h2 _ _ => (own0 h1).1.trans (own0 h2).1.symm, fun b o e => .inr (same b o e), fun b z => z.elim⟩
  · rcases startL_get e with ⟨_, h⟩ | h <;> cases h
  · obtain ⟨rfl, rfl⟩ := own0 e
    refine ⟨p, _, z0, e2, .cons (.int 0) (.cons (.int _) (.cons (.int 0) (.cons ?_ .nil)))⟩
    exact .lst e1 ⟨fun z => hpq (ow0 q z).symm, id, .inr hq⟩ (ims_int cs)
  · obtain ⟨rfl, _⟩ := own0 (.inl e1)
    rw [z0] at e2; cases e2
    exact hp
  · rcases startL_get e1 with ⟨_, h⟩ | h <;> cases h
section
variable {P : Program} {w : World} {K : PySem.W.Frag} {mg : Str → Option Value} {base : Heap}
theorem okLaw {x : Str} {st s1 : Stmt} {rest : List Stmt} {N : List Str} {k ib : Nat} {f : Addr} {fd : FuncData} (F : Fun K x x st f fd) (S : FnScope N ["script"] (defScope st)) (hib : ib < N.length) (h1 : 1 ≤ N.length) (hst : defBody st = s1 :: rest)
    (body : ∀ (cdv : Value) (A : Around) (outer : List Env) (s : Shared) (H : Hp) (E : XK), Room k (A.deeper (envOfC x (defScope st) s.heap.objs.size f cdv)) → A.guards = some [] →
      (∀ W, Takes (cxOf (L2.CX P w) P w K mg base N x (defScope st) f cdv A outer s H E) W → PS (cxOf (L2.CX P w) P w K mg base N x (defScope st) f cdv A outer s H E) s1 (tSetBag K ib W)) ∧
      ∃ t, DSs (cxOf (L2.CX P w) P w K mg base N x (defScope st) f cdv A outer s H E) rest t ∧ ∀ cs : List Int, cs.length ≤ 63 → (∀ c ∈ cs, 0 ≤ c) → t ex0 { nx := fun _ => False, rt := fun r _ => r = .d (.bool true) } (startL N.length ib cs)) :
    FnG P w K mg base (L2.CX P w) (k + 1) f fd ["script"] (spLaw K 63) := by
  refine fnG_of F S (fun vs H Q E h => h.1) fun cdv A outer s H vs Q E hr hG _ h => ?_
  obtain ⟨_, a, ns, rfl, hl, hS, hQ⟩ := h
  obtain ⟨p1, t, hd, hrd⟩ := body cdv A outer s H E hr hG
  have tk : Takes (cxOf (L2.CX P w) P w K mg base N x (defScope st) f cdv A outer s H E) (fun cls d _ H' => E cls d H') := takes_of rfl rfl rfl rfl
  obtain ⟨ts, ps', ls⟩ := hd _ tk
  rw [hst]
  refine ⟨_, pss_cons (p1 _ tk) ps', ?_⟩
  refine ⟨.ref a, by unfold L2.start; rfl, rfl, a, ns, rfl, hS, hl, fun p q H' hp hq hpq same e1 e2 => ?_⟩
  have d0 := den_law (K := K) (a := a) (N := N) hib h1 hp hq hpq same e1 e2
  refine ls (fm0 H fun _ => False) ex0 (fun _ _ _ _ ⟨_, _, z⟩ => z.elim) _ H' _ { nx := fun _ => False, rt := fun r _ => r = .d (.bool true) } _ d0 (hrd (ns.map absI) (by rw [List.length_map]; exact hl) fun c hc => ?_)
    ⟨fun _ _ _ _ _ z => z.elim, fun _ _ _ _ _ z => z.elim, fun _ _ _ _ _ z => z.elim, fun v H'' r σ' δ' O H0 x q => ?_⟩
  · obtain ⟨i, _, rfl⟩ := List.mem_map.mp hc
    unfold absI; split <;> omega
  · have m := x.im
    rw [q] at m
    cases m
    exact hQ H''
end
end DL
/-! PM: polynomials over the fractions, as lists by rising powers -/
namespace PM
/-- the value at x -/
def ev : List Rat → Rat → Rat
  | [], _ => 0
  | a :: l, x => a + x * ev l x
/-- the derivative's value at x -/
def dv : List Rat → Rat → Rat
  | [], _ => 0
  | _ :: l, x => ev l x + x * dv l x
def cut (a : Rat) : List Rat → List Rat
  | [] => if a = 0 then [] else [a]
  | b :: l => a :: b :: l
/-- without noughts at the end -/
def trim : List Rat → List Rat
  | [] => []
  | a :: l => cut a (trim l)
def Tr (l : List Rat) : Prop := trim l = l
theorem cut_nil {a : Rat} : cut a [] = if a = 0 then [] else [a] := rfl
theorem cut_cons {a : Rat} {l : List Rat} (h : l ≠ []) : cut a l = a :: l := by cases l with | nil => exact absurd rfl h | cons b l => rfl
theorem ev_cut {a : Rat} {l : List Rat} {x : Rat} : ev (cut a l) x = a + x * ev l x := by
  cases l with
  | nil => rw [cut_nil]; split <;> simp only [ev] <;> grind
  | cons b l => rfl
theorem dv_cut {a : Rat} {l : List Rat} {x : Rat} : dv (cut a l) x = ev l x + x * dv l x := by
  cases l with
  | nil => rw [cut_nil]; split <;> simp only [ev, dv] <;> grind
  | cons b l => rfl
theorem ev_trim {l : List Rat} {x : Rat} : ev (trim l) x = ev l x := by
  induction l with
  | nil => rfl
  | cons a l ih => rw [trim, ev_cut, ih, ev]
theorem dv_trim {l : List Rat} {x : Rat} : dv (trim l) x = dv l x := by
  induction l with
  | nil => rfl
  | cons a l ih => rw [trim, dv_cut, ih, dv, ev_trim]
theorem trim_cut {a : Rat} {l : List Rat} (h : Tr l) : Tr (cut a l) := by
  cases l with
  | nil =>
    rw [cut_nil]; split
    · rfl
    · unfold Tr; rw [trim, trim, cut_nil, if_neg (by assumption)]
  | cons b l => unfold Tr at h ⊢; show cut a (trim (b :: l)) = _; rw [h, cut]
theorem tr_trim {l : List Rat} : Tr (trim l) := by
  induction l with
  | nil => rfl
  | cons a l ih => exact trim_cut ih
theorem Tr.tail {a : Rat} {l : List Rat} (h : Tr (a :: l)) : Tr l := by
  unfold Tr at h ⊢
  rw [trim] at h
  cases e : trim l with
  | nil => rw [e, cut_nil] at h; split at h <;> simp_all
  | cons b m => rw [e] at h; unfold cut at h; simp_all
theorem Tr.last {l : List Rat} (h : Tr l) (n : l ≠ []) : l.getLast n ≠ 0 := by
  induction l with
  | nil => exact absurd rfl n
  | cons a l ih =>
    cases l with
    | nil => intro e; simp at e; subst e; unfold Tr at h; simp [trim, cut] at h
    | cons b m =>
      rw [List.getLast_cons (by simp)]
      exact ih h.tail (by simp)
theorem tr_of_last {l : List Rat} (h : ∀ n : l ≠ [], l.getLast n ≠ 0) : Tr l := by
  induction l with
  | nil => rfl
  | cons a l ih =>
    cases l with
    | nil => have := h (by simp); simp at this; unfold Tr; simp [trim, cut, this]
    | cons b m =>
      have q := ih fun n => by have := h (by simp); rw [List.getLast_cons (by simp)] at this; exact this
      unfold Tr at q ⊢; rw [trim, q]; rfl
theorem ev_take_succ (l : List Rat) (x : Rat) : ∀ n, ev (l.take (n + 1)) x = ev (l.take n) x + (l[n]?.getD 0) * x ^ n := by
  induction l with
  | nil => intro n; simp only [List.take_nil, ev, List.getElem?_nil, Option.getD_none]; grind
  | cons a l ih =>
    intro n
    cases n with
    | zero => simp only [List.take_succ_cons, List.take_zero, ev, List.getElem?_cons_zero, Option.getD_some]; grind
    | succ n =>
      rw [List.take_succ_cons, List.take_succ_cons, ev, ev, ih]
      simp only [List.getElem?_cons_succ]
      grind
/-- division by (x - c) -/
def syn (c : Rat) : List Rat → List Rat
  | [] => []
  | [_] => []
  | _ :: b :: l => ev (b :: l) c :: syn c (b :: l)
theorem ev_syn (c x : Rat) : ∀ l : List Rat, ev l x = (x - c) * ev (syn c l) x + ev l c
  | [] => by simp only [ev, syn]; grind
  | [a] => by simp only [ev, syn]; grind
  | a :: b :: l => by
    have ih := ev_syn c x (b :: l)
    show a + x * ev (b :: l) x = (x - c) * (ev (b :: l) c + x * ev (syn c (b :: l)) x) + (a + c * ev (b :: l) c)
    rw [ih]
    grind
theorem syn_len (c : Rat) : ∀ l : List Rat, (syn c l).length = l.length - 1
  | [] => rfl
  | [a] => rfl
  | a :: b :: l => by show (syn c (b :: l)).length + 1 = _; rw [syn_len c (b :: l)]; simp
theorem all_zero : ∀ (n : Nat) (l : List Rat) (N : Nat), l.length ≤ n → (∀ k : Nat, N ≤ k → ev l (k : Rat) = 0) → ∀ x, ev l x = 0
  | 0, l, N, hn, h, x => by
    have : l = [] := List.eq_nil_of_length_eq_zero (by omega)
    subst this; rfl
  | n + 1, l, N, hn, h, x => by
    have h0 := h N (Nat.le_refl _)
    rw [ev_syn (N : Rat) x l, h0]
    have q := all_zero n (syn (N : Rat) l) (N + 1) (by rw [syn_len]; omega) (fun k hk => by
      have hk' := h k (by omega)
      rw [ev_syn (N : Rat) (k : Rat) l, h0] at hk'
      have ne : ((k : Nat) : Rat) - ((N : Nat) : Rat) ≠ 0 := by
        intro z
        have z' : ((k : Nat) : Rat) = ((N : Nat) : Rat) := by grind
        have : k = N := by exact_mod_cast z'
        omega
      grind) x
    rw [q]; grind
def neg (l : List Rat) : List Rat := l.map fun a => -a
def add : List Rat → List Rat → List Rat
  | [], m => m
  | l, [] => l
  | a :: l, b :: m => (a + b) :: add l m
def smul (c : Rat) (l : List Rat) : List Rat := l.map fun a => c * a
def mul : List Rat → List Rat → List Rat
  | [], _ => []
  | a :: l, m => add (smul a m) (0 :: mul l m)
theorem ev_neg (l : List Rat) (x : Rat) : ev (neg l) x = - ev l x := by
  induction l with
  | nil => simp [neg, ev]
  | cons a l ih => show -a + x * ev (neg l) x = _; rw [ih, ev]; grind
theorem dv_neg (l : List Rat) (x : Rat) : dv (neg l) x = - dv l x := by
  induction l with
  | nil => simp [neg, dv]
  | cons a l ih => show ev (neg l) x + x * dv (neg l) x = _; rw [ih, dv, ev_neg]; grind
theorem ev_add (l m : List Rat) (x : Rat) : ev (add l m) x = ev l x + ev m x := by
  induction l generalizing m with
  | nil => simp only [add, ev]; grind
  | cons a l ih =>
    cases m with
    | nil => simp only [add, ev]; grind
    | cons b m => rw [add, ev, ih, ev, ev]; grind
theorem dv_add (l m : List Rat) (x : Rat) : dv (add l m) x = dv l x + dv m x := by
  induction l generalizing m with
  | nil => simp only [add, dv]; grind
  | cons a l ih =>
    cases m with
    | nil => simp only [add, dv]; grind
    | cons b m => rw [add, dv, ih, dv, dv, ev_add]; grind
theorem ev_smul (c : Rat) (l : List Rat) (x : Rat) : ev (smul c l) x = c * ev l x := by
  induction l with
  | nil => simp [smul, ev]
  | cons a l ih => show c * a + x * ev (smul c l) x = _; rw [ih, ev]; grind
theorem dv_smul (c : Rat) (l : List Rat) (x : Rat) : dv (smul c l) x = c * dv l x := by
  induction l with
  | nil => simp [smul, dv]
  | cons a l ih => show ev (smul c l) x + x * dv (smul c l) x = _; rw [ih, dv, ev_smul]; grind
theorem ev_mul (l m : List Rat) (x : Rat) : ev (mul l m) x = ev l x * ev m x := by
  induction l with
  | nil => simp only [mul, ev]; grind
  | cons a l ih => rw [mul, ev_add, ev_smul, ev, ih, ev]; grind
theorem dv_mul (l m : List Rat) (x : Rat) : dv (mul l m) x = dv l x * ev m x + ev l x * dv m x := by
  induction l with
  | nil => simp only [mul, ev, dv]; grind
  | cons a l ih => rw [mul, dv_add, dv_smul, dv, ev_mul, ih, dv, ev]; grind
theorem trim_nil_of_zero : ∀ (l : List Rat), (∀ x, ev l x = 0) → trim l = []
  | [], _ => rfl
  | a :: l, h => by
    have h0 : a = 0 := by have := h 0; rw [ev] at this; grind
    subst h0
    have hl : ∀ x, ev l x = 0 := all_zero _ l 1 (Nat.le_refl _) fun k hk => by
      have := h (k : Rat)
      rw [ev] at this
      have ne : (k : Rat) ≠ 0 := by
        intro z
        have : k = 0 := by exact_mod_cast z
        omega
      grind
    rw [trim, trim_nil_of_zero l hl]
    simp [cut]
/-- a polynomial is its values -/
theorem trim_uniq : ∀ (l m : List Rat), (∀ x, ev l x = ev m x) → trim l = trim m
  | [], m, h => by rw [trim_nil_of_zero m fun x => (h x).symm]; rfl
  | a :: l, [], h => trim_nil_of_zero _ h
  | a :: l, b :: m, h => by
    have h0 : a = b := by have := h 0; rw [ev, ev] at this; grind
    subst h0
    have hl : ∀ x, ev (add l (neg m)) x = 0 := all_zero _ _ 1 (Nat.le_refl _) fun k hk => by
      have := h (k : Rat)
      rw [ev, ev] at this
      rw [ev_add, ev_neg]
      have ne : (k : Rat) ≠ 0 := by
        intro z
        have : k = 0 := by exact_mod_cast z
        omega
      grind
    rw [trim, trim, trim_uniq l m fun x => by have := hl x; rw [ev_add, ev_neg] at this; grind]
theorem Tr.uniq {l m : List Rat} (hl : Tr l) (hm : Tr m) (h : ∀ x, ev l x = ev m x) : l = m := by rw [← hl, ← hm]; exact trim_uniq l m h
theorem trim_len (l : List Rat) : (trim l).length ≤ l.length := by
  induction l with
  | nil => simp [trim]
  | cons a l ih =>
    rw [trim]
    cases e : trim l with
    | nil => rw [cut_nil]; split <;> simp
    | cons b m => rw [e] at ih; simp [cut] at ih ⊢; omega
theorem dv_uniq {l m : List Rat} (h : ∀ x, ev l x = ev m x) (x : Rat) : dv l x = dv m x := by rw [← dv_trim, trim_uniq l m h, dv_trim]
theorem add_len (l m : List Rat) : (add l m).length = max l.length m.length := by
  induction l generalizing m with
  | nil => simp [add]
  | cons a l ih => cases m with
    | nil => simp [add]
    | cons b m => simp [add, ih]
theorem mul_len (l m : List Rat) (hl : l ≠ []) (hm : m ≠ []) : (mul l m).length = l.length + m.length - 1 := by
  induction l with
  | nil => exact absurd rfl hl
  | cons a l ih =>
    rw [mul, add_len]
    simp only [smul, List.length_map, List.length_cons]
    cases l with
    | nil => simp [mul]; have := List.length_pos_iff.mpr hm; omega
    | cons b l => rw [ih (by simp)]; simp; omega
theorem add_last (l m : List Rat) (h : l.length < m.length) (n : m ≠ []) : ∃ k : add l m ≠ [], (add l m).getLast k = m.getLast n := by
  induction l generalizing m with
  | nil => exact ⟨n, rfl⟩
  | cons a l ih => cases m with
    | nil => simp at h
    | cons b m =>
      have hm : m ≠ [] := by intro z; subst z; simp at h
      obtain ⟨k, e⟩ := ih m (by simpa using h) hm
      refine ⟨by simp [add], ?_⟩
      simp only [add]
      rw [List.getLast_cons k, List.getLast_cons hm, e]
theorem mul_last (l m : List Rat) (hl : l ≠ []) (hm : m ≠ []) : ∃ k : mul l m ≠ [], (mul l m).getLast k = l.getLast hl * m.getLast hm := by
  induction l with
  | nil => exact absurd rfl hl
  | cons a l ih =>
    cases l with
    | nil =>
      have e1 : mul [a] m = smul a m := by
        cases m with
        | nil => exact absurd rfl hm
        | cons b m => simp only [mul, smul, List.map_cons, add]; congr 1; grind
                      cases m <;> simp [add]
      refine ⟨by rw [e1]; simp [smul, hm], ?_⟩
      simp only [e1, smul, List.getLast_map, List.getLast_singleton]
    | cons b l =>
      obtain ⟨k, e⟩ := ih (by simp)
      have hlen := mul_len (b :: l) m (by simp) hm
      obtain ⟨k2, e2⟩ := add_last (smul a m) (0 :: mul (b :: l) m) (by have := List.length_pos_iff.mpr hm; simp only [smul, List.length_map, List.length_cons, hlen]; omega) (by simp)
      refine ⟨k2, ?_⟩
      show (add (smul a m) (0 :: mul (b :: l) m)).getLast k2 = _
      rw [e2, List.getLast_cons k, e, List.getLast_cons (a := a) (by simp)]
theorem mul_tr {l m : List Rat} (hl : Tr l) (hm : Tr m) : (l = [] ∨ m = [] → trim (mul l m) = []) ∧ (l ≠ [] → m ≠ [] → Tr (mul l m)) := by
  refine ⟨fun h => trim_nil_of_zero _ fun x => ?_, fun h1 h2 => tr_of_last fun n => ?_⟩
  · rw [ev_mul]
    rcases h with h | h <;> subst h <;> simp [ev]
  · obtain ⟨k, e⟩ := mul_last l m h1 h2
    rw [e]
    have a := hl.last h1
    have b := hm.last h2
    intro z
    rcases Rat.mul_eq_zero.mp z with z | z
    · exact a z
    · exact b z
end PM
namespace PM
structure Pol where
  f : Rat → Rat
  ok : ∃ l, f = ev l
namespace Pol
theorem ext {a b : Pol} (h : ∀ x, a.f x = b.f x) : a = b := by
  cases a; cases b; congr; funext x; exact h x
def of (l : List Rat) : Pol := ⟨ev l, l, rfl⟩
noncomputable def lst (a : Pol) : List Rat := trim a.ok.choose
theorem lst_tr (a : Pol) : Tr a.lst := tr_trim
theorem lst_ev (a : Pol) (x : Rat) : ev a.lst x = a.f x := by unfold lst; rw [ev_trim, ← a.ok.choose_spec]
theorem of_lst (a : Pol) : of a.lst = a := ext fun x => lst_ev a x
theorem lst_of {l : List Rat} (h : Tr l) : (of l).lst = l := (lst_tr _).uniq h fun x => lst_ev _ x
theorem of_trim (l : List Rat) : of (trim l) = of l := ext fun x => ev_trim
noncomputable def len (a : Pol) : Nat := a.lst.length
theorem of_ev {l m : List Rat} (h : ∀ x, ev l x = ev m x) : of l = of m := ext h
theorem of_inj {l m : List Rat} (hl : Tr l) (hm : Tr m) (h : of l = of m) : l = m := by rw [← lst_of hl, ← lst_of hm, h]

def con (c : Rat) : Pol := of [c]
def add' (a b : Pol) : Pol := ⟨fun x => a.f x + b.f x, let ⟨l, h⟩ := a.ok; let ⟨m, k⟩ := b.ok; ⟨add l m, by funext x; rw [ev_add, h, k]⟩⟩
def mul' (a b : Pol) : Pol := ⟨fun x => a.f x * b.f x, let ⟨l, h⟩ := a.ok; let ⟨m, k⟩ := b.ok; ⟨mul l m, by funext x; rw [ev_mul, h, k]⟩⟩
def neg' (a : Pol) : Pol := ⟨fun x => - a.f x, let ⟨l, h⟩ := a.ok; ⟨neg l, by funext x; rw [ev_neg, h]⟩⟩
instance : Add Pol := ⟨add'⟩
instance : Mul Pol := ⟨mul'⟩
instance : Neg Pol := ⟨neg'⟩
instance : Sub Pol := ⟨fun a b => a + -b⟩
instance : NatCast Pol := ⟨fun n => con (n : Rat)⟩
instance : IntCast Pol := ⟨fun n => con (n : Rat)⟩
instance (n : Nat) : OfNat Pol n := ⟨con (n : Rat)⟩
def pw (a : Pol) : Nat → Pol
  | 0 => con 1
  | n + 1 => pw a n * a
instance : HPow Pol Nat Pol := ⟨pw⟩
instance : SMul Nat Pol := ⟨fun n a => con (n : Rat) * a⟩
instance : SMul Int Pol := ⟨fun n a => con (n : Rat) * a⟩
theorem f_add (a b : Pol) (x : Rat) : (a + b).f x = a.f x + b.f x := rfl
theorem f_mul (a b : Pol) (x : Rat) : (a * b).f x = a.f x * b.f x := rfl
theorem f_neg (a : Pol) (x : Rat) : (-a).f x = - a.f x := rfl
theorem f_sub (a b : Pol) (x : Rat) : (a - b).f x = a.f x - b.f x := by show a.f x + - b.f x = _; grind
theorem f_con (c x : Rat) : (con c).f x = c := by show c + x * 0 = c; grind
theorem f_nat (n : Nat) (x : Rat) : (OfNat.ofNat n : Pol).f x = (n : Rat) := f_con _ _
theorem f_zero (x : Rat) : (0 : Pol).f x = 0 := f_con _ _
theorem f_one (x : Rat) : (1 : Pol).f x = 1 := f_con _ _
instance : Lean.Grind.CommRing Pol where
  add_zero a := ext fun x => by rw [f_add, f_zero]; grind
  add_comm a b := ext fun x => by rw [f_add, f_add]; grind
  add_assoc a b c := ext fun x => by simp only [f_add]; grind
  mul_assoc a b c := ext fun x => by simp only [f_mul]; grind
  mul_one a := ext fun x => by rw [f_mul, f_one]; grind
  one_mul a := ext fun x => by rw [f_mul, f_one]; grind
  left_distrib a b c := ext fun x => by simp only [f_mul, f_add]; grind
  right_distrib a b c := ext fun x => by simp only [f_mul, f_add]; grind
  zero_mul a := ext fun x => by rw [f_mul, f_zero]; grind
  mul_zero a := ext fun x => by rw [f_mul, f_zero]; grind
  pow_zero a := rfl
  pow_succ a n := rfl
  ofNat_succ n := ext fun x => by rw [f_add, f_one]; show (con ((n + 1 : Nat) : Rat)).f x = (con (n : Rat)).f x + 1; rw [f_con, f_con]; exact Rat.natCast_add n 1
  ofNat_eq_natCast n := rfl
  nsmul_eq_natCast_mul n a := rfl
  neg_add_cancel a := ext fun x => by rw [f_add, f_neg, f_zero]; grind
  sub_eq_add_neg a b := rfl
  neg_zsmul i a := ext fun x => by
    show (con ((-i : Int) : Rat) * a).f x = - (con (i : Rat) * a).f x
    rw [f_mul, f_mul, f_con, f_con, Rat.intCast_neg]; grind
  zsmul_natCast_eq_nsmul n a := rfl
  intCast_ofNat n := rfl
  intCast_neg i := ext fun x => by
    show (con ((-i : Int) : Rat)).f x = - (con (i : Rat)).f x
    rw [f_con, f_con, Rat.intCast_neg]
  mul_comm a b := ext fun x => by rw [f_mul, f_mul]; grind
example (a b : Pol) : (a + b) * (a - b) = a * a - b * b := by grind

theorem of_add (l m : List Rat) : of (add l m) = of l + of m := ext fun x => ev_add l m x
theorem of_mul (l m : List Rat) : of (mul l m) = of l * of m := ext fun x => ev_mul l m x
theorem of_nil : of [] = 0 := ext fun x => by rw [f_zero]; rfl
theorem lst_zero : (0 : Pol).lst = [] := by rw [← of_nil]; exact lst_of rfl
theorem eq_zero_iff {a : Pol} : a = 0 ↔ a.lst = [] := ⟨fun h => h ▸ lst_zero, fun h => by rw [← of_lst a, h]; exact of_nil⟩
theorem len_zero : (0 : Pol).len = 0 := by unfold len; rw [lst_zero]; rfl
theorem len_pos {a : Pol} (h : a ≠ 0) : 0 < a.len := List.length_pos_iff.mpr fun z => h (eq_zero_iff.mpr z)
theorem len_eq_zero {a : Pol} : a.len = 0 ↔ a = 0 := ⟨fun h => Classical.byContradiction fun z => by have := len_pos z; omega, fun h => h ▸ len_zero⟩
theorem len_of_le (l : List Rat) : (of l).len ≤ l.length := by
  rw [← of_trim]; unfold len; rw [lst_of tr_trim]; exact trim_len l
theorem mul_ne {a b : Pol} (ha : a ≠ 0) (hb : b ≠ 0) : a * b ≠ 0 ∧ (a * b).len + 1 = a.len + b.len := by
  have na : a.lst ≠ [] := fun z => ha (eq_zero_iff.mpr z)
  have nb : b.lst ≠ [] := fun z => hb (eq_zero_iff.mpr z)
  have t := (mul_tr a.lst_tr b.lst_tr).2 na nb
  have e : (a * b).lst = mul a.lst b.lst := by
    have : a * b = of (mul a.lst b.lst) := by rw [of_mul, of_lst, of_lst]
    rw [this]; exact lst_of t
  have l := mul_len a.lst b.lst na nb
  have pa := List.length_pos_iff.mpr na
  have pb := List.length_pos_iff.mpr nb
  refine ⟨fun z => ?_, ?_⟩
  · have := eq_zero_iff.mp z
    rw [e] at this
    rw [this] at l
    simp at l
    omega
  · unfold len; rw [e, l]; omega
theorem mul_zero_or {a b : Pol} (h : a * b = 0) : a = 0 ∨ b = 0 := by
  by_cases ha : a = 0
  · exact .inl ha
  · by_cases hb : b = 0
    · exact .inr hb
    · exact absurd h (mul_ne ha hb).1
theorem cancel {a b c : Pol} (ha : a ≠ 0) (h : a * b = a * c) : b = c := by
  have : a * (b - c) = 0 := by grind
  rcases mul_zero_or this with z | z
  · exact absurd z ha
  · grind
theorem len_add_le (a b : Pol) : (a + b).len ≤ max a.len b.len := by
  have : a + b = of (add a.lst b.lst) := by rw [of_add, of_lst, of_lst]
  rw [this]
  refine Nat.le_trans (len_of_le _) ?_
  rw [add_len]; exact Nat.le_refl _
theorem len_neg (a : Pol) : (-a).len ≤ a.len := by
  have : -a = of (neg a.lst) := ext fun x => by rw [f_neg, ← lst_ev]; exact (ev_neg _ _).symm
  rw [this]
  refine Nat.le_trans (len_of_le _) ?_
  unfold neg; rw [List.length_map]; exact Nat.le_refl _
theorem len_sub_le (a b : Pol) : (a - b).len ≤ max a.len b.len := by
  have e : a - b = a + -b := rfl
  rw [e]
  have := len_add_le a (-b)
  have := len_neg b
  omega
theorem one_ne : (1 : Pol) ≠ 0 := fun h => by have := congrArg (fun a => a.f 0) h; simp only [f_one, f_zero] at this; exact absurd this (by decide)
theorem con_ne {c : Rat} (h : c ≠ 0) : con c ≠ 0 := fun z => by have := congrArg (fun a => a.f 0) z; simp only [f_con, f_zero] at this; exact h this
theorem len_one {a : Pol} (h : a.len = 1) : ∃ c, c ≠ 0 ∧ a = con c := by
  unfold len at h
  match e : a.lst, h with
  | [c], _ =>
    refine ⟨c, ?_, by rw [← of_lst a, e]; rfl⟩
    have := a.lst_tr.last (by rw [e]; simp)
    simpa [e] using this
theorem len_con {c : Rat} (h : c ≠ 0) : (con c).len = 1 := by
  unfold con len
  rw [lst_of (by unfold Tr; rw [trim, trim, cut_nil, if_neg h])]; rfl

/-! ### what divides -/
def Dvd (a b : Pol) : Prop := ∃ c, b = a * c
theorem Dvd.refl (a : Pol) : Dvd a a := ⟨1, by grind⟩
theorem Dvd.trans {a b c : Pol} (h : Dvd a b) (g : Dvd b c) : Dvd a c := by
  obtain ⟨u, rfl⟩ := h
  obtain ⟨v, rfl⟩ := g
  exact ⟨u * v, by grind⟩
theorem Dvd.mulR {a b : Pol} (h : Dvd a b) (c : Pol) : Dvd a (b * c) := by obtain ⟨u, rfl⟩ := h; exact ⟨u * c, by grind⟩
theorem Dvd.mulL {a b : Pol} (h : Dvd a b) (c : Pol) : Dvd a (c * b) := by obtain ⟨u, rfl⟩ := h; exact ⟨u * c, by grind⟩
theorem Dvd.add {a b c : Pol} (h : Dvd a b) (g : Dvd a c) : Dvd a (b + c) := by obtain ⟨u, rfl⟩ := h; obtain ⟨v, rfl⟩ := g; exact ⟨u + v, by grind⟩
theorem Dvd.sub {a b c : Pol} (h : Dvd a b) (g : Dvd a c) : Dvd a (b - c) := by obtain ⟨u, rfl⟩ := h; obtain ⟨v, rfl⟩ := g; exact ⟨u - v, by grind⟩
theorem Dvd.zero (a : Pol) : Dvd a 0 := ⟨0, by grind⟩
theorem Dvd.len {a b : Pol} (h : Dvd a b) (hb : b ≠ 0) : a.len ≤ b.len := by
  obtain ⟨c, rfl⟩ := h
  have ha : a ≠ 0 := fun z => hb (by rw [z]; grind)
  have hc : c ≠ 0 := fun z => hb (by rw [z]; grind)
  have := (mul_ne ha hc).2
  have := len_pos hc
  omega
theorem Dvd.of_zero {b : Pol} (h : Dvd 0 b) : b = 0 := by obtain ⟨c, rfl⟩ := h; grind
theorem Dvd.con {c : Rat} (h : c ≠ 0) (a : Pol) : Dvd (con c) a := ⟨Pol.con (1 / c) * a, by
  have : Pol.con c * Pol.con (1 / c) = 1 := ext fun x => by rw [f_mul, f_con, f_con, f_one]; grind
  grind⟩
/-- a, b have no common divisor: as sums -/
def Cop (a b : Pol) : Prop := ∃ u v, u * a + v * b = 1
theorem Cop.dvd {a b c : Pol} (h : Cop a b) (d : Dvd a (b * c)) : Dvd a c := by
  obtain ⟨u, v, e⟩ := h
  obtain ⟨w, f⟩ := d
  refine ⟨u * c + v * w, ?_⟩
  grind
theorem Cop.of_dvd {a b c : Pol} (h : Cop a b) (d : Dvd c a) : Cop c b := by
  obtain ⟨u, v, e⟩ := h
  obtain ⟨w, rfl⟩ := d
  exact ⟨u * w, v, by grind⟩
theorem Cop.symm {a b : Pol} (h : Cop a b) : Cop b a := by obtain ⟨u, v, e⟩ := h; exact ⟨v, u, by grind⟩
/-- g is a greatest common divisor -/
structure Gcd (a b g : Pol) : Prop where
  l : Dvd g a
  r : Dvd g b
  s : ∃ u v, g = u * a + v * b
theorem Gcd.dvd {a b g c : Pol} (h : Gcd a b g) (h1 : Dvd c a) (h2 : Dvd c b) : Dvd c g := by
  obtain ⟨u, v, e⟩ := h.s
  rw [e]
  exact (h1.mulL u).add (h2.mulL v)
theorem Gcd.zero {a : Pol} : Gcd a 0 a := ⟨Dvd.refl a, Dvd.zero a, 1, 0, by grind⟩
theorem Gcd.scale {a b g : Pol} {c : Rat} (hc : c ≠ 0) (h : Gcd a b g) : Gcd a b (g * con c) := by
  have e : Pol.con c * Pol.con (1 / c) = 1 := ext fun x => by rw [f_mul, f_con, f_con, f_one]; grind
  obtain ⟨⟨p, hp⟩, ⟨q, hq⟩, u, v, hs⟩ := h
  exact ⟨⟨p * con (1 / c), by grind⟩, ⟨q * con (1 / c), by grind⟩, u * con c, v * con c, by grind⟩
/-- one turn of Euclid -/
theorem Gcd.step {a b q r g : Pol} {c : Rat} (hc : c ≠ 0) (e : a = q * b + r) (h : Gcd b (r * con c) g) : Gcd a b g := by
  have e1 : Pol.con c * Pol.con (1 / c) = 1 := ext fun x => by rw [f_mul, f_con, f_con, f_one]; grind
  obtain ⟨⟨p, hp⟩, ⟨s, hs⟩, u, v, hg⟩ := h
  have hr : r = g * (s * con (1 / c)) := by
    have : r = (r * con c) * con (1 / c) := by grind
    rw [this, hs]; grind
  refine ⟨⟨q * p + s * con (1 / c), ?_⟩, ⟨p, hp⟩, v * con c, u - v * con c * q, ?_⟩
  · rw [e, hr]
    have : q * b = q * (g * p) := by rw [← hp]
    rw [this]; grind
  · rw [hg, e]; grind
theorem Gcd.cop {a b g p q : Pol} (h : Gcd a b g) (hg : g ≠ 0) (ha : a = g * p) (hb : b = g * q) : Cop p q := by
  obtain ⟨u, v, e⟩ := h.s
  refine ⟨u, v, cancel hg ?_⟩
  grind

/-! ### the derivative -/
noncomputable def D (a : Pol) : Pol := ⟨dv a.ok.choose, by
  have : ∀ l : List Rat, ∃ m, dv l = ev m := by
    intro l
    induction l with
    | nil => exact ⟨[], rfl⟩
    | cons a l ih =>
      obtain ⟨m, e⟩ := ih
      refine ⟨add l (0 :: m), ?_⟩
      funext x
      rw [ev_add, dv, ev, e]; grind
  exact this _⟩
theorem D_of (l : List Rat) (x : Rat) : (D (of l)).f x = dv l x := by
  show dv (of l).ok.choose x = _
  exact dv_uniq (fun y => congrFun (of l).ok.choose_spec.symm y) x
theorem D_lst (a : Pol) (x : Rat) : (D a).f x = dv a.lst x := by
  have := D_of a.lst x
  rw [of_lst] at this; exact this
theorem D_mul (a b : Pol) : D (a * b) = D a * b + a * D b := ext fun x => by
  have e : a * b = of (mul a.lst b.lst) := by rw [of_mul, of_lst, of_lst]
  rw [e, D_of, dv_mul, f_add, f_mul, f_mul, D_lst, D_lst, lst_ev, lst_ev]
theorem D_add (a b : Pol) : D (a + b) = D a + D b := ext fun x => by
  have e : a + b = of (add a.lst b.lst) := by rw [of_add, of_lst, of_lst]
  rw [e, D_of, dv_add, f_add, D_lst, D_lst]
theorem D_con (c : Rat) : D (con c) = 0 := ext fun x => by
  rw [f_zero]; unfold con; rw [D_of]; simp only [dv, ev]; grind
/-- the coefficients of the derivative -/
def dl : Nat → List Rat → List Rat
  | _, [] => []
  | n, a :: l => (n : Rat) * a :: dl (n + 1) l
theorem dl_len (l : List Rat) : ∀ n, (dl n l).length = l.length := by
  induction l with
  | nil => intro n; rfl
  | cons a l ih => intro n; simp [dl, ih]
theorem ev_dl (l : List Rat) (x : Rat) : ∀ n : Nat, ev (dl n l) x = (n : Rat) * ev l x + x * dv l x := by
  induction l with
  | nil => intro n; simp only [dl, ev, dv]; grind
  | cons a l ih =>
    intro n
    simp only [dl, ev, dv, ih]
    have : ((n + 1 : Nat) : Rat) = (n : Rat) + 1 := Rat.natCast_add n 1
    rw [this]; grind
theorem dv_dl (a : Rat) (l : List Rat) (x : Rat) : dv (a :: l) x = ev (dl 1 l) x := by
  rw [ev_dl]; simp only [dv]
  have : ((1 : Nat) : Rat) = 1 := rfl
  rw [this]; grind
theorem dl_last (l : List Rat) : ∀ (n : Nat) (h : l ≠ []) (k : dl n l ≠ []), (dl n l).getLast k = ((n + l.length - 1 : Nat) : Rat) * l.getLast h := by
  induction l with
  | nil => intro n h; exact absurd rfl h
  | cons a l ih =>
    intro n h k
    cases l with
    | nil => simp [dl]
    | cons b l =>
      have := ih (n + 1) (by simp) (by simp [dl])
      simp only [dl] at this ⊢
      rw [List.getLast_cons (by simp), this, List.getLast_cons (a := a) (by simp)]
      have : n + 1 + (b :: l).length - 1 = n + (a :: b :: l).length - 1 := by simp only [List.length_cons]; omega
      rw [this]
theorem dl_tr {l : List Rat} (h : Tr l) {n : Nat} (hn : 0 < n) : Tr (dl n l) := tr_of_last fun k => by
  have hl : l ≠ [] := fun z => k (by rw [z]; rfl)
  rw [dl_last l n hl k]
  intro z
  rcases Rat.mul_eq_zero.mp z with z | z
  · have : n + l.length - 1 = 0 := by exact_mod_cast z
    have := List.length_pos_iff.mpr hl
    omega
  · exact h.last hl z
/-- the derivative's coefficients -/
theorem D_cons (a : Rat) (l : List Rat) : D (of (a :: l)) = of (dl 1 l) := ext fun x => by rw [D_of, dv_dl]; rfl
theorem D_len (a : Pol) : (D a).len = a.len - 1 := by
  cases e : a.lst with
  | nil =>
    have : a = 0 := eq_zero_iff.mpr e
    subst this
    have : D (0 : Pol) = 0 := D_con 0
    rw [this, len_zero]
  | cons b l =>
    have t := a.lst_tr
    rw [e] at t
    have h : D a = of (dl 1 l) := by rw [← D_cons, ← e, of_lst]
    rw [h]; unfold len
    rw [lst_of (dl_tr t.tail (by decide)), dl_len, e]; rfl

/-! ### powers -/
theorem pow_zero (a : Pol) : a ^ 0 = 1 := rfl
theorem pow_succ (a : Pol) (n : Nat) : a ^ (n + 1) = a ^ n * a := rfl
theorem pow_le {a : Pol} {m n : Nat} (h : m ≤ n) : Dvd (a ^ m) (a ^ n) := by
  induction h with
  | refl => exact Dvd.refl _
  | step _ ih => rw [pow_succ]; exact ih.mulR a

/-! ### squarefree parts -/
section
variable (gcds : ∀ a b : Pol, ∃ g, Gcd a b g)
include gcds
/-- g divides g' h: then it divides a power of h -/
theorem pow_of {h : Pol} : ∀ (n : Nat) (g : Pol), g.len ≤ n + 1 → g ≠ 0 → Dvd g (D g * h) → Dvd g (h ^ n)
  | 0, g, hl, hg, _ => by
    have : g.len = 1 := by have := len_pos hg; omega
    obtain ⟨c, hc, rfl⟩ := len_one this
    exact Dvd.con hc _
  | n + 1, g, hl, hg, hd => by
    by_cases hs : g.len ≤ n + 1
    · exact (pow_of n g hs hg hd).trans (pow_le (Nat.le_succ n))
    obtain ⟨u, G⟩ := gcds g (D g)
    obtain ⟨v, ev⟩ := id G.l
    obtain ⟨w, ew⟩ := id G.r
    have hu : u ≠ 0 := fun z => hg (by rw [ev, z]; grind)
    have hv : v ≠ 0 := fun z => hg (by rw [ev, z]; grind)
    have hD : D g ≠ 0 := fun z => by
      have := D_len g
      rw [z, len_zero] at this
      omega
    have lu := G.r.len hD
    rw [D_len] at lu
    have cop : Cop v w := G.cop hu ev ew
    have hvh : Dvd v h := by
      refine cop.dvd (b := w) ?_
      obtain ⟨t, et⟩ := hd
      refine ⟨t, cancel hu ?_⟩
      have : D g * h = u * (w * h) := by rw [ew]; grind
      rw [← this, et, ev]; grind
    obtain ⟨h1, eh⟩ := id hvh
    have hu2 : Dvd u (D u * h) := by
      have e1 : D g = D u * v + u * D v := by rw [ev]; exact D_mul u v
      refine ⟨(w - D v) * h1, ?_⟩
      have e2 : D u * v = u * (w - D v) := by grind
      rw [eh]
      have : D u * (v * h1) = (D u * v) * h1 := by grind
      rw [this, e2]; grind
    have := pow_of n u (by omega) hu hu2
    obtain ⟨t, et⟩ := this
    refine ⟨t * h1, ?_⟩
    rw [pow_succ, et, ev, eh]; grind
/-- THE SQUAREFREE PART -/
theorem flat_of {f g h : Pol} (hf : f ≠ 0) (G : Gcd f (D f) g) (e : f = g * h) : (∀ d, Dvd d h → Dvd d (D h) → d.len = 1) ∧ ∀ n, f.len ≤ n → Dvd f (h ^ n) := by
  obtain ⟨k, ek⟩ := id G.r
  have hg : g ≠ 0 := fun z => hf (by rw [e, z]; grind)
  have hh : h ≠ 0 := fun z => hf (by rw [e, z]; grind)
  have cop : Cop h k := G.cop hg e ek
  have eD : D f = D g * h + g * D h := by rw [e]; exact D_mul g h
  have key : D g * h = g * (k - D h) := by grind
  have lm := (mul_ne hg hh).2
  rw [← e] at lm
  have lh := len_pos hh
  have lg := len_pos hg
  refine ⟨fun d d1 d2 => ?_, fun n hn => ?_⟩
  · obtain ⟨h1, e1⟩ := id d1
    have hd : d ≠ 0 := fun z => hh (by rw [e1, z]; grind)
    have cdk : Cop d (k - D h) := by
      obtain ⟨u, v, q⟩ := cop.of_dvd d1
      obtain ⟨w, f2⟩ := id d2
      exact ⟨u + v * w, v, by rw [f2]; grind⟩
    have e3 : D h = D d * h1 + d * D h1 := by rw [e1]; exact D_mul d h1
    have dh1 : Dvd d (D d * h1) := by
      obtain ⟨w, f2⟩ := id d2
      exact ⟨w - D h1, by grind⟩
    -- any power of d divides g
    have all : ∀ s : Nat, Dvd (d ^ s) g := by
      intro s
      induction s with
      | zero => exact ⟨g, by rw [pow_zero]; grind⟩
      | succ s ih =>
        obtain ⟨y, ey⟩ := ih
        have powD : Dvd (d ^ s) (D (d ^ s) * d) ∧ ∃ t, D (d ^ s) * d = d ^ s * (t * D d) := by
          have : ∀ s : Nat, ∃ t, D (d ^ s) * d = d ^ s * (t * D d) := by
            intro s
            induction s with
            | zero => exact ⟨0, by rw [pow_zero, show D (1 : Pol) = 0 from D_con 1]; grind⟩
            | succ s ih =>
              obtain ⟨t, et⟩ := ih
              refine ⟨t + 1, ?_⟩
              rw [pow_succ, D_mul]
              have : (D (d ^ s) * d + d ^ s * D d) * d = (D (d ^ s) * d) * d + d ^ s * D d * d := by grind
              rw [this, et]; grind
          obtain ⟨t, et⟩ := this s
          exact ⟨⟨t * D d, et⟩, t, et⟩
        obtain ⟨_, t, et⟩ := powD
        have hds : d ^ s ≠ 0 := fun z => hg (by rw [ey, z]; grind)
        have eg : D g = D (d ^ s) * y + d ^ s * D y := by rw [ey]; exact D_mul _ y
        have k2 : d ^ s * (y * (k - D h)) = d ^ s * (t * D d * y * h1 + d * D y * h1) := by
          have a1 : d ^ s * (y * (k - D h)) = D g * h := by rw [key, ey]; grind
          rw [a1, eg, e1]
          have a2 : (D (d ^ s) * y + d ^ s * D y) * (d * h1) = (D (d ^ s) * d) * y * h1 + d ^ s * (d * D y * h1) := by grind
          rw [a2, et]; grind
        have k3 := cancel hds k2
        have k4 : Dvd d (y * (k - D h)) := by
          rw [k3]
          obtain ⟨w, ew⟩ := dh1
          refine ⟨t * y * w + D y * h1, ?_⟩
          have : t * D d * y * h1 = t * y * (D d * h1) := by grind
          rw [this, ew]; grind
        have k5 : Dvd d ((k - D h) * y) := by
          have : (k - D h) * y = y * (k - D h) := by grind
          rw [this]; exact k4
        obtain ⟨z, ez⟩ := cdk.dvd k5
        exact ⟨z, by rw [ey, ez, pow_succ]; grind⟩
    refine Classical.byContradiction fun hne => ?_
    have ld := len_pos hd
    have lp : ∀ s : Nat, d ^ s ≠ 0 ∧ s + 1 ≤ (d ^ s).len := by
      intro s
      induction s with
      | zero => exact ⟨one_ne, by rw [pow_zero]; exact len_pos one_ne⟩
      | succ s ih =>
        have := mul_ne ih.1 hd
        rw [pow_succ]
        exact ⟨this.1, by omega⟩
    have := (all g.len).len hg
    have := (lp g.len).2
    omega
  · have := pow_of gcds (h := h) (g.len - 1) g (by omega) hg ⟨k - D h, key⟩
    have h2 : Dvd f (h ^ (g.len - 1 + 1)) := by
      obtain ⟨t, et⟩ := this
      exact ⟨t, by rw [pow_succ, et, e]; grind⟩
    exact h2.trans (pow_le (by omega))
end
end Pol
end PM
namespace PM
open Pol
/-! ### sums into a list -/
def at0 (l : List Rat) (i : Nat) : Rat := l[i]?.getD 0
def up (f : List Rat) (i : Nat) (c : Rat) : List Rat := f.set i (at0 f i + c)
def addN (f : List Rat) (k : Nat) (c : Rat) (m : List Rat) : Nat → List Rat
  | 0 => f
  | j + 1 => up (addN f k c m j) (k + j) (c * at0 m j)
theorem up_len (f : List Rat) (i : Nat) (c : Rat) : (up f i c).length = f.length := List.length_set
theorem addN_len (f : List Rat) (k : Nat) (c : Rat) (m : List Rat) : ∀ j, (addN f k c m j).length = f.length
  | 0 => rfl
  | j + 1 => by rw [addN, up_len, addN_len f k c m j]
theorem at0_up {f : List Rat} {i p : Nat} {c : Rat} (h : i < f.length) : at0 (up f i c) p = if p = i then at0 f i + c else at0 f p := by
  unfold up at0
  by_cases e : p = i
  · subst e; rw [List.getElem?_set_self h, if_pos rfl]; rfl
  · rw [List.getElem?_set_ne (Ne.symm e), if_neg e]
theorem ev_set (f : List Rat) (x c : Rat) : ∀ (i : Nat), i < f.length → ev (f.set i c) x = ev f x + (c - at0 f i) * x ^ i := by
  induction f with
  | nil => intro i h; simp at h
  | cons a f ih =>
    intro i h
    cases i with
    | zero => simp only [List.set_cons_zero, ev, at0, List.getElem?_cons_zero, Option.getD_some]; grind
    | succ i =>
      have := ih i (by simpa using h)
      simp only [List.set_cons_succ, ev, this, at0, List.getElem?_cons_succ]; grind
theorem ev_up {f : List Rat} {i : Nat} {c x : Rat} (h : i < f.length) : ev (up f i c) x = ev f x + c * x ^ i := by
  unfold up; rw [ev_set f x _ i h]; grind
theorem ev_addN {f : List Rat} {k : Nat} {c : Rat} {m : List Rat} (x : Rat) : ∀ j, k + j ≤ f.length → ev (addN f k c m j) x = ev f x + c * x ^ k * ev (m.take j) x
  | 0, _ => by simp only [addN, List.take_zero, ev]; grind
  | j + 1, h => by
    rw [addN, ev_up (by rw [addN_len]; omega), ev_addN x j (by omega), ev_take_succ]
    have : x ^ (k + j) = x ^ k * x ^ j := by
      have : ∀ j : Nat, x ^ (k + j) = x ^ k * x ^ j := by
        intro j
        induction j with
        | zero => grind
        | succ j ih => rw [← Nat.add_assoc, Rat.pow_succ, ih, Rat.pow_succ]; grind
      exact this j
    rw [this]; unfold at0; grind
theorem addN_zero {f : List Rat} {k : Nat} {m : List Rat} : ∀ j, addN f k 0 m j = f
  | 0 => rfl
  | j + 1 => by
    rw [addN, addN_zero j]
    unfold up at0
    have : ∀ y : Rat, y + 0 * ((m[j]?.getD 0) : Rat) = y := by intro y; grind
    rw [this]
    apply List.ext_getElem?
    intro i
    by_cases e : k + j = i
    · subst e
      by_cases h : k + j < f.length
      · rw [List.getElem?_set_self h, List.getElem?_eq_getElem h]; rfl
      · rw [List.set_eq_of_length_le (by omega)]
    · rw [List.getElem?_set_ne e]
theorem at0_addN {f : List Rat} {k : Nat} {c : Rat} {m : List Rat} (p : Nat) : ∀ j, k + j ≤ f.length → at0 (addN f k c m j) p = at0 f p + if k ≤ p ∧ p < k + j then c * at0 m (p - k) else 0
  | 0, _ => by rw [if_neg (by omega), addN]; grind
  | j + 1, h => by
    rw [addN, at0_up (by rw [addN_len]; omega)]
    by_cases e : p = k + j
    · subst e
      rw [if_pos rfl, at0_addN (k + j) j (by omega), if_neg (by omega), if_pos (by omega)]
      have : k + j - k = j := by omega
      rw [this]; grind
    · rw [if_neg e, at0_addN p j (by omega)]
      by_cases q : k ≤ p ∧ p < k + j
      · rw [if_pos q, if_pos (by omega)]
      · rw [if_neg q, if_neg (by omega)]
/-! products -/
def mulN (l m : List Rat) : Nat → List Rat
  | 0 => List.replicate (l.length + m.length - 1) 0
  | i + 1 => addN (mulN l m i) i (at0 l i) m m.length
theorem mulN_len (l m : List Rat) : ∀ i, (mulN l m i).length = l.length + m.length - 1
  | 0 => by simp [mulN]
  | i + 1 => by rw [mulN, addN_len, mulN_len l m i]
theorem ev_repl (n : Nat) (x : Rat) : ev (List.replicate n 0) x = 0 := by
  induction n with
  | zero => rfl
  | succ n ih => rw [List.replicate_succ, ev, ih]; grind
theorem ev_mulN {l m : List Rat} (hm : m ≠ []) (x : Rat) : ∀ i, i ≤ l.length → ev (mulN l m i) x = ev (l.take i) x * ev m x
  | 0, _ => by rw [mulN, ev_repl]; simp only [List.take_zero, ev]; grind
  | i + 1, h => by
    have := List.length_pos_iff.mpr hm
    rw [mulN, ev_addN x m.length (by rw [mulN_len]; omega), ev_mulN hm x i (by omega), List.take_length, ev_take_succ]
    unfold at0; grind
def mulP (l m : List Rat) : List Rat := trim (mulN l m l.length)
theorem of_mulP {l m : List Rat} (hm : m ≠ []) : of (mulP l m) = of l * of m := by
  unfold mulP; rw [of_trim]
  exact Pol.ext fun x => by
    show ev _ x = ev l x * ev m x
    rw [ev_mulN hm x l.length (Nat.le_refl _), List.take_length]
/-! quotients with rests -/
def divN (l m : List Rat) : Nat → List Rat × List Rat
  | 0 => (l, List.replicate (l.length + 1 - m.length) 0)
  | i + 1 =>
    let s := divN l m i
    let k := l.length - m.length - i
    let c := at0 s.1 (k + m.length - 1) / at0 m (m.length - 1)
    (addN s.1 k (-c) m m.length, s.2.set k c)
theorem divN_len {l m : List Rat} : ∀ i, (divN l m i).1.length = l.length ∧ (divN l m i).2.length = l.length + 1 - m.length
  | 0 => by simp [divN]
  | i + 1 => by
    obtain ⟨h1, h2⟩ := divN_len (l := l) (m := m) i
    exact ⟨by simp only [divN]; rw [addN_len, h1], by simp only [divN]; rw [List.length_set, h2]⟩
theorem at0_last {m : List Rat} (h : m ≠ []) : at0 m (m.length - 1) = m.getLast h := by
  unfold at0
  rw [List.getElem?_eq_getElem (by have := List.length_pos_iff.mpr h; omega), List.getLast_eq_getElem]; rfl
theorem divN_ok {l m : List Rat} (hm : Tr m) (hn : m ≠ []) (hl : m.length ≤ l.length) : ∀ i, i ≤ l.length + 1 - m.length →
    (∀ x, ev (divN l m i).2 x * ev m x + ev (divN l m i).1 x = ev l x) ∧ (∀ p, l.length - i ≤ p → at0 (divN l m i).1 p = 0) ∧ (∀ p, p < l.length + 1 - m.length - i → at0 (divN l m i).2 p = 0)
  | 0, _ => by
    refine ⟨fun x => by simp only [divN]; rw [ev_repl]; grind, fun p hp => ?_, fun p hp => ?_⟩
    · simp only [divN]; unfold at0; rw [List.getElem?_eq_none (by omega)]; rfl
    · simp only [divN]; unfold at0; rw [List.getElem?_replicate]; split <;> rfl
  | i + 1, hi => by
    obtain ⟨h1, h2, h3⟩ := divN_ok hm hn hl i (by omega)
    obtain ⟨l1, l2⟩ := divN_len (l := l) (m := m) i
    have pm := List.length_pos_iff.mpr hn
    have hk : l.length - m.length - i + m.length ≤ (divN l m i).1.length := by rw [l1]; omega
    have lead : at0 m (m.length - 1) ≠ 0 := by rw [at0_last hn]; exact hm.last hn
    refine ⟨fun x => ?_, fun p hp => ?_, fun p hp => ?_⟩
    · simp only [divN]
      rw [ev_addN x m.length hk, List.take_length, ev_set _ x _ _ (by rw [l2]; omega), h3 _ (by omega)]
      have := h1 x
      grind
    · simp only [divN]
      rw [at0_addN p m.length hk]
      by_cases e : p = l.length - (i + 1)
      · have e2 : l.length - m.length - i + m.length - 1 = p := by omega
        have e3 : p - (l.length - m.length - i) = m.length - 1 := by omega
        rw [if_pos (by omega), e2, e3]
        grind
      · rw [h2 p (by omega), if_neg (by omega)]; grind
    · simp only [divN]
      have := h3 p (by omega)
      unfold at0 at this ⊢
      rw [List.getElem?_set_ne (by omega)]; exact this
def quo (l m : List Rat) : List Rat := trim (divN l m (l.length + 1 - m.length)).2
def rem (l m : List Rat) : List Rat := trim (divN l m (l.length + 1 - m.length)).1
theorem trim_short {l : List Rat} {n : Nat} (h : ∀ p, n ≤ p → at0 l p = 0) : (trim l).length ≤ n := by
  have : ev (l.take n) = ev l := by
    funext x
    have all : ∀ k, ev (l.take (n + k)) x = ev (l.take n) x := by
      intro k
      induction k with
      | zero => rfl
      | succ k ih =>
        rw [← Nat.add_assoc, ev_take_succ, ih]
        have := h (n + k) (by omega)
        unfold at0 at this
        rw [this]; grind
    have := all l.length
    rw [List.take_of_length_le (by omega)] at this
    exact this.symm
  have e := trim_uniq _ _ fun x => congrFun this x
  rw [← e]
  exact Nat.le_trans (trim_len _) (by rw [List.length_take]; omega)
theorem divN_zero {l m : List Rat} (h : l.length < m.length) : divN l m (l.length + 1 - m.length) = (l, []) := by
  have : l.length + 1 - m.length = 0 := by omega
  rw [this, divN, this]; rfl
theorem div_ok {l m : List Rat} (hm : Tr m) (hn : m ≠ []) : of l = of (quo l m) * of m + of (rem l m) ∧ (rem l m).length < m.length := by
  have pm := List.length_pos_iff.mpr hn
  by_cases hl : m.length ≤ l.length
  · obtain ⟨h1, h2, h3⟩ := divN_ok hm hn hl (l.length + 1 - m.length) (Nat.le_refl _)
    refine ⟨?_, ?_⟩
    · unfold quo rem
      rw [of_trim, of_trim]
      exact Pol.ext fun x => (h1 x).symm
    · have := trim_short (n := m.length - 1) fun p hp => h2 p (by omega)
      unfold rem; omega
  · have e := divN_zero (l := l) (m := m) (by omega)
    refine ⟨?_, ?_⟩
    · unfold quo rem
      rw [e, of_trim, of_trim]
      show of l = of [] * of m + of l
      rw [of_nil]; grind
    · unfold rem; rw [e]
      have := trim_len l
      show (trim l).length < m.length
      omega
theorem quo_tr {l m : List Rat} : Tr (quo l m) := tr_trim
theorem rem_tr {l m : List Rat} : Tr (rem l m) := tr_trim
theorem len_tr {l : List Rat} (h : Tr l) : (of l).len = l.length := by unfold Pol.len; rw [lst_of h]
theorem ne_of {l : List Rat} (h : Tr l) (n : l ≠ []) : of l ≠ 0 := fun z => n (by have := Pol.eq_zero_iff.mp z; rwa [lst_of h] at this)
/-- the quotient and the rest are the only ones -/
theorem div_uniq {l m : List Rat} {q r : List Rat} (hm : Tr m) (hn : m ≠ []) (hq : Tr q) (hr : Tr r) (e : of l = of q * of m + of r) (hl : r.length < m.length) : quo l m = q ∧ rem l m = r := by
  obtain ⟨e1, l1⟩ := div_ok (l := l) hm hn
  have h : (of (quo l m) - of q) * of m = of r - of (rem l m) := by grind
  have hz : of (quo l m) - of q = 0 := by
    refine Classical.byContradiction fun z => ?_
    have := (mul_ne z (ne_of hm hn)).2
    rw [h] at this
    have a := len_sub_le (of r) (of (rem l m))
    rw [len_tr hr, len_tr rem_tr] at a
    rw [len_tr hm] at this
    have := len_pos z
    omega
  have e2 : of (quo l m) = of q := by grind
  have e3 : of (rem l m) = of r := by grind
  exact ⟨of_inj quo_tr hq e2, of_inj rem_tr hr e3⟩
/-- the rest is nought where it divides -/
theorem rem_nil {l m : List Rat} (hm : Tr m) (hn : m ≠ []) (h : Dvd (of m) (of l)) : rem l m = [] := by
  obtain ⟨c, e⟩ := h
  refine (div_uniq (q := c.lst) (r := []) hm hn c.lst_tr rfl ?_ (List.length_pos_iff.mpr hn)).2
  rw [e, of_lst, of_nil]; grind
theorem dvd_of_rem {l m : List Rat} (hm : Tr m) (hn : m ≠ []) (h : rem l m = []) : Dvd (of m) (of l) := by
  refine ⟨of (quo l m), ?_⟩
  rw [(div_ok (l := l) hm hn).1, h, of_nil]; grind
/-! the last one made 1 -/
def inv (l : List Rat) : Rat := 1 / at0 l (l.length - 1)
def unit (l : List Rat) : List Rat := l.map fun a => a * inv l
theorem unit_nil : unit [] = [] := rfl
theorem unit_len (l : List Rat) : (unit l).length = l.length := by unfold unit; simp
theorem inv_ne {l : List Rat} (h : Tr l) (n : l ≠ []) : inv l ≠ 0 := by
  unfold inv; rw [at0_last n]
  have := h.last n
  grind
theorem unit_last {l : List Rat} (h : Tr l) (n : l ≠ []) : ∃ k : unit l ≠ [], (unit l).getLast k = 1 := by
  refine ⟨by unfold unit; simpa using n, ?_⟩
  unfold unit
  rw [List.getLast_map]
  unfold inv; rw [at0_last n]
  have := h.last n
  grind
theorem unit_tr {l : List Rat} (h : Tr l) : Tr (unit l) := by
  by_cases n : l = []
  · subst n; rfl
  · obtain ⟨k, e⟩ := unit_last h n
    exact tr_of_last fun _ => by rw [e]; decide
theorem of_unit (l : List Rat) : of (unit l) = of l * con (inv l) := Pol.ext fun x => by
  rw [f_mul, f_con]
  show ev (unit l) x = ev l x * inv l
  unfold unit
  generalize inv l = c
  induction l with
  | nil => simp only [List.map_nil, ev]; grind
  | cons a l ih => simp only [List.map_cons, ev, ih]; grind
theorem dvd_unit {l : List Rat} (h : Tr l) {a : Pol} : (Dvd a (of (unit l)) ↔ Dvd a (of l)) ∧ (Dvd (of (unit l)) a ↔ Dvd (of l) a) := by
  by_cases n : l = []
  · subst n; rw [unit_nil]; exact ⟨Iff.rfl, Iff.rfl⟩
  · have hi := inv_ne h n
    have e1 : con (inv l) * con (1 / inv l) = 1 := Pol.ext fun x => by rw [f_mul, f_con, f_con, f_one]; grind
    have e2 : of l = of (unit l) * con (1 / inv l) := by rw [of_unit]; grind
    have d1 : Dvd (of (unit l)) (of l) := ⟨_, e2⟩
    have d2 : Dvd (of l) (of (unit l)) := ⟨_, of_unit l⟩
    exact ⟨⟨fun z => z.trans d1, fun z => z.trans d2⟩, fun z => d2.trans z, fun z => d1.trans z⟩
/-! common divisors -/
def com : Nat → List Rat → List Rat → List Rat
  | 0, l, _ => unit l
  | k + 1, l, m => if m = [] then unit l else com k m (unit (rem l m))
theorem com_ok : ∀ (k : Nat) (l m : List Rat), Tr l → Tr m → m.length ≤ k → Gcd (of l) (of m) (of (com k l m)) ∧ Tr (com k l m) ∧ ((l ≠ [] ∨ m ≠ []) → ∃ n : com k l m ≠ [], (com k l m).getLast n = 1) := by
  have base : ∀ l : List Rat, Tr l → Gcd (of l) (of []) (of (unit l)) ∧ Tr (unit l) ∧ ((l ≠ [] ∨ ([] : List Rat) ≠ []) → ∃ n : unit l ≠ [], (unit l).getLast n = 1) := fun l hl => by
    refine ⟨?_, unit_tr hl, fun h => unit_last hl (h.resolve_right fun z => z rfl)⟩
    rw [of_nil, of_unit]
    by_cases n : l = []
    · subst n
      rw [of_nil]
      have : (0 : Pol) * con (inv []) = 0 := by grind
      rw [this]; exact Gcd.zero
    · exact Gcd.zero.scale (inv_ne hl n)
  intro k
  induction k with
  | zero =>
    intro l m hl hm hk
    have : m = [] := List.eq_nil_of_length_eq_zero (by omega)
    subst this
    exact base l hl
  | succ k ih =>
    intro l m hl hm hk
    by_cases n : m = []
    · have ec : com (k + 1) l m = unit l := by rw [com, if_pos n]
      simp only [ec]; subst n; exact base l hl
    · have ec : com (k + 1) l m = com k m (unit (rem l m)) := by rw [com, if_neg n]
      simp only [ec]
      obtain ⟨e, lr⟩ := div_ok (l := l) hm n
      obtain ⟨h1, h2, h3⟩ := ih m (unit (rem l m)) hm (unit_tr rem_tr) (by rw [unit_len]; omega)
      refine ⟨?_, h2, fun _ => h3 (.inl n)⟩
      rw [of_unit] at h1
      by_cases r : rem l m = []
      · have er : of (rem l m) = 0 := by rw [r]; exact of_nil
        rw [er] at h1 e
        refine Gcd.step (c := 1) (q := of (quo l m)) (r := 0) (by decide) e ?_
        have a : (0 : Pol) * con 1 = 0 := by grind
        have b : (0 : Pol) * con (inv (rem l m)) = 0 := by grind
        rw [a]; rw [b] at h1; exact h1
      · exact Gcd.step (inv_ne rem_tr r) e h1
theorem gcds (a b : Pol) : ∃ g, Gcd a b g := by
  have := (com_ok b.lst.length a.lst b.lst a.lst_tr b.lst_tr (Nat.le_refl _)).1
  rw [of_lst, of_lst] at this
  exact ⟨_, this⟩
end PM
namespace PM
open Pol
/-! ### how great the numbers are -/
def Ob (d B : Nat) (a : Rat) : Prop := ∃ z : Int, a * (d : Rat) = (z : Rat) ∧ z.natAbs ≤ B
theorem Ob.mono {d B C : Nat} {a : Rat} (h : Ob d B a) (e : B ≤ C) : Ob d C a := let ⟨z, h1, h2⟩ := h; ⟨z, h1, Nat.le_trans h2 e⟩
theorem Ob.zero {d B : Nat} : Ob d B 0 := ⟨0, by rw [Rat.zero_mul]; rfl, Nat.zero_le _⟩
theorem Ob.add {d B C : Nat} {a b : Rat} (h : Ob d B a) (g : Ob d C b) : Ob d (B + C) (a + b) := by
  obtain ⟨z, h1, h2⟩ := h
  obtain ⟨w, g1, g2⟩ := g
  refine ⟨z + w, ?_, by omega⟩
  rw [Rat.intCast_add, ← h1, ← g1]; grind
theorem Ob.neg {d B : Nat} {a : Rat} (h : Ob d B a) : Ob d B (-a) := by
  obtain ⟨z, h1, h2⟩ := h
  refine ⟨-z, ?_, by omega⟩
  rw [Rat.intCast_neg, ← h1]; grind
theorem Ob.mul {d e B C : Nat} {a b : Rat} (h : Ob d B a) (g : Ob e C b) : Ob (d * e) (B * C) (a * b) := by
  obtain ⟨z, h1, h2⟩ := h
  obtain ⟨w, g1, g2⟩ := g
  refine ⟨z * w, ?_, by rw [Int.natAbs_mul]; exact Nat.mul_le_mul h2 g2⟩
  rw [Rat.intCast_mul, ← h1, ← g1, Rat.natCast_mul]; grind
theorem Ob.scale {d B : Nat} {a : Rat} (h : Ob d B a) (e : Nat) : Ob (d * e) (B * e) a := by
  obtain ⟨z, h1, h2⟩ := h
  refine ⟨z * (e : Int), ?_, by rw [Int.natAbs_mul]; exact Nat.mul_le_mul h2 (by simp)⟩
  rw [Rat.intCast_mul, ← h1, Rat.natCast_mul]
  show _ = a * (d : Rat) * ((e : Nat) : Rat)
  grind
theorem Ob.int (z : Int) : Ob 1 z.natAbs (z : Rat) := ⟨z, by show (z : Rat) * ((1 : Nat) : Rat) = _; have : ((1 : Nat) : Rat) = 1 := rfl; rw [this]; grind, Nat.le_refl _⟩
theorem ob_sm {d B : Nat} {a : Rat} (hd : 0 < d) (h : Ob d B a) : a.num.natAbs ≤ B ∧ a.den ≤ d := by
  obtain ⟨z, h1, h2⟩ := h
  have ha : a = (a.num : Rat) / ((a.den : Nat) : Rat) := by
    have := Rat.num_divInt_den a
    rw [Rat.divInt_eq_div] at this
    exact this.symm
  have hden : ((a.den : Nat) : Rat) ≠ 0 := by
    intro q
    have : a.den = 0 := by exact_mod_cast q
    exact a.den_nz this
  have e : (a.num : Rat) * (d : Rat) = (z : Rat) * ((a.den : Nat) : Rat) := by
    have : (a.num : Rat) = a * ((a.den : Nat) : Rat) := by grind
    rw [this, ← h1]; grind
  have e2 : a.num * (d : Int) = z * (a.den : Int) := by exact_mod_cast e
  have e3 : a.num.natAbs * d = z.natAbs * a.den := by
    have := congrArg Int.natAbs e2
    rw [Int.natAbs_mul, Int.natAbs_mul] at this
    simpa using this
  have dv : a.den ∣ d := by
    have : a.den ∣ a.num.natAbs * d := ⟨z.natAbs, by rw [e3, Nat.mul_comm]⟩
    exact Nat.Coprime.dvd_of_dvd_mul_left a.reduced.symm this
  have le : a.den ≤ d := Nat.le_of_dvd hd dv
  refine ⟨?_, le⟩
  have : a.num.natAbs * d ≤ z.natAbs * d := by rw [e3]; exact Nat.mul_le_mul_left _ le
  exact Nat.le_trans (Nat.le_of_mul_le_mul_right this hd) h2
/-- fractions over one denominator, all of at most h bits or so -/
def Hb (h : Nat) (l : List Rat) : Prop := ∃ d : Nat, 0 < d ∧ d ≤ 2 ^ h ∧ ∀ p, Ob d (2 ^ h) (at0 l p)
theorem Hb.mono {h k : Nat} {l : List Rat} (x : Hb h l) (e : h ≤ k) : Hb k l := by
  obtain ⟨d, h1, h2, h3⟩ := x
  have := Nat.pow_le_pow_right (n := 2) (by decide) e
  exact ⟨d, h1, Nat.le_trans h2 this, fun p => (h3 p).mono this⟩
def Sz (h : Nat) (a : Rat) : Prop := a.num.natAbs ≤ 2 ^ h ∧ a.den ≤ 2 ^ h
theorem Ob.sz {d B h : Nat} {a : Rat} (x : Ob d B a) (hd : 0 < d) (h1 : B ≤ 2 ^ h) (h2 : d ≤ 2 ^ h) : Sz h a := by
  obtain ⟨a1, a2⟩ := ob_sm hd x
  exact ⟨Nat.le_trans a1 h1, Nat.le_trans a2 h2⟩
theorem Hb.sz {h : Nat} {l : List Rat} (x : Hb h l) (p : Nat) : Sz h (at0 l p) := by
  obtain ⟨d, h1, h2, h3⟩ := x
  exact (h3 p).sz h1 (Nat.le_refl _) h2
theorem Sz.mono {h k : Nat} {a : Rat} (x : Sz h a) (e : h ≤ k) : Sz k a := by
  have := Nat.pow_le_pow_right (n := 2) (by decide) e
  exact ⟨Nat.le_trans x.1 this, Nat.le_trans x.2 this⟩
theorem at0_mem {l : List Rat} {a : Rat} (h : a ∈ l) : ∃ p, p < l.length ∧ a = at0 l p := by
  obtain ⟨p, hp, e⟩ := List.getElem_of_mem h
  exact ⟨p, hp, by unfold at0; rw [List.getElem?_eq_getElem hp, ← e]; rfl⟩
theorem at0_trim (l : List Rat) : ∀ p, at0 (trim l) p = at0 l p := by
  induction l with
  | nil => intro p; rfl
  | cons a l ih =>
    intro p
    rw [trim]
    cases e : trim l with
    | nil =>
      rw [e] at ih
      rw [cut_nil]
      have z : ∀ q, at0 ([] : List Rat) q = 0 := fun q => rfl
      cases p with
      | zero =>
        by_cases ha : a = 0
        · rw [if_pos ha]; subst ha; rfl
        · rw [if_neg ha]; rfl
      | succ p =>
        have q := ih p
        rw [z] at q
        have e2 : at0 (a :: l) (p + 1) = at0 l p := rfl
        rw [e2, ← q]
        by_cases ha : a = 0
        · rw [if_pos ha]; rfl
        · rw [if_neg ha]; rfl
    | cons b m =>
      rw [e] at ih
      cases p with
      | zero => rfl
      | succ p => have := ih p; unfold at0 at this ⊢; simpa [cut] using this
theorem Hb.trim {h : Nat} {l : List Rat} (x : Hb h l) : Hb h (trim l) := by
  obtain ⟨d, h1, h2, h3⟩ := x
  exact ⟨d, h1, h2, fun p => by rw [at0_trim]; exact h3 p⟩
theorem two_pow_add (a b : Nat) : 2 ^ (a + b) = 2 ^ a * 2 ^ b := Nat.pow_add 2 a b
/-! sums -/
def addR (l m : List Rat) : List Rat := (List.range (max l.length m.length)).map fun i => at0 l i + at0 m i
theorem at0_addR (l m : List Rat) (p : Nat) : at0 (addR l m) p = at0 l p + at0 m p := by
  unfold addR
  by_cases h : p < max l.length m.length
  · conv => lhs; unfold at0
    rw [List.getElem?_map, List.getElem?_range h]; rfl
  · conv => lhs; unfold at0
    rw [List.getElem?_eq_none (by simpa using by omega)]
    unfold at0
    rw [List.getElem?_eq_none (by omega), List.getElem?_eq_none (by omega)]
    show (0 : Rat) = 0 + 0
    grind
theorem ev_ext (l m : List Rat) (h : ∀ p, at0 l p = at0 m p) (x : Rat) : ev l x = ev m x := by
  have all : ∀ k, ev (l.take k) x = ev (m.take k) x := by
    intro k
    induction k with
    | zero => rfl
    | succ k ih =>
      rw [ev_take_succ, ev_take_succ, ih]
      have := h k
      unfold at0 at this
      rw [this]
  have := all (l.length + m.length)
  rwa [List.take_of_length_le (by omega), List.take_of_length_le (by omega)] at this
theorem at0_add (l m : List Rat) : ∀ p, at0 (add l m) p = at0 l p + at0 m p := by
  induction l generalizing m with
  | nil => intro p; unfold add at0; simp; grind
  | cons a l ih =>
    intro p
    cases m with
    | nil => unfold add at0; simp; grind
    | cons b m =>
      cases p with
      | zero => rfl
      | succ p => have := ih m p; unfold at0 at this ⊢; simpa [add] using this
theorem of_addR (l m : List Rat) : of (addR l m) = of l + of m := by
  rw [← of_add]
  exact of_ev fun x => ev_ext _ _ (fun p => by rw [at0_addR, at0_add]) x
theorem Hb.addR {h k : Nat} {l m : List Rat} (x : Hb h l) (y : Hb k m) : Hb (h + k + 1) (addR l m) := by
  obtain ⟨d, h1, h2, h3⟩ := x
  obtain ⟨e, g1, g2, g3⟩ := y
  have p1 : 2 ^ (h + k + 1) = 2 ^ h * 2 ^ k + 2 ^ h * 2 ^ k := by rw [Nat.pow_succ, two_pow_add]; omega
  refine ⟨d * e, Nat.mul_pos h1 g1, ?_, fun p => ?_⟩
  · rw [p1]; have := Nat.mul_le_mul h2 g2; omega
  · rw [at0_addR, p1]
    refine ((h3 p).scale e |>.mono (Nat.mul_le_mul_left _ g2)).add ?_
    have := (g3 p).scale d
    rw [Nat.mul_comm e d] at this
    exact this.mono (by rw [Nat.mul_comm]; exact Nat.mul_le_mul_right _ h2)
theorem at0_map (f : Rat → Rat) (hf : f 0 = 0) (l : List Rat) (p : Nat) : at0 (l.map f) p = f (at0 l p) := by
  unfold at0
  rw [List.getElem?_map]
  cases l[p]? with
  | none => exact hf.symm
  | some a => rfl
theorem at0_neg (l : List Rat) (p : Nat) : at0 (neg l) p = - at0 l p := at0_map _ (by grind) l p
theorem Hb.neg {h : Nat} {l : List Rat} (x : Hb h l) : Hb h (neg l) := by
  obtain ⟨d, h1, h2, h3⟩ := x
  exact ⟨d, h1, h2, fun p => by rw [at0_neg]; exact (h3 p).neg⟩
/-! products -/
theorem mul_ob {l m : List Rat} {d e B C : Nat} (hl : ∀ p, Ob d B (at0 l p)) (hm : ∀ p, Ob e C (at0 m p)) : ∀ i, i ≤ l.length → (∀ p, Ob (d * e) (i * (B * C)) (at0 (mulN l m i) p)) ∧ (i < l.length → ∀ j, j ≤ m.length → ∀ p, Ob (d * e) ((i + 1) * (B * C)) (at0 (addN (mulN l m i) i (at0 l i) m j) p)) := by
  have step : ∀ i, i < l.length → (∀ p, Ob (d * e) (i * (B * C)) (at0 (mulN l m i) p)) → ∀ j, j ≤ m.length → ∀ p, Ob (d * e) ((i + 1) * (B * C)) (at0 (addN (mulN l m i) i (at0 l i) m j) p) := fun i hi h j hj p => by
    rw [at0_addN p j (by rw [mulN_len]; omega)]
    have e1 : (i + 1) * (B * C) = i * (B * C) + B * C := Nat.succ_mul _ _
    rw [e1]
    refine (h p).add ?_
    split
    · exact (hl i).mul (hm _)
    · exact Ob.zero
  intro i
  induction i with
  | zero =>
    intro _
    have z : ∀ p, Ob (d * e) (0 * (B * C)) (at0 (mulN l m 0) p) := fun p => by
      have : at0 (mulN l m 0) p = 0 := by unfold mulN at0; rw [List.getElem?_replicate]; split <;> rfl
      rw [this]; exact Ob.zero
    exact ⟨z, fun h => step 0 h z⟩
  | succ i ih =>
    intro hi
    obtain ⟨h1, h2⟩ := ih (by omega)
    have z : ∀ p, Ob (d * e) ((i + 1) * (B * C)) (at0 (mulN l m (i + 1)) p) := fun p => h2 (by omega) m.length (Nat.le_refl _) p
    exact ⟨z, fun h => step (i + 1) h z⟩
theorem mul_sz {l m : List Rat} {h k : Nat} (x : Hb h l) (y : Hb k m) (hl : l.length ≤ 64) :
    (∀ i j, Sz (h + k + 6) (at0 l i * at0 m j)) ∧ (∀ i, i < l.length → ∀ j, j ≤ m.length → ∀ p, Sz (h + k + 6) (at0 (addN (mulN l m i) i (at0 l i) m j) p)) ∧ Hb (h + k + 6) (mulP l m) := by
  obtain ⟨d, h1, h2, h3⟩ := x
  obtain ⟨e, g1, g2, g3⟩ := y
  have hp : 0 < d * e := Nat.mul_pos h1 g1
  have p1 : 2 ^ (h + k + 6) = 64 * (2 ^ h * 2 ^ k) := by rw [two_pow_add, two_pow_add, Nat.mul_comm]
  have hde : d * e ≤ 2 ^ (h + k + 6) := by rw [p1]; have := Nat.mul_le_mul h2 g2; omega
  have lim : ∀ i, i ≤ 64 → i * (2 ^ h * 2 ^ k) ≤ 2 ^ (h + k + 6) := fun i hi => by rw [p1]; exact Nat.mul_le_mul_right _ hi
  refine ⟨fun i j => ((h3 i).mul (g3 j)).sz hp (by have := lim 1 (by decide); omega) hde, fun i hi j hj p => ((mul_ob h3 g3 i (by omega)).2 hi j hj p).sz hp (lim _ (by omega)) hde, ?_⟩
  refine Hb.trim ⟨d * e, hp, hde, fun p => ((mul_ob h3 g3 l.length (Nat.le_refl _)).1 p).mono (lim _ hl)⟩
/-! division: rest and quotient over one denominator -/
theorem div_ob {l m : List Rat} (hm : Tr m) (hn : m ≠ []) (hl : m.length ≤ l.length) {d e B C : Nat} (hd : 0 < d) (he : 0 < e) (heC : e ≤ C) (hC : 0 < C) (h3 : ∀ p, Ob d B (at0 l p)) (g3 : ∀ p, Ob e C (at0 m p)) : ∀ i, i ≤ l.length + 1 - m.length →
    ∃ D, 0 < D ∧ D ≤ d * C ^ i ∧ (∀ p, Ob D (B * (2 * C) ^ i) (at0 (divN l m i).1 p)) ∧ (∀ p, Ob D (B * (2 * C) ^ i) (at0 (divN l m i).2 p)) ∧
      (i < l.length + 1 - m.length → ∃ D', 0 < D' ∧ D' ≤ d * C ^ (i + 1) ∧ let k := l.length - m.length - i
        let c := at0 (divN l m i).1 (k + m.length - 1) / at0 m (m.length - 1)
        Ob D' (B * (2 * C) ^ (i + 1)) c ∧ (∀ j, Ob D' (B * (2 * C) ^ (i + 1)) (c * at0 m j)) ∧ ∀ j, j ≤ m.length → ∀ p, Ob D' (B * (2 * C) ^ (i + 1)) (at0 (addN (divN l m i).1 k (-c) m j) p)) := by
  have pm := List.length_pos_iff.mpr hn
  have lead : at0 m (m.length - 1) ≠ 0 := by rw [at0_last hn]; exact hm.last hn
  obtain ⟨z, hz1, hz2⟩ := g3 (m.length - 1)
  have her : (e : Rat) ≠ 0 := by
    intro q
    have : e = 0 := by exact_mod_cast q
    omega
  have hz : z ≠ 0 := by
    intro q
    subst q
    have : at0 m (m.length - 1) * (e : Rat) = 0 := hz1
    rcases Rat.mul_eq_zero.mp this with q | q
    · exact lead q
    · exact her q
  have zn : 0 < z.natAbs := by omega
  -- one over the last one, times anything over e
  have lem : ∀ {D R : Nat} {a b : Rat}, Ob D R a → Ob e C b → Ob (D * z.natAbs) (R * C) (a / at0 m (m.length - 1) * b) := fun {D R a b} x y => by
    obtain ⟨u, hu1, hu2⟩ := x
    obtain ⟨v, hv1, hv2⟩ := y
    refine ⟨u * v * z.sign, ?_, ?_⟩
    · have s : ((z.natAbs : Nat) : Rat) = (z : Rat) * (z.sign : Rat) := by
        have : ((z.natAbs : Nat) : Int) = z * z.sign := by
          rcases Int.lt_trichotomy z 0 with h | h | h
          · rw [Int.sign_eq_neg_one_of_neg h]; omega
          · exact absurd h hz
          · rw [Int.sign_eq_one_of_pos h]; omega
        exact_mod_cast this
      rw [Rat.natCast_mul, s, Rat.intCast_mul, Rat.intCast_mul, ← hu1, ← hv1, ← hz1]
      grind
    · rw [Int.natAbs_mul, Int.natAbs_mul, Int.natAbs_sign]
      have : (if z = 0 then (0 : Nat) else 1) = 1 := if_neg hz
      rw [if_neg hz, Nat.mul_one]
      exact Nat.mul_le_mul hu2 hv2
  have lem1 : ∀ {D R : Nat} {a : Rat}, Ob D R a → Ob (D * z.natAbs) (R * C) (a / at0 m (m.length - 1)) := fun {D R a} x => by
    obtain ⟨u, hu1, hu2⟩ := x
    refine ⟨u * (e : Int) * z.sign, ?_, ?_⟩
    · have s : ((z.natAbs : Nat) : Rat) = (z : Rat) * (z.sign : Rat) := by
        have : ((z.natAbs : Nat) : Int) = z * z.sign := by
          rcases Int.lt_trichotomy z 0 with h | h | h
          · rw [Int.sign_eq_neg_one_of_neg h]; omega
          · exact absurd h hz
          · rw [Int.sign_eq_one_of_pos h]; omega
        exact_mod_cast this
      rw [Rat.natCast_mul, s, Rat.intCast_mul, Rat.intCast_mul, ← hu1, ← hz1]
      show _ = a * (D : Rat) * ((e : Nat) : Rat) * _
      grind
    · rw [Int.natAbs_mul, Int.natAbs_mul, Int.natAbs_sign, if_neg hz, Nat.mul_one]
      exact Nat.mul_le_mul hu2 (by simpa using heC)
  have step : ∀ i, i < l.length + 1 - m.length → ∀ D, 0 < D → D ≤ d * C ^ i → (∀ p, Ob D (B * (2 * C) ^ i) (at0 (divN l m i).1 p)) → (∀ p, Ob D (B * (2 * C) ^ i) (at0 (divN l m i).2 p)) →
      ∃ D', 0 < D' ∧ D' ≤ d * C ^ (i + 1) ∧ let k := l.length - m.length - i
        let c := at0 (divN l m i).1 (k + m.length - 1) / at0 m (m.length - 1)
        (Ob D' (B * (2 * C) ^ (i + 1)) c ∧ (∀ j, Ob D' (B * (2 * C) ^ (i + 1)) (c * at0 m j)) ∧ ∀ j, j ≤ m.length → ∀ p, Ob D' (B * (2 * C) ^ (i + 1)) (at0 (addN (divN l m i).1 k (-c) m j) p)) ∧ ∀ p, Ob D' (B * (2 * C) ^ (i + 1)) (at0 (divN l m i).2 p) := by
    intro i hi D hD hDl r1 r2
    have e1 : B * (2 * C) ^ (i + 1) = B * (2 * C) ^ i * C + B * (2 * C) ^ i * C := by
      rw [Nat.pow_succ, ← Nat.mul_assoc, Nat.mul_comm 2 C, ← Nat.mul_assoc]; omega
    have old : ∀ {a : Rat}, Ob D (B * (2 * C) ^ i) a → Ob (D * z.natAbs) (B * (2 * C) ^ i * C) a := fun x => (x.scale z.natAbs).mono (Nat.mul_le_mul_left _ hz2)
    refine ⟨D * z.natAbs, Nat.mul_pos hD zn, ?_, ?_⟩
    · rw [Nat.pow_succ, ← Nat.mul_assoc]; exact Nat.mul_le_mul hDl hz2
    · refine ⟨⟨?_, fun j => ?_, fun j hj p => ?_⟩, fun p => ?_⟩
      · exact (lem1 (r1 _)).mono (by rw [e1]; omega)
      · exact (lem (r1 _) (g3 j)).mono (by rw [e1]; omega)
      · rw [at0_addN p j (by rw [(divN_len (l := l) (m := m) i).1]; omega), e1]
        refine (old (r1 p)).add ?_
        split
        · have : ∀ (c a : Rat), -c * a = -(c * a) := fun c a => by grind
          rw [this]
          exact (lem (r1 _) (g3 _)).neg
        · exact Ob.zero
      · exact (old (r2 p)).mono (by rw [e1]; omega)
  intro i
  induction i with
  | zero =>
    intro _
    have a1 : ∀ p, Ob d (B * (2 * C) ^ 0) (at0 (divN l m 0).1 p) := fun p => by rw [Nat.pow_zero, Nat.mul_one]; exact h3 p
    have a2 : ∀ p, Ob d (B * (2 * C) ^ 0) (at0 (divN l m 0).2 p) := fun p => by
      have : at0 (divN l m 0).2 p = 0 := by simp only [divN]; unfold at0; rw [List.getElem?_replicate]; split <;> rfl
      rw [this]; exact Ob.zero
    refine ⟨d, hd, by rw [Nat.pow_zero, Nat.mul_one]; exact Nat.le_refl _, a1, a2, fun h => ?_⟩
    obtain ⟨D', x1, x2, x3, _⟩ := step 0 h d hd (by rw [Nat.pow_zero, Nat.mul_one]; exact Nat.le_refl _) a1 a2
    exact ⟨D', x1, x2, x3⟩
  | succ i ih =>
    intro hi
    obtain ⟨D, y1, y2, y3, y4, _⟩ := ih (by omega)
    obtain ⟨D', x1, x2, ⟨x3, x4, x5⟩, x6⟩ := step i (by omega) D y1 y2 y3 y4
    have b1 : ∀ p, Ob D' (B * (2 * C) ^ (i + 1)) (at0 (divN l m (i + 1)).1 p) := fun p => x5 m.length (Nat.le_refl _) p
    have b2 : ∀ p, Ob D' (B * (2 * C) ^ (i + 1)) (at0 (divN l m (i + 1)).2 p) := fun p => by
      simp only [divN]
      by_cases e : p = l.length - m.length - i
      · subst e
        have : at0 ((divN l m i).2.set (l.length - m.length - i) (at0 (divN l m i).1 (l.length - m.length - i + m.length - 1) / at0 m (m.length - 1))) (l.length - m.length - i) = at0 (divN l m i).1 (l.length - m.length - i + m.length - 1) / at0 m (m.length - 1) := by
          conv => lhs; unfold at0
          rw [List.getElem?_set_self (by rw [(divN_len (l := l) (m := m) i).2]; omega)]; rfl
        rw [this]; exact x3
      · have : at0 ((divN l m i).2.set (l.length - m.length - i) (at0 (divN l m i).1 (l.length - m.length - i + m.length - 1) / at0 m (m.length - 1))) p = at0 (divN l m i).2 p := by
          conv => lhs; unfold at0
          rw [List.getElem?_set_ne (Ne.symm e)]; rfl
        rw [this]; exact x6 p
    refine ⟨D', x1, x2, b1, b2, fun h => ?_⟩
    obtain ⟨D2, w1, w2, w3, _⟩ := step (i + 1) h D' x1 x2 b1 b2
    exact ⟨D2, w1, w2, w3⟩
theorem pow_bits (h k i : Nat) : 2 ^ h * (2 * 2 ^ k) ^ i = 2 ^ (h + i * (k + 1)) := by
  rw [two_pow_add, Nat.mul_comm i, Nat.pow_mul]
  congr 2
  rw [Nat.pow_succ, Nat.mul_comm]
theorem pow_bits' (h k i : Nat) {d : Nat} (hd : d ≤ 2 ^ h) : d * (2 ^ k) ^ i ≤ 2 ^ (h + i * (k + 1)) := by
  rw [← pow_bits]
  exact Nat.mul_le_mul hd (Nat.pow_le_pow_left (by omega) i)
/-- what division makes, of its operands' bits -/
theorem div_sz {l m : List Rat} {h k : Nat} (hm : Tr m) (hn : m ≠ []) (hl : m.length ≤ l.length) (x : Hb h l) (y : Hb k m) :
    (∀ i, i < l.length + 1 - m.length → let a := l.length - m.length - i
      let c := at0 (divN l m i).1 (a + m.length - 1) / at0 m (m.length - 1)
      let n := h + (l.length + 1 - m.length) * (k + 1)
      (∀ p, Sz n (at0 (divN l m i).1 p)) ∧ Sz n c ∧ (∀ j, Sz n (c * at0 m j)) ∧ ∀ j, j ≤ m.length → ∀ p, Sz n (at0 (addN (divN l m i).1 a (-c) m j) p)) ∧
    Hb (h + (l.length + 1 - m.length) * (k + 1)) (quo l m) ∧ Hb (h + (l.length + 1 - m.length) * (k + 1)) (rem l m) := by
  obtain ⟨d, h1, h2, h3⟩ := x
  obtain ⟨e, g1, g2, g3⟩ := y
  have all := div_ob hm hn hl h1 g1 g2 (Nat.pow_pos (by decide)) h3 g3
  have up : ∀ i, i ≤ l.length + 1 - m.length → 2 ^ (h + i * (k + 1)) ≤ 2 ^ (h + (l.length + 1 - m.length) * (k + 1)) := fun i hi => Nat.pow_le_pow_right (by decide) (by have := Nat.mul_le_mul_right (k + 1) hi; omega)
  refine ⟨fun i hi => ?_, ?_⟩
  · obtain ⟨D, y1, y2, y3, y4, y5⟩ := all i (by omega)
    obtain ⟨D', w1, w2, w3, w4, w5⟩ := y5 hi
    have u1 := up i (by omega)
    have u2 := up (i + 1) (by omega)
    have q2 := Nat.le_trans w2 (Nat.le_trans (pow_bits' h k (i + 1) h2) u2)
    refine ⟨fun p => (y3 p).sz y1 (by rw [pow_bits]; exact u1) (Nat.le_trans y2 (Nat.le_trans (pow_bits' h k i h2) u1)), w3.sz w1 (by rw [pow_bits]; exact u2) q2, fun j => (w4 j).sz w1 (by rw [pow_bits]; exact u2) q2, fun j hj p => (w5 j hj p).sz w1 (by rw [pow_bits]; exact u2) q2⟩
  · obtain ⟨D, y1, y2, y3, y4, _⟩ := all _ (Nat.le_refl _)
    have q := Nat.le_trans y2 (pow_bits' h k (l.length + 1 - m.length) h2)
    refine ⟨Hb.trim ⟨D, y1, q, fun p => ?_⟩, Hb.trim ⟨D, y1, q, fun p => ?_⟩⟩
    · have := y4 p; rw [pow_bits] at this; exact this
    · have := y3 p; rw [pow_bits] at this; exact this
/-! the last one made 1 -/
theorem unit_sz {l : List Rat} {h : Nat} (hl : Tr l) (hn : l ≠ []) (x : Hb h l) : Sz h (inv l) ∧ Hb h (unit l) := by
  obtain ⟨d, h1, h2, h3⟩ := x
  have lead : at0 l (l.length - 1) ≠ 0 := by rw [at0_last hn]; exact hl.last hn
  obtain ⟨z, hz1, hz2⟩ := h3 (l.length - 1)
  have her : (d : Rat) ≠ 0 := by
    intro q
    have : d = 0 := by exact_mod_cast q
    omega
  have hz : z ≠ 0 := by
    intro q
    subst q
    have : at0 l (l.length - 1) * (d : Rat) = 0 := hz1
    rcases Rat.mul_eq_zero.mp this with q | q
    · exact lead q
    · exact her q
  have zn : 0 < z.natAbs := by omega
  have s : ((z.natAbs : Nat) : Rat) = (z : Rat) * (z.sign : Rat) := by
    have : ((z.natAbs : Nat) : Int) = z * z.sign := by
      rcases Int.lt_trichotomy z 0 with h | h | h
      · rw [Int.sign_eq_neg_one_of_neg h]; omega
      · exact absurd h hz
      · rw [Int.sign_eq_one_of_pos h]; omega
    exact_mod_cast this
  have o1 : Ob z.natAbs (2 ^ h) (inv l) := by
    refine ⟨(d : Int) * z.sign, ?_, ?_⟩
    · unfold inv
      rw [s, Rat.intCast_mul, ← hz1]
      show _ = ((d : Nat) : Rat) * _
      grind
    · rw [Int.natAbs_mul, Int.natAbs_sign, if_neg hz, Nat.mul_one]; simpa using h2
  refine ⟨o1.sz zn (Nat.le_refl _) hz2, z.natAbs, zn, hz2, fun p => ?_⟩
  unfold unit
  rw [at0_map (fun a => a * inv l) (by grind)]
  obtain ⟨u, hu1, hu2⟩ := h3 p
  refine ⟨u * z.sign, ?_, ?_⟩
  · unfold inv
    rw [s, Rat.intCast_mul, ← hu1, ← hz1]
    grind
  · rw [Int.natAbs_mul, Int.natAbs_sign, if_neg hz, Nat.mul_one]; exact hu2
end PM
namespace PM
open Pol
/-! ### Euclid's bits -/
def wt (a b : Nat) : Nat := if b < a then 3 ^ a else 2 * 3 ^ b
theorem three (g : Nat) (h : 1 ≤ g) : g + 2 ≤ 3 ^ g := by
  induction g with
  | zero => omega
  | succ g ih =>
    by_cases e : g = 0
    · subst e; decide
    · have := ih (by omega)
      rw [Nat.pow_succ]; omega
theorem wt_pos (a b : Nat) : 0 < wt a b := by
  unfold wt; split
  · exact Nat.pow_pos (by decide)
  · have : 0 < 3 ^ b := Nat.pow_pos (by decide)
    omega
theorem wt_step {a b c h : Nat} (hc : c < b) : (h + (a + 1 - b) * (h + 1) + 1) * wt b c ≤ (h + 1) * wt a b := by
  have e : h + (a + 1 - b) * (h + 1) + 1 = (h + 1) * (a + 1 - b + 1) := by
    generalize a + 1 - b = t
    have : (h + 1) * (t + 1) = (h + 1) * t + (h + 1) := Nat.mul_succ _ _
    rw [this, Nat.mul_comm t]; omega
  rw [e, Nat.mul_assoc]
  refine Nat.mul_le_mul_left _ ?_
  have w1 : wt b c = 3 ^ b := by unfold wt; rw [if_pos hc]
  rw [w1]
  unfold wt
  split
  · rename_i h1
    have t := three (a - b) (by omega)
    have e2 : 3 ^ a = 3 ^ (a - b) * 3 ^ b := by rw [← Nat.pow_add]; congr 1; omega
    rw [e2]
    exact Nat.mul_le_mul_right _ (by omega)
  · exact Nat.mul_le_mul_right _ (by omega)
theorem rem_sz {l m : List Rat} {h : Nat} (hm : Tr m) (hn : m ≠ []) (x : Hb h l) (y : Hb h m) : Hb (h + (l.length + 1 - m.length) * (h + 1)) (rem l m) := by
  by_cases hl : m.length ≤ l.length
  · exact (div_sz hm hn hl x y).2.2
  · have e := divN_zero (l := l) (m := m) (by omega)
    unfold rem; rw [e]
    have z : l.length + 1 - m.length = 0 := by omega
    rw [z, Nat.zero_mul]
    exact x.trim
theorem unit_hb {l : List Rat} {h : Nat} (hl : Tr l) (x : Hb h l) : Hb h (unit l) := by
  by_cases n : l = []
  · subst n; exact x
  · exact (unit_sz hl n x).2
theorem com_sz : ∀ (k : Nat) (l m : List Rat) (h : Nat), Tr l → Tr m → m.length ≤ k → Hb h l → Hb h m → ∃ h', Hb h' (com k l m) ∧ (h' + 1) * 3 ^ (com k l m).length ≤ (h + 1) * wt l.length m.length := by
  have base : ∀ (l : List Rat) (h : Nat), Tr l → Hb h l → ∃ h', Hb h' (unit l) ∧ (h' + 1) * 3 ^ (unit l).length ≤ (h + 1) * wt l.length ([] : List Rat).length := fun l h hl x => by
    refine ⟨h, unit_hb hl x, Nat.mul_le_mul_left _ ?_⟩
    rw [unit_len]
    unfold wt
    split
    · exact Nat.le_refl _
    · rename_i hh
      have : l.length = 0 := by simpa using hh
      rw [this]; decide
  intro k
  induction k with
  | zero =>
    intro l m h hl hm hk x y
    have : m = [] := List.eq_nil_of_length_eq_zero (by omega)
    subst this
    exact base l h hl x
  | succ k ih =>
    intro l m h hl hm hk x y
    by_cases n : m = []
    · have ec : com (k + 1) l m = unit l := by rw [com, if_pos n]
      rw [ec]; subst n; exact base l h hl x
    · have ec : com (k + 1) l m = com k m (unit (rem l m)) := by rw [com, if_neg n]
      have lr := (div_ok (l := l) hm n).2
      obtain ⟨h', a1, a2⟩ := ih m (unit (rem l m)) (h + (l.length + 1 - m.length) * (h + 1)) hm (unit_tr rem_tr) (by rw [unit_len]; omega) (y.mono (by omega)) (unit_hb rem_tr (rem_sz hm n x y))
      rw [ec]
      refine ⟨h', a1, Nat.le_trans a2 (wt_step ?_)⟩
      rw [unit_len]; exact lr
theorem com_fuel : ∀ (k k' : Nat) (l m : List Rat), Tr m → m.length ≤ k → m.length ≤ k' → com k l m = com k' l m := by
  intro k
  induction k with
  | zero =>
    intro k' l m hm h1 h2
    have : m = [] := List.eq_nil_of_length_eq_zero (by omega)
    subst this
    cases k' with
    | zero => rfl
    | succ k' => rw [com, com, if_pos rfl]
  | succ k ih =>
    intro k' l m hm h1 h2
    cases k' with
    | zero =>
      have : m = [] := List.eq_nil_of_length_eq_zero (by omega)
      subst this
      rw [com, com, if_pos rfl]
    | succ k' =>
      rw [com, com]
      by_cases n : m = []
      · rw [if_pos n, if_pos n]
      · rw [if_neg n, if_neg n]
        have lr := (div_ok (l := l) hm n).2
        exact ih k' m _ (unit_tr rem_tr) (by rw [unit_len]; omega) (by rw [unit_len]; omega)
theorem com_step {l m : List Rat} (hm : Tr m) (n : m ≠ []) : com m.length l m = com (unit (rem l m)).length m (unit (rem l m)) := by
  have lr := (div_ok (l := l) hm n).2
  have e : com (m.length + 1) l m = com m.length m (unit (rem l m)) := by rw [com, if_neg n]
  rw [com_fuel m.length (m.length + 1) l m hm (Nat.le_refl _) (Nat.le_succ _), e]
  exact com_fuel _ _ _ _ (unit_tr rem_tr) (by rw [unit_len]; omega) (Nat.le_refl _)
theorem com_stop {l : List Rat} : com ([] : List Rat).length l [] = unit l := rfl
/-! ### the derivative -/
def der (l : List Rat) : List Rat := trim (((List.range l.length).map fun (i : Nat) => ((i : Nat) : Rat) * at0 l i).drop 1)
theorem range_dl : ∀ (l : List Rat) (n : Nat), (List.range l.length).map (fun (i : Nat) => ((i + n : Nat) : Rat) * at0 l i) = dl n l
  | [], n => rfl
  | a :: l, n => by
    rw [List.length_cons, List.range_succ_eq_map, List.map_cons, List.map_map, dl]
    have e : at0 (a :: l) 0 = a := rfl
    rw [e, Nat.zero_add, ← range_dl l (n + 1)]
    congr 1
    refine List.map_congr_left fun i _ => ?_
    have e2 : at0 (a :: l) (i + 1) = at0 l i := rfl
    simp only [Function.comp, Nat.succ_eq_add_one, e2]
    congr 2; omega
theorem of_der (l : List Rat) : of (der l) = D (of l) := by
  unfold der
  rw [of_trim]
  have h := range_dl l 0
  simp only [Nat.add_zero] at h
  rw [h]
  cases l with
  | nil =>
    have : D (of ([] : List Rat)) = 0 := by rw [of_nil]; exact D_con 0
    rw [this]; exact of_nil
  | cons a l => rw [D_cons]; rfl
theorem der_tr (l : List Rat) : Tr (der l) := tr_trim
theorem der_len (l : List Rat) : (der l).length ≤ l.length - 1 := by
  unfold der
  refine Nat.le_trans (trim_len _) ?_
  simp
theorem at0_drop1 (l : List Rat) (p : Nat) : at0 (l.drop 1) p = at0 l (p + 1) := by unfold at0; rw [List.getElem?_drop]; congr 2; omega
theorem at0_rmap (f : Nat → Rat) (n p : Nat) : at0 ((List.range n).map f) p = if p < n then f p else 0 := by
  unfold at0
  by_cases h : p < n
  · rw [List.getElem?_map, List.getElem?_range h, if_pos h]; rfl
  · rw [List.getElem?_eq_none (by simpa using h), if_neg h]; rfl
theorem der_hb {l : List Rat} {h : Nat} (x : Hb h l) (hl : l.length ≤ 64) : Hb (h + 6) (der l) := by
  obtain ⟨d, h1, h2, h3⟩ := x
  have p1 : 2 ^ (h + 6) = 64 * 2 ^ h := by rw [two_pow_add, Nat.mul_comm]
  refine Hb.trim ⟨d, h1, by omega, fun p => ?_⟩
  rw [at0_drop1, at0_rmap]
  split
  · have := (Ob.int ((p + 1 : Nat) : Int)).mul (h3 (p + 1))
    rw [Nat.one_mul] at this
    refine this.mono ?_
    rw [p1]
    exact Nat.mul_le_mul_right _ (by omega)
  · exact Ob.zero
end PM
namespace K70
open PySem PySem.Spec L2 DL
open PyProof.Rows hiding St

abbrev pw : Program := PySem.Challenge.pw_streamwebs_k70_polynomials
def nthS : List Stmt → Nat → Stmt
  | [], _ => .Pass ⟨0, 0, 0, 0⟩
  | a :: _, 0 => a
  | _ :: l, n + 1 => nthS l n
def nio : SV → Prop
  | .io _ => False
  | _ => True
def dat : SV → Prop
  | .d _ => True
  | .un => True
  | _ => False
theorem dat_nio {s : SV} (h : dat s) : nio s := by cases s <;> first | trivial | exact h.elim
theorem nio_d {x : D} : nio (.d x) = True := rfl
theorem nio_un : nio .un = True := rfl
theorem nio_own {x : List D} : nio (.own x) = True := rfl
theorem dat_d {x : D} : dat (.d x) = True := rfl
theorem dat_un : dat .un = True := rfl
theorem noIo_eq (δ : List SV) (i : Nat) : noIo δ i = ∃ s, δ[i]? = some s ∧ nio s := by
  unfold noIo
  cases δ[i]? with
  | none => simp
  | some s => cases s <;> simp [nio]
theorem isDat_eq (δ : List SV) (i : Nat) : isDat δ i = ∃ s, δ[i]? = some s ∧ dat s := by
  unfold isDat
  cases δ[i]? with
  | none => simp
  | some s => cases s <;> simp [dat]
theorem asD_d (x : D) : (SV.d x).asD = x := rfl
theorem asD_own (x : List D) : (SV.own x).asD = .list x := rfl
theorem asD_io (x : List D) : (SV.io x).asD = .list x := rfl
def fr (q : Rat) : D := .tuple [.int q.num, .int (q.den : Int)]
def po (l : List Rat) : D := .tuple (l.map fr)
abbrev v_NIL : D := fr 0
abbrev v_UNIT : D := fr 1
theorem hu2_of {A : Around} {k : Nat} (hr : Room k A) : A.units + 66 < cLine := by have := hr.un; omega
def s_is_int : Stmt := nthS pw.main.body 5
def s_common_divisor : Stmt := nthS pw.main.body 6
def s_made : Stmt := nthS pw.main.body 7
def s_plus : Stmt := nthS pw.main.body 8
def s_times : Stmt := nthS pw.main.body 9
def s_over_by : Stmt := nthS pw.main.body 10
def s_is_count : Stmt := nthS pw.main.body 12
def s_trimmed : Stmt := nthS pw.main.body 16
def s_term : Stmt := nthS pw.main.body 17
def s_opposite : Stmt := nthS pw.main.body 18
def s_poly_plus : Stmt := nthS pw.main.body 19
def s_poly_minus : Stmt := nthS pw.main.body 20
def s_scaled : Stmt := nthS pw.main.body 21
def s_shifted : Stmt := nthS pw.main.body 22
def s_poly_times : Stmt := nthS pw.main.body 23
def s_to_power : Stmt := nthS pw.main.body 24
def s_divided : Stmt := nthS pw.main.body 25
def s_with_unit : Stmt := nthS pw.main.body 26
def s_common : Stmt := nthS pw.main.body 27
def s_value_at : Stmt := nthS pw.main.body 28
def s_derived : Stmt := nthS pw.main.body 29
def s_squarefree : Stmt := nthS pw.main.body 30
def s_lowest : Stmt := nthS pw.main.body 31
def s_turned : Stmt := nthS pw.main.body 32
def s__law_take : Stmt := nthS pw.main.body 35
def s__law_alike : Stmt := nthS pw.main.body 36
def s__law_gcd : Stmt := nthS pw.main.body 37
def s__law_fraction : Stmt := nthS pw.main.body 38
def s__law_trim : Stmt := nthS pw.main.body 39
def s__law_padd : Stmt := nthS pw.main.body 40
def s__law_pneg : Stmt := nthS pw.main.body 41
def s__law_pmul : Stmt := nthS pw.main.body 42
def s__law_poly : Stmt := nthS pw.main.body 43
def s__law_ints : Stmt := nthS pw.main.body 44
def s__law_made : Stmt := nthS pw.main.body 45
structure Txt (K : PySem.W.Frag) (mg : Str → Option Value) (CN : Addr) : Prop where
  b_abs : mg "abs" = none
  b_bool : mg "bool" = none
  b_enumerate : mg "enumerate" = none
  b_int : mg "int" = none
  b_isinstance : mg "isinstance" = none
  b_len : mg "len" = none
  b_list : mg "list" = none
  b_max : mg "max" = none
  b_min : mg "min" = none
  b_range : mg "range" = none
  b_repr : mg "repr" = none
  b_tuple : mg "tuple" = none
  c_NIL : ConD K mg "NIL" v_NIL
  c_UNIT : ConD K mg "UNIT" v_UNIT
  e_Nothing : ExcD K mg "Nothing" CN
  f_is_int : TopF K mg "is_int" s_is_int
  f_common_divisor : TopF K mg "common_divisor" s_common_divisor
  f_made : TopF K mg "made" s_made
  f_plus : TopF K mg "plus" s_plus
  f_times : TopF K mg "times" s_times
  f_over_by : TopF K mg "over_by" s_over_by
  f_is_count : TopF K mg "is_count" s_is_count
  f_trimmed : TopF K mg "trimmed" s_trimmed
  f_term : TopF K mg "term" s_term
  f_opposite : TopF K mg "opposite" s_opposite
  f_poly_plus : TopF K mg "poly_plus" s_poly_plus
  f_poly_minus : TopF K mg "poly_minus" s_poly_minus
  f_scaled : TopF K mg "scaled" s_scaled
  f_shifted : TopF K mg "shifted" s_shifted
  f_poly_times : TopF K mg "poly_times" s_poly_times
  f_to_power : TopF K mg "to_power" s_to_power
  f_divided : TopF K mg "divided" s_divided
  f_with_unit : TopF K mg "with_unit" s_with_unit
  f_common : TopF K mg "common" s_common
  f_value_at : TopF K mg "value_at" s_value_at
  f_derived : TopF K mg "derived" s_derived
  f_squarefree : TopF K mg "squarefree" s_squarefree
  f_lowest : TopF K mg "lowest" s_lowest
  f_turned : TopF K mg "turned" s_turned
  f__law_take : TopF K mg "_law_take" s__law_take
  f__law_alike : TopF K mg "_law_alike" s__law_alike
  f__law_gcd : TopF K mg "_law_gcd" s__law_gcd
  f__law_fraction : TopF K mg "_law_fraction" s__law_fraction
  f__law_trim : TopF K mg "_law_trim" s__law_trim
  f__law_padd : TopF K mg "_law_padd" s__law_padd
  f__law_pneg : TopF K mg "_law_pneg" s__law_pneg
  f__law_pmul : TopF K mg "_law_pmul" s__law_pmul
  f__law_poly : TopF K mg "_law_poly" s__law_poly
  f__law_ints : TopF K mg "_law_ints" s__law_ints
  f__law_made : TopF K mg "_law_made" s__law_made
end K70

namespace K70
open PySem PySem.Spec L2 DL
open PyProof.Rows hiding St

section
variable {w : World} {K : PySem.W.Frag} {mg : Str → Option Value} {base : Heap} {CN : Addr}

def sp_is_int : SpD := fun ds Q _ => ∃ i, ds = [.int i] ∧ Q (.d (.bool true))
def sp_is_count : SpD := fun ds Q _ => ∃ i : Nat, ds = [.int i] ∧ Q (.d (.bool true))
def sp_common_divisor : SpD := fun ds Q _ => ∃ a b : Int, ds = [.int a, .int b] ∧ Q (.d (.int (Int.gcd a b)))
theorem shI (i : Int) : SeqAt.shaped (.int i) = true := rfl
theorem eqI (i j : Int) : PyData.eqv (.int i) (.int j) = (i == j) := by unfold PyData.eqv; rfl
theorem abs_if (a : Int) : (if a < 0 then -a else a) = (a.natAbs : Int) := by split <;> omega
theorem gcd_step (x y : Nat) : Nat.gcd y (x % y) = Nat.gcd x y := by rw [Nat.gcd_comm x y, Nat.gcd_rec y x, Nat.gcd_comm]
theorem log2_mul (x y : Nat) : (x * y).log2 ≤ x.log2 + y.log2 + 1 := by
  by_cases h : x * y = 0
  · rw [h]; simp
  · have h1 := @Nat.lt_log2_self x
    have h2 := @Nat.lt_log2_self y
    have : x * y < 2 ^ (x.log2 + y.log2 + 2) := by
      have e : 2 ^ (x.log2 + y.log2 + 2) = 2 ^ (x.log2 + 1) * 2 ^ (y.log2 + 1) := by rw [← Nat.pow_add]; congr 1; omega
      rw [e]
      exact Nat.mul_lt_mul'' h1 h2
    have := (Nat.log2_lt h).mpr this
    omega
theorem log2_add (x y n : Nat) (hx : x.log2 ≤ n) (hy : y.log2 ≤ n) : (x + y).log2 ≤ n + 1 := by
  by_cases h : x + y = 0
  · rw [h]; simp
  · have h1 : x < 2 ^ (n + 1) := Nat.lt_of_lt_of_le Nat.lt_log2_self (Nat.pow_le_pow_right (by decide) (by omega))
    have h2 : y < 2 ^ (n + 1) := Nat.lt_of_lt_of_le Nat.lt_log2_self (Nat.pow_le_pow_right (by decide) (by omega))
    have : x + y < 2 ^ (n + 2) := by rw [Nat.pow_succ]; omega
    have := (Nat.log2_lt h).mpr this
    omega
theorem log2_mono {x y : Nat} (h : x ≤ y) : x.log2 ≤ y.log2 := by
  by_cases hx : x = 0
  · subst hx; simp
  · exact (Nat.le_log2 (by omega)).mpr (Nat.le_trans (Nat.log2_self_le hx) h)
/-- a fraction of not too many bits -/
def Sm (q : Rat) : Prop := q.num.natAbs.log2 ≤ 60000000 ∧ q.den.log2 ≤ 60000000
def sp_made : SpD := fun ds Q _ => ∃ a b : Int, ds = [.int a, .int b] ∧ a.natAbs.log2 < 133000000 ∧ b.natAbs.log2 < 133000000 ∧ b ≠ 0 ∧ Q (.d (fr (Rat.divInt a b)))
def sp_plus : SpD := fun ds Q _ => ∃ p q : Rat, ds = [fr p, fr q] ∧ Sm p ∧ Sm q ∧ Q (.d (fr (p + q)))
def sp_times : SpD := fun ds Q _ => ∃ p q : Rat, ds = [fr p, fr q] ∧ Sm p ∧ Sm q ∧ Q (.d (fr (p * q)))
def sp_over_by : SpD := fun ds Q _ => ∃ p q : Rat, ds = [fr p, fr q] ∧ Sm p ∧ Sm q ∧ q ≠ 0 ∧ Q (.d (fr (p / q)))
theorem sgn_mul (a b : Int) (hb : b ≠ 0) : (if 0 < b then (1 : Int) else -1) * a = b.sign * a := by
  by_cases h : 0 < b
  · rw [if_pos h, Int.sign_eq_one_of_pos h]
  · rw [if_neg h, Int.sign_eq_neg_one_of_neg (by omega)]
theorem made_num (a b : Int) (hb : b ≠ 0) : Int.fdiv ((if 0 < b then (1 : Int) else -1) * a) (Int.gcd a b) = (Rat.divInt a b).num := by
  rw [Rat.num_divInt, sgn_mul a b hb, Int.gcd_comm b a, Int.fdiv_eq_ediv_of_nonneg _ (by omega)]
theorem sgn_self (b : Int) : b.sign * b = (b.natAbs : Int) := by
  rcases Int.lt_trichotomy b 0 with h | h | h
  · rw [Int.sign_eq_neg_one_of_neg h]; omega
  · subst h; rfl
  · rw [Int.sign_eq_one_of_pos h]; omega
theorem made_den (a b : Int) (hb : b ≠ 0) : Int.fdiv ((if 0 < b then (1 : Int) else -1) * b) (Int.gcd a b) = ((Rat.divInt a b).den : Int) := by
  rw [Rat.den_divInt, if_neg hb, sgn_mul b b hb, Int.gcd_comm b a, Int.fdiv_eq_ediv_of_nonneg _ (by omega), sgn_self]
  rfl
theorem gcd_ne (a b : Int) (hb : b ≠ 0) : (Int.gcd a b : Int) ≠ 0 := by
  have := Int.gcd_ne_zero_right (a := a) hb
  omega
theorem cmu_sgn {a b : Int} (h : a.natAbs.log2 < 133000000) : CMu (if 0 < b then (1 : Int) else -1) a := by
  unfold CMu
  split
  · have : (1 : Int).natAbs.log2 = 0 := by decide
    omega
  · have : (-1 : Int).natAbs.log2 = 0 := by decide
    omega
theorem cmu_sm {a b : Int} (h : a.natAbs.log2 ≤ 60000000) (g : b.natAbs.log2 ≤ 60000000) : CMu a b := by unfold CMu; omega
theorem lg_mul {a b : Int} (h : a.natAbs.log2 ≤ 60000000) (g : b.natAbs.log2 ≤ 60000000) : (a * b).natAbs.log2 ≤ 120000001 := by
  rw [Int.natAbs_mul]; have := log2_mul a.natAbs b.natAbs; omega
theorem lg_add {a b : Int} {n : Nat} (h : a.natAbs.log2 ≤ n) (g : b.natAbs.log2 ≤ n) : (a + b).natAbs.log2 ≤ n + 1 :=
  Nat.le_trans (log2_mono (Int.natAbs_add_le a b)) (log2_add _ _ _ h g)
theorem div_add (p q : Rat) : Rat.divInt (p.num * q.den + q.num * p.den) ((p.den : Int) * q.den) = p + q := by
  rw [Rat.add_def', ← Rat.divInt_ofNat]; congr 1
theorem div_mul (p q : Rat) : Rat.divInt (p.num * q.num) ((p.den : Int) * q.den) = p * q := by
  rw [Rat.mul_def', ← Rat.divInt_ofNat]; congr 1
theorem div_div (p q : Rat) : Rat.divInt (p.num * q.den) ((p.den : Int) * q.num) = p / q := by
  rw [Rat.div_def, Rat.inv_def]
  conv => rhs; rw [← Rat.num_divInt_den p]
  rw [Rat.divInt_mul_divInt]
theorem den_ne (p : Rat) : (p.den : Int) ≠ 0 := by have := p.den_nz; omega
theorem num_ne {q : Rat} (h : q ≠ 0) : q.num ≠ 0 := fun z => h (Rat.num_eq_zero.mp z)
theorem at0_ {a b : D} : atI [a, b] 0 = some a := rfl
theorem at1_ {a b : D} : atI [a, b] 1 = some b := rfl
theorem sc_is_int : FnScope ["thing"] ["thing"] (defScope s_is_int) := ⟨rfl, rfl, rfl, by decide +kernel, rfl, by decide +kernel, by decide +kernel⟩
theorem ok_is_int (T : Txt K mg CN) (hS : base.NoSeer) : FnD pw w K mg base "is_int" 38 ["thing"] sp_is_int := by
  refine okD (k := 37) T.f_is_int sc_is_int (fun _ _ _ _ _ _ us hl => match us, hl with | [_], _ => rfl) fun f cdv A outer s H E hr => ?_
  refine ⟨_, (done1 (dret (dandV (DE.b (disi (T := "int") (r := true) (by rfl) T.b_isinstance (by rfl) T.b_int (by decide +kernel) (kit_ty (by decide +kernel)) (DE.b (dv 0)) (by decide +kernel))) (done' (dnotV (DE.b (disi (T := "bool") (r := false) (by rfl) T.b_isinstance (by rfl) T.b_bool (by decide +kernel) (kit_ty (by decide +kernel)) (DE.b (dv 0)) (by decide +kernel)))))))), fun ds Q X h hl => ?_⟩
  obtain ⟨i, rfl, q⟩ := h
  simp only [tdR, tdN, tdSq, tdE, tdIf, tdSet, tdF, tdRO, tdAsg, tdSub, tdAug, tdAugS, tdApp, tdPar, tdPar3, tdRaise, tV, tBo, tK, t2, t1, kI, kU, kEq, kEqS, kN, kIx, kST, kSL, kRv, kRvT, kCL, kCT, kRL, kRT, tCh, tTe, tNo, tAn, tOr', tAnV, DL.tOrV, kNo, tIfE, taC, tTp, tLs, tBi, kLen, kAbs, kMM, kInt, kTupc, kLisc, tSc, toN, toS, tOf, gNm, gNl, gCs, gTu, kIsi, kMn, kMx, kRp, tFz, tiS, tiO, tiR1, tiR2, tiRd, tiE, tCal, tCalB, startD, DL.startB, noIo_eq, nio_d, nio_un, nio_own, asD_d, asD_own, asD_io, CT, CNz, tYesD, ex0, tdFor, tdLc, wipeD, isDat_eq, dat_d, dat_un, Owns, setO, List.map_cons, List.map_nil, List.cons_append, List.nil_append, List.length_cons, List.length_nil, List.replicate, List.replicate_succ, List.replicate_zero, List.getElem?_cons_zero, List.getElem?_cons_succ, List.set_cons_zero, List.set_cons_succ, Option.some.injEq, SV.d.injEq, SV.own.injEq, SV.io.injEq, PyData.int.injEq, PyData.str.injEq, PyData.bool.injEq, PyData.tuple.injEq, PyData.list.injEq, exists_eq_left', exists_eq_left, exists_eq_right, exists_eq_right', exists_and_left, true_and, and_true, if_true, if_false, id, reduceCtorEq, false_or, or_false, exists_false, List.cons.injEq, and_self, SV.d.injEq, Nat.reduceAdd, Nat.reduceSub, ite_true, ite_false, decide_eq_true_eq, Bool.false_eq_true, exists_const, decide_true, decide_false, List.forall_mem_cons, List.forall_mem_nil, Bool.not_true, Bool.not_false, Bool.not_eq_true, Nat.reduceLT, forall_const, implies_true, and_assoc, true_or, or_true, List.not_mem_nil, false_implies, Int.natCast_inj, not_true_eq_false, not_false_eq_true, and_false, false_and]
  exact q
theorem sc_is_count : FnScope ["thing"] ["thing"] (defScope s_is_count) := ⟨rfl, rfl, rfl, by decide +kernel, rfl, by decide +kernel, by decide +kernel⟩
theorem ok_is_count (T : Txt K mg CN) (hS : base.NoSeer) : FnD pw w K mg base "is_count" 39 ["thing"] sp_is_count := by
  have F_is_int := ok_is_int (w := w) T hS
  refine okD (k := 38) T.f_is_count sc_is_count (fun _ _ _ _ _ _ us hl => match us, hl with | [_], _ => rfl) fun f cdv A outer s H E hr => ?_
  refine ⟨_, (done1 (dret (dandV (DE.b (dcall F_is_int (hr.mono (by decide)) (dacons (dv 0) danil))) (done' (dge (DE.b (dv 0)) (DE.b dint)))))), fun ds Q X h hl => ?_⟩
  obtain ⟨i, rfl, q⟩ := h
  simp only [tdR, tdN, tdSq, tdE, tdIf, tdSet, tdF, tdRO, tdAsg, tdSub, tdAug, tdAugS, tdApp, tdPar, tdPar3, tdRaise, tV, tBo, tK, t2, t1, kI, kU, kEq, kEqS, kN, kIx, kST, kSL, kRv, kRvT, kCL, kCT, kRL, kRT, tCh, tTe, tNo, tAn, tOr', tAnV, DL.tOrV, kNo, tIfE, taC, tTp, tLs, tBi, kLen, kAbs, kMM, kInt, kTupc, kLisc, tSc, toN, toS, tOf, gNm, gNl, gCs, gTu, kIsi, kMn, kMx, kRp, tFz, tiS, tiO, tiR1, tiR2, tiRd, tiE, tCal, tCalB, startD, DL.startB, noIo_eq, nio_d, nio_un, nio_own, asD_d, asD_own, asD_io, CT, CNz, tYesD, ex0, tdFor, tdLc, wipeD, isDat_eq, dat_d, dat_un, Owns, setO, List.map_cons, List.map_nil, List.cons_append, List.nil_append, List.length_cons, List.length_nil, List.replicate, List.replicate_succ, List.replicate_zero, List.getElem?_cons_zero, List.getElem?_cons_succ, List.set_cons_zero, List.set_cons_succ, Option.some.injEq, SV.d.injEq, SV.own.injEq, SV.io.injEq, PyData.int.injEq, PyData.str.injEq, PyData.bool.injEq, PyData.tuple.injEq, PyData.list.injEq, exists_eq_left', exists_eq_left, exists_eq_right, exists_eq_right', exists_and_left, true_and, and_true, if_true, if_false, id, reduceCtorEq, false_or, or_false, exists_false, List.cons.injEq, and_self, SV.d.injEq, Nat.reduceAdd, Nat.reduceSub, ite_true, ite_false, decide_eq_true_eq, Bool.false_eq_true, exists_const, decide_true, decide_false, List.forall_mem_cons, List.forall_mem_nil, Bool.not_true, Bool.not_false, Bool.not_eq_true, Nat.reduceLT, forall_const, implies_true, and_assoc, true_or, or_true, List.not_mem_nil, false_implies, Int.natCast_inj, not_true_eq_false, not_false_eq_true, and_false, false_and, sp_is_int]
  rw [decide_eq_true (show (0 : Int) ≤ (i : Int) by omega)]
  exact q
theorem sc_common_divisor : FnScope ["one", "other"] ["one", "other"] (defScope s_common_divisor) := ⟨rfl, rfl, rfl, by decide +kernel, rfl, by decide +kernel, by decide +kernel⟩
theorem ok_common_divisor (T : Txt K mg CN) (hS : base.NoSeer) : FnD pw w K mg base "common_divisor" 38 ["one", "other"] sp_common_divisor := by
  refine okD (k := 37) T.f_common_divisor sc_common_divisor (fun _ _ _ _ _ _ us hl => match us, hl with | [_, _], _ => rfl) fun f cdv A outer s H E hr => ?_
  have hu := hr.units
  refine ⟨_, (dcons (dpar 0 1 rfl sc_common_divisor.nd (dabs (by rfl) T.b_abs (dab1 (DE.b (dv 0)))) (dabs (by rfl) T.b_abs (dab1 (DE.b (dv 1)))))
      (dcons (dwhile (passes_of rfl) (dtne hu (DE.b (dv 1)) (DE.b dint)) (done1 (dpar 0 1 rfl sc_common_divisor.nd (dv 1) (dmod (DE.b (dv 0)) (DE.b (dv 1))))))
      (done1 (dret (dv 0))))), fun ds Q X h hl => ?_⟩
  obtain ⟨a, b, rfl, q⟩ := h
  simp only [tdR, tdN, tdSq, tdE, tdIf, tdSet, tdF, tdRO, tdAsg, tdSub, tdAug, tdAugS, tdApp, tdPar, tdPar3, tdRaise, tV, tBo, tK, t2, t1, kI, kU, kEq, kEqS, kN, kIx, kST, kSL, kRv, kRvT, kCL, kCT, kRL, kRT, tCh, tTe, tNo, tAn, tOr', tAnV, DL.tOrV, kNo, tIfE, taC, tTp, tLs, tBi, kLen, kAbs, kMM, kInt, kTupc, kLisc, tSc, toN, toS, tOf, gNm, gNl, gCs, gTu, kIsi, kMn, kMx, kRp, tFz, tiS, tiO, tiR1, tiR2, tiRd, tiE, tCal, tCalB, startD, DL.startB, noIo_eq, nio_d, nio_un, nio_own, asD_d, asD_own, asD_io, CT, CNz, tYesD, ex0, tdFor, tdLc, wipeD, isDat_eq, dat_d, dat_un, Owns, setO, List.map_cons, List.map_nil, List.cons_append, List.nil_append, List.length_cons, List.length_nil, List.replicate, List.replicate_succ, List.replicate_zero, List.getElem?_cons_zero, List.getElem?_cons_succ, List.set_cons_zero, List.set_cons_succ, Option.some.injEq, SV.d.injEq, SV.own.injEq, SV.io.injEq, PyData.int.injEq, PyData.str.injEq, PyData.bool.injEq, PyData.tuple.injEq, PyData.list.injEq, exists_eq_left', exists_eq_left, exists_eq_right, exists_eq_right', exists_and_left, true_and, and_true, if_true, if_false, id, reduceCtorEq, false_or, or_false, exists_false, List.cons.injEq, and_self, SV.d.injEq, Nat.reduceAdd, Nat.reduceSub, ite_true, ite_false, decide_eq_true_eq, Bool.false_eq_true, exists_const, decide_true, decide_false, List.forall_mem_cons, List.forall_mem_nil, Bool.not_true, Bool.not_false, Bool.not_eq_true, Nat.reduceLT, forall_const, implies_true, and_assoc, true_or, or_true, List.not_mem_nil, false_implies, Int.natCast_inj, not_true_eq_false, not_false_eq_true, and_false, false_and, abs_if]
  refine ⟨fun m δ => ∃ x y : Nat, δ = [.d (.int x), .d (.int y)] ∧ m = y ∧ Nat.gcd x y = Int.gcd a b, ⟨_, a.natAbs, b.natAbs, rfl, rfl, rfl⟩, fun m δ h => ?_⟩
  obtain ⟨x, y, rfl, rfl, hg⟩ := h
  simp only [tdR, tdN, tdSq, tdE, tdIf, tdSet, tdF, tdRO, tdAsg, tdSub, tdAug, tdAugS, tdApp, tdPar, tdPar3, tdRaise, tV, tBo, tK, t2, t1, kI, kU, kEq, kEqS, kN, kIx, kST, kSL, kRv, kRvT, kCL, kCT, kRL, kRT, tCh, tTe, tNo, tAn, tOr', tAnV, DL.tOrV, kNo, tIfE, taC, tTp, tLs, tBi, kLen, kAbs, kMM, kInt, kTupc, kLisc, tSc, toN, toS, tOf, gNm, gNl, gCs, gTu, kIsi, kMn, kMx, kRp, tFz, tiS, tiO, tiR1, tiR2, tiRd, tiE, tCal, tCalB, startD, DL.startB, noIo_eq, nio_d, nio_un, nio_own, asD_d, asD_own, asD_io, CT, CNz, tYesD, ex0, tdFor, tdLc, wipeD, isDat_eq, dat_d, dat_un, Owns, setO, List.map_cons, List.map_nil, List.cons_append, List.nil_append, List.length_cons, List.length_nil, List.replicate, List.replicate_succ, List.replicate_zero, List.getElem?_cons_zero, List.getElem?_cons_succ, List.set_cons_zero, List.set_cons_succ, Option.some.injEq, SV.d.injEq, SV.own.injEq, SV.io.injEq, PyData.int.injEq, PyData.str.injEq, PyData.bool.injEq, PyData.tuple.injEq, PyData.list.injEq, exists_eq_left', exists_eq_left, exists_eq_right, exists_eq_right', exists_and_left, true_and, and_true, if_true, if_false, id, reduceCtorEq, false_or, or_false, exists_false, List.cons.injEq, and_self, SV.d.injEq, Nat.reduceAdd, Nat.reduceSub, ite_true, ite_false, decide_eq_true_eq, Bool.false_eq_true, exists_const, decide_true, decide_false, List.forall_mem_cons, List.forall_mem_nil, Bool.not_true, Bool.not_false, Bool.not_eq_true, Nat.reduceLT, forall_const, implies_true, and_assoc, true_or, or_true, List.not_mem_nil, false_implies, Int.natCast_inj, not_true_eq_false, not_false_eq_true, and_false, false_and, shI, eqI]
  by_cases hy : m = 0
  · subst hy
    rw [if_neg (by decide)]
    rw [Nat.gcd_zero_right] at hg
    rw [hg]; exact q
  · have hy' : ((m : Int) == 0) = false := by simp [hy]
    rw [hy', Bool.not_false, if_pos rfl]
    refine ⟨by omega, x % m, Nat.mod_lt _ (by omega), x % m, ?_, rfl, ?_⟩
    · rw [Int.fmod_eq_emod_of_nonneg _ (by omega)]; rfl
    · rw [gcd_step, hg]
theorem sc_made : FnScope ["over", "under", "its", "sign"] ["over", "under"] (defScope s_made) := ⟨rfl, rfl, rfl, by decide +kernel, rfl, by decide +kernel, by decide +kernel⟩
theorem ok_made (T : Txt K mg CN) (hS : base.NoSeer) : FnD pw w K mg base "made" 39 ["over", "under"] sp_made := by
  have F_common_divisor := ok_common_divisor (w := w) T hS
  have F_is_int := ok_is_int (w := w) T hS
  refine okD (k := 38) T.f_made sc_made (fun _ _ _ _ _ _ us hl => match us, hl with | [_, _], _ => rfl) fun f cdv A outer s H E hr => ?_
  have hu := hr.units
  have hP := plroom (X := cxOf (L2.CX pw w) pw w K mg base ["over", "under", "its", "sign"] "made" (defScope s_made) f cdv A outer s H E) hS rfl rfl rfl rfl rfl rfl hr (by decide)
  refine ⟨_, (dcons (dsif (DW.t (dwor (dtnot (dtval (DE.b (dcall F_is_int (hr.mono (by decide)) (dacons (dv 0) danil))))) (dwor (dtnot (dtval (DE.b (dcall F_is_int (hr.mono (by decide)) (dacons (dv 1) danil))))) (dwor1 (dteq hu (DE.b (dv 1)) (DE.b dint)))))) (done1 (draise' rfl T.e_Nothing)) dnil)
      (dcons (dset 2 sc_made.nd (dcall F_common_divisor (hr.mono (by decide)) (dacons (dv 0) (dacons (dv 1) danil))))
      (dcons (dset 3 sc_made.nd (dif (dtgt (DE.b (dv 1)) (DE.b dint)) dint (dneg (DE.b dint))))
      (done1 (dret (dtup (dacons (dfdivL hP (DE.b (dmul (DE.b (dv 3)) (DE.b (dv 0)))) (DE.b (dv 2))) (dacons (dfdivL hP (DE.b (dmul (DE.b (dv 3)) (DE.b (dv 1)))) (DE.b (dv 2))) danil)))))))), fun ds Q X h hl => ?_⟩
  obtain ⟨a, b, rfl, ha, hb, hn, q⟩ := h
  have hn' : (b == 0) = false := by simp [hn]
  simp only [tdR, tdN, tdSq, tdE, tdIf, tdSet, tdF, tdRO, tdAsg, tdSub, tdAug, tdAugS, tdApp, tdPar, tdPar3, tdRaise, tV, tBo, tK, t2, t1, kI, kU, kEq, kEqS, kN, kIx, kST, kSL, kRv, kRvT, kCL, kCT, kRL, kRT, tCh, tTe, tNo, tAn, tOr', tAnV, DL.tOrV, kNo, tIfE, taC, tTp, tLs, tBi, kLen, kAbs, kMM, kInt, kTupc, kLisc, tSc, toN, toS, tOf, gNm, gNl, gCs, gTu, kIsi, kMn, kMx, kRp, tFz, tiS, tiO, tiR1, tiR2, tiRd, tiE, tCal, tCalB, startD, DL.startB, noIo_eq, nio_d, nio_un, nio_own, asD_d, asD_own, asD_io, CT, CNz, tYesD, ex0, tdFor, tdLc, wipeD, isDat_eq, dat_d, dat_un, Owns, setO, List.map_cons, List.map_nil, List.cons_append, List.nil_append, List.length_cons, List.length_nil, List.replicate, List.replicate_succ, List.replicate_zero, List.getElem?_cons_zero, List.getElem?_cons_succ, List.set_cons_zero, List.set_cons_succ, Option.some.injEq, SV.d.injEq, SV.own.injEq, SV.io.injEq, PyData.int.injEq, PyData.str.injEq, PyData.bool.injEq, PyData.tuple.injEq, PyData.list.injEq, exists_eq_left', exists_eq_left, exists_eq_right, exists_eq_right', exists_and_left, true_and, and_true, if_true, if_false, id, reduceCtorEq, false_or, or_false, exists_false, List.cons.injEq, and_self, SV.d.injEq, Nat.reduceAdd, Nat.reduceSub, ite_true, ite_false, decide_eq_true_eq, Bool.false_eq_true, exists_const, decide_true, decide_false, List.forall_mem_cons, List.forall_mem_nil, Bool.not_true, Bool.not_false, Bool.not_eq_true, Nat.reduceLT, forall_const, implies_true, and_assoc, true_or, or_true, List.not_mem_nil, false_implies, Int.natCast_inj, not_true_eq_false, not_false_eq_true, and_false, false_and, sp_is_int, sp_common_divisor, shI, eqI, hn']
  have e1 := made_num a b hn
  have e2 := made_den a b hn
  have c1 := cmu_sgn (b := b) ha
  have c2 := cmu_sgn (b := b) hb
  have g := gcd_ne a b hn
  by_cases h : 0 < b
  · rw [if_pos h] at e1 e2 c1 c2 ⊢
    refine ⟨c1, g, c2, g, by rw [sizeLine_eq]; decide, ?_⟩
    rw [e1, e2]; exact q
  · rw [if_neg h] at e1 e2 c1 c2 ⊢
    refine ⟨c1, g, c2, g, by rw [sizeLine_eq]; decide, ?_⟩
    rw [e1, e2]; exact q
theorem sc_plus : FnScope ["one", "other"] ["one", "other"] (defScope s_plus) := ⟨rfl, rfl, rfl, by decide +kernel, rfl, by decide +kernel, by decide +kernel⟩
theorem ok_plus (T : Txt K mg CN) (hS : base.NoSeer) : FnD pw w K mg base "plus" 40 ["one", "other"] sp_plus := by
  have F_made := ok_made (w := w) T hS
  refine okD (k := 39) T.f_plus sc_plus (fun _ _ _ _ _ _ us hl => match us, hl with | [_, _], _ => rfl) fun f cdv A outer s H E hr => ?_
  refine ⟨_, (done1 (dret (dcall F_made (hr.mono (by decide)) (dacons (dadd (DE.b (dmul (DE.b (dix (DE.b (dv 0)) (DE.b dint))) (DE.b (dix (DE.b (dv 1)) (DE.b dint))))) (DE.b (dmul (DE.b (dix (DE.b (dv 1)) (DE.b dint))) (DE.b (dix (DE.b (dv 0)) (DE.b dint)))))) (dacons (dmul (DE.b (dix (DE.b (dv 0)) (DE.b dint))) (DE.b (dix (DE.b (dv 1)) (DE.b dint)))) danil))))), fun ds Q X h hl => ?_⟩
  obtain ⟨p, q, rfl, hp, hq, k⟩ := h
  simp only [tdR, tdN, tdSq, tdE, tdIf, tdSet, tdF, tdRO, tdAsg, tdSub, tdAug, tdAugS, tdApp, tdPar, tdPar3, tdRaise, tV, tBo, tK, t2, t1, kI, kU, kEq, kEqS, kN, kIx, kST, kSL, kRv, kRvT, kCL, kCT, kRL, kRT, tCh, tTe, tNo, tAn, tOr', tAnV, DL.tOrV, kNo, tIfE, taC, tTp, tLs, tBi, kLen, kAbs, kMM, kInt, kTupc, kLisc, tSc, toN, toS, tOf, gNm, gNl, gCs, gTu, kIsi, kMn, kMx, kRp, tFz, tiS, tiO, tiR1, tiR2, tiRd, tiE, tCal, tCalB, startD, DL.startB, noIo_eq, nio_d, nio_un, nio_own, asD_d, asD_own, asD_io, CT, CNz, tYesD, ex0, tdFor, tdLc, wipeD, isDat_eq, dat_d, dat_un, Owns, setO, List.map_cons, List.map_nil, List.cons_append, List.nil_append, List.length_cons, List.length_nil, List.replicate, List.replicate_succ, List.replicate_zero, List.getElem?_cons_zero, List.getElem?_cons_succ, List.set_cons_zero, List.set_cons_succ, Option.some.injEq, SV.d.injEq, SV.own.injEq, SV.io.injEq, PyData.int.injEq, PyData.str.injEq, PyData.bool.injEq, PyData.tuple.injEq, PyData.list.injEq, exists_eq_left', exists_eq_left, exists_eq_right, exists_eq_right', exists_and_left, true_and, and_true, if_true, if_false, id, reduceCtorEq, false_or, or_false, exists_false, List.cons.injEq, and_self, SV.d.injEq, Nat.reduceAdd, Nat.reduceSub, ite_true, ite_false, decide_eq_true_eq, Bool.false_eq_true, exists_const, decide_true, decide_false, List.forall_mem_cons, List.forall_mem_nil, Bool.not_true, Bool.not_false, Bool.not_eq_true, Nat.reduceLT, forall_const, implies_true, and_assoc, true_or, or_true, List.not_mem_nil, false_implies, Int.natCast_inj, not_true_eq_false, not_false_eq_true, and_false, false_and, fr, at0_, at1_, sp_made]
  have m1 := lg_mul hp.1 (b := (q.den : Int)) hq.2
  have m2 := lg_mul hq.1 (b := (p.den : Int)) hp.2
  have m3 := lg_mul (a := (p.den : Int)) hp.2 (b := (q.den : Int)) hq.2
  refine ⟨cmu_sm hp.1 hq.2, cmu_sm hq.1 hp.2, cmu_sm hp.2 hq.2, ?_, ?_, ?_, ?_⟩
  · have := lg_add m1 m2; omega
  · omega
  · exact Int.mul_ne_zero (den_ne p) (den_ne q)
  · rw [div_add]; exact k
theorem sc_times : FnScope ["one", "other"] ["one", "other"] (defScope s_times) := ⟨rfl, rfl, rfl, by decide +kernel, rfl, by decide +kernel, by decide +kernel⟩
theorem ok_times (T : Txt K mg CN) (hS : base.NoSeer) : FnD pw w K mg base "times" 40 ["one", "other"] sp_times := by
  have F_made := ok_made (w := w) T hS
  refine okD (k := 39) T.f_times sc_times (fun _ _ _ _ _ _ us hl => match us, hl with | [_, _], _ => rfl) fun f cdv A outer s H E hr => ?_
  refine ⟨_, (done1 (dret (dcall F_made (hr.mono (by decide)) (dacons (dmul (DE.b (dix (DE.b (dv 0)) (DE.b dint))) (DE.b (dix (DE.b (dv 1)) (DE.b dint)))) (dacons (dmul (DE.b (dix (DE.b (dv 0)) (DE.b dint))) (DE.b (dix (DE.b (dv 1)) (DE.b dint)))) danil))))), fun ds Q X h hl => ?_⟩
  obtain ⟨p, q, rfl, hp, hq, k⟩ := h
  simp only [tdR, tdN, tdSq, tdE, tdIf, tdSet, tdF, tdRO, tdAsg, tdSub, tdAug, tdAugS, tdApp, tdPar, tdPar3, tdRaise, tV, tBo, tK, t2, t1, kI, kU, kEq, kEqS, kN, kIx, kST, kSL, kRv, kRvT, kCL, kCT, kRL, kRT, tCh, tTe, tNo, tAn, tOr', tAnV, DL.tOrV, kNo, tIfE, taC, tTp, tLs, tBi, kLen, kAbs, kMM, kInt, kTupc, kLisc, tSc, toN, toS, tOf, gNm, gNl, gCs, gTu, kIsi, kMn, kMx, kRp, tFz, tiS, tiO, tiR1, tiR2, tiRd, tiE, tCal, tCalB, startD, DL.startB, noIo_eq, nio_d, nio_un, nio_own, asD_d, asD_own, asD_io, CT, CNz, tYesD, ex0, tdFor, tdLc, wipeD, isDat_eq, dat_d, dat_un, Owns, setO, List.map_cons, List.map_nil, List.cons_append, List.nil_append, List.length_cons, List.length_nil, List.replicate, List.replicate_succ, List.replicate_zero, List.getElem?_cons_zero, List.getElem?_cons_succ, List.set_cons_zero, List.set_cons_succ, Option.some.injEq, SV.d.injEq, SV.own.injEq, SV.io.injEq, PyData.int.injEq, PyData.str.injEq, PyData.bool.injEq, PyData.tuple.injEq, PyData.list.injEq, exists_eq_left', exists_eq_left, exists_eq_right, exists_eq_right', exists_and_left, true_and, and_true, if_true, if_false, id, reduceCtorEq, false_or, or_false, exists_false, List.cons.injEq, and_self, SV.d.injEq, Nat.reduceAdd, Nat.reduceSub, ite_true, ite_false, decide_eq_true_eq, Bool.false_eq_true, exists_const, decide_true, decide_false, List.forall_mem_cons, List.forall_mem_nil, Bool.not_true, Bool.not_false, Bool.not_eq_true, Nat.reduceLT, forall_const, implies_true, and_assoc, true_or, or_true, List.not_mem_nil, false_implies, Int.natCast_inj, not_true_eq_false, not_false_eq_true, and_false, false_and, fr, at0_, at1_, sp_made]
  have m1 := lg_mul hp.1 hq.1
  have m3 := lg_mul (a := (p.den : Int)) hp.2 (b := (q.den : Int)) hq.2
  refine ⟨cmu_sm hp.1 hq.1, cmu_sm hp.2 hq.2, ?_, ?_, ?_, ?_⟩
  · omega
  · omega
  · exact Int.mul_ne_zero (den_ne p) (den_ne q)
  · rw [div_mul]; exact k
theorem sc_over_by : FnScope ["one", "other"] ["one", "other"] (defScope s_over_by) := ⟨rfl, rfl, rfl, by decide +kernel, rfl, by decide +kernel, by decide +kernel⟩
theorem ok_over_by (T : Txt K mg CN) (hS : base.NoSeer) : FnD pw w K mg base "over_by" 40 ["one", "other"] sp_over_by := by
  have F_made := ok_made (w := w) T hS
  refine okD (k := 39) T.f_over_by sc_over_by (fun _ _ _ _ _ _ us hl => match us, hl with | [_, _], _ => rfl) fun f cdv A outer s H E hr => ?_
  refine ⟨_, (done1 (dret (dcall F_made (hr.mono (by decide)) (dacons (dmul (DE.b (dix (DE.b (dv 0)) (DE.b dint))) (DE.b (dix (DE.b (dv 1)) (DE.b dint)))) (dacons (dmul (DE.b (dix (DE.b (dv 0)) (DE.b dint))) (DE.b (dix (DE.b (dv 1)) (DE.b dint)))) danil))))), fun ds Q X h hl => ?_⟩
  obtain ⟨p, q, rfl, hp, hq, hn, k⟩ := h
  simp only [tdR, tdN, tdSq, tdE, tdIf, tdSet, tdF, tdRO, tdAsg, tdSub, tdAug, tdAugS, tdApp, tdPar, tdPar3, tdRaise, tV, tBo, tK, t2, t1, kI, kU, kEq, kEqS, kN, kIx, kST, kSL, kRv, kRvT, kCL, kCT, kRL, kRT, tCh, tTe, tNo, tAn, tOr', tAnV, DL.tOrV, kNo, tIfE, taC, tTp, tLs, tBi, kLen, kAbs, kMM, kInt, kTupc, kLisc, tSc, toN, toS, tOf, gNm, gNl, gCs, gTu, kIsi, kMn, kMx, kRp, tFz, tiS, tiO, tiR1, tiR2, tiRd, tiE, tCal, tCalB, startD, DL.startB, noIo_eq, nio_d, nio_un, nio_own, asD_d, asD_own, asD_io, CT, CNz, tYesD, ex0, tdFor, tdLc, wipeD, isDat_eq, dat_d, dat_un, Owns, setO, List.map_cons, List.map_nil, List.cons_append, List.nil_append, List.length_cons, List.length_nil, List.replicate, List.replicate_succ, List.replicate_zero, List.getElem?_cons_zero, List.getElem?_cons_succ, List.set_cons_zero, List.set_cons_succ, Option.some.injEq, SV.d.injEq, SV.own.injEq, SV.io.injEq, PyData.int.injEq, PyData.str.injEq, PyData.bool.injEq, PyData.tuple.injEq, PyData.list.injEq, exists_eq_left', exists_eq_left, exists_eq_right, exists_eq_right', exists_and_left, true_and, and_true, if_true, if_false, id, reduceCtorEq, false_or, or_false, exists_false, List.cons.injEq, and_self, SV.d.injEq, Nat.reduceAdd, Nat.reduceSub, ite_true, ite_false, decide_eq_true_eq, Bool.false_eq_true, exists_const, decide_true, decide_false, List.forall_mem_cons, List.forall_mem_nil, Bool.not_true, Bool.not_false, Bool.not_eq_true, Nat.reduceLT, forall_const, implies_true, and_assoc, true_or, or_true, List.not_mem_nil, false_implies, Int.natCast_inj, not_true_eq_false, not_false_eq_true, and_false, false_and, fr, at0_, at1_, sp_made]
  have m1 := lg_mul hp.1 (b := (q.den : Int)) hq.2
  have m3 := lg_mul (a := (p.den : Int)) hp.2 hq.1
  refine ⟨cmu_sm hp.1 hq.2, cmu_sm hp.2 hq.1, ?_, ?_, ?_, ?_⟩
  · omega
  · omega
  · exact Int.mul_ne_zero (den_ne p) (num_ne hn)
  · rw [div_div]; exact k
end
end K70
namespace K70
open PySem PySem.Spec L2 DL
open PyProof.Rows hiding St

section
variable {w : World} {K : PySem.W.Frag} {mg : Str → Option Value} {base : Heap} {CN : Addr}

open PM
theorem sz_sm {h : Nat} {a : Rat} (x : Sz h a) (e : h ≤ 60000000) : Sm a := by
  have l : ∀ n : Nat, n ≤ 2 ^ h → n.log2 ≤ 60000000 := fun n hn => Nat.le_trans (log2_mono hn) (by rw [Nat.log2_two_pow]; exact e)
  exact ⟨l _ x.1, l _ x.2⟩
theorem sm_neg {a : Rat} (x : Sm a) : Sm (-a) := by
  unfold Sm at x ⊢
  rw [Rat.neg_num, Rat.neg_den, Int.natAbs_neg]; exact x
theorem sm_int {i : Int} (h : i.natAbs.log2 ≤ 60000000) : Sm (i : Rat) := ⟨h, by show (1 : Nat).log2 ≤ _; decide⟩
theorem sm_zero : Sm 0 := sm_int (i := 0) (by decide)
theorem sm_one : Sm 1 := sm_int (i := 1) (by decide)
def SmL (l : List Rat) : Prop := ∀ p, Sm (at0 l p)
theorem hb_smL {h : Nat} {l : List Rat} (x : Hb h l) (e : h ≤ 60000000) : SmL l := fun p => sz_sm (x.sz p) e
theorem shF (p : Rat) : SeqAt.shaped (fr p) = true := rfl
theorem fr_inj {p q : Rat} : fr p = fr q ↔ p = q := by
  unfold fr
  simp only [PyData.tuple.injEq, List.cons.injEq, PyData.int.injEq, and_true]
  exact ⟨fun h => Rat.ext h.1 (by exact_mod_cast h.2), fun h => by subst h; exact ⟨rfl, rfl⟩⟩
theorem map_fr_inj {l m : List Rat} : l.map fr = m.map fr ↔ l = m := ⟨fun h => by
  induction l generalizing m with
  | nil => cases m with
    | nil => rfl
    | cons b m => simp at h
  | cons a l ih => cases m with
    | nil => simp at h
    | cons b m =>
      simp only [List.map_cons, List.cons.injEq, fr_inj] at h
      rw [h.1, ih h.2], fun h => by rw [h]⟩
theorem eqF (p q : Rat) : PyData.eqv (fr p) (fr q) = decide (p = q) := by
  unfold fr
  simp only [PyData.eqv, PyData.eqvAll, Bool.and_true]
  by_cases h : p = q
  · subst h; simp
  · rw [decide_eq_false h]
    rw [Bool.and_eq_false_iff]
    by_cases e : p.num = q.num
    · right
      refine beq_eq_false_iff_ne.mpr fun z => h (Rat.ext e (by exact_mod_cast z))
    · left; exact beq_eq_false_iff_ne.mpr e
theorem eqPs : ∀ (l m : List Rat), PyData.eqvAll (l.map fr) (m.map fr) = decide (l = m)
  | [], [] => rfl
  | [], b :: m => rfl
  | a :: l, [] => rfl
  | a :: l, b :: m => by
    rw [List.map_cons, List.map_cons, PyData.eqvAll, eqF, eqPs l m]
    by_cases h : a = b <;> by_cases g : l = m <;> simp [h, g]
theorem eqP (l m : List Rat) : PyData.eqv (.tuple (l.map fr)) (.tuple (m.map fr)) = decide (l = m) := by rw [PyData.eqv]; exact eqPs l m
theorem eqP0 (l : List Rat) : PyData.eqv (.tuple (l.map fr)) (.tuple []) = decide (l = []) := eqP l []
theorem can_fr : ∀ l : List Rat, PyData.canLayAll0 (l.map fr) = true
  | [] => rfl
  | a :: l => by rw [List.map_cons, PyData.canLayAll0, can_fr l]; rfl
theorem dep_fr : ∀ l : List Rat, PyData.depthAll (l.map fr) ≤ 1
  | [] => by simp [PyData.depthAll]
  | a :: l => by rw [List.map_cons, PyData.depthAll]; have := dep_fr l; have e : (fr a).depth = 1 := rfl; omega
theorem shP (l : List Rat) : SeqAt.shaped (.tuple (l.map fr)) = true := by
  unfold SeqAt.shaped
  rw [Bool.and_eq_true]
  refine ⟨can_fr l, decide_eq_true ?_⟩
  have := dep_fr l
  show PyData.depthAll (l.map fr) + 1 ≤ 64
  omega
theorem sh0 : SeqAt.shaped (.tuple []) = true := rfl
theorem ixN_nat {n i : Nat} (h : i < n) : ixN n (i : Int) = some i := by
  unfold ixN
  rw [if_pos (by omega), if_pos (by omega)]; simp
theorem ixN_back {n : Nat} (h : 0 < n) : ixN n (-1) = some (n - 1) := by
  unfold ixN
  rw [if_neg (by omega), if_pos (by omega)]
  congr 1; omega
theorem atI_fr {l : List Rat} {i : Nat} (h : i < l.length) : atI (l.map fr) (i : Int) = some (fr (at0 l i)) := by
  unfold atI
  rw [List.length_map, ixN_nat h]
  show (l.map fr)[i]? = _
  rw [List.getElem?_map]; unfold at0
  rw [List.getElem?_eq_getElem h]; rfl
theorem atI_back {l : List Rat} (h : l ≠ []) : atI (l.map fr) (-1) = some (fr (at0 l (l.length - 1))) := by
  have := List.length_pos_iff.mpr h
  unfold atI
  rw [List.length_map, ixN_back this]
  show (l.map fr)[l.length - 1]? = _
  rw [List.getElem?_map]; unfold at0
  rw [List.getElem?_eq_getElem (by omega)]; rfl
theorem cut_take (xs : List D) (k : Nat) (h : k ≤ xs.length) : DL.cutD xs none (some (k : Int)) = xs.take k := by
  unfold DL.cutD
  have e : HT.sIx xs.length xs.length (some (k : Int)) = k := by
    unfold HT.sIx
    simp only
    rw [if_neg (by omega)]
    omega
  have e0 : HT.sIx xs.length 0 none = 0 := rfl
  rw [e, e0, List.drop_zero, Nat.sub_zero]
def sp_trimmed : SpD := fun ds Q _ => ∃ l : List Rat, ds = [.list (l.map fr)] ∧ Q (.d (po (trim l)))
def sp_term : SpD := fun ds Q _ => ∃ (l : List Rat) (k : Nat), ds = [po l, .int k] ∧ Q (.d (fr (at0 l k)))
def sp_opposite : SpD := fun ds Q _ => ∃ l : List Rat, ds = [po l] ∧ l.length ≤ 1000 ∧ Q (.d (po (neg l)))
theorem atI_pred {l : List Rat} {k : Nat} (h0 : 0 < k) (h : k ≤ l.length) : atI (l.map fr) ((k : Int) - 1) = some (fr (at0 l (k - 1))) := by
  have e : (k : Int) - 1 = ((k - 1 : Nat) : Int) := by omega
  rw [e]; exact atI_fr (by omega)
theorem trim_take_succ {l : List Rat} {k : Nat} (h : at0 l k = 0) : trim (l.take (k + 1)) = trim (l.take k) := by
  refine trim_uniq _ _ fun x => ?_
  rw [ev_take_succ]
  unfold at0 at h
  rw [h]; grind
theorem trim_stop {l : List Rat} {k : Nat} (hk : k ≤ l.length) (h : k = 0 ∨ at0 l (k - 1) ≠ 0) : trim (l.take k) = l.take k := by
  refine tr_of_last fun n => ?_
  have hk0 : k ≠ 0 := fun z => n (by rw [z]; rfl)
  have := h.resolve_left hk0
  rw [List.getLast_eq_getElem]
  unfold at0 at this
  rw [List.getElem?_eq_getElem (by omega)] at this
  simp only [List.length_take, List.getElem_take]
  have e : min k l.length - 1 = k - 1 := by omega
  simp only [e]
  exact this
theorem sc_trimmed : FnScope ["terms", "many"] ["terms"] (defScope s_trimmed) := ⟨rfl, rfl, rfl, by decide +kernel, rfl, by decide +kernel, by decide +kernel⟩
theorem ok_trimmed (T : Txt K mg CN) (hS : base.NoSeer) : FnD pw w K mg base "trimmed" 38 ["terms"] sp_trimmed := by
  refine okD (k := 37) T.f_trimmed sc_trimmed (fun _ _ _ _ _ _ us hl => match us, hl with | [_], _ => rfl) fun f cdv A outer s H E hr => ?_
  have hu := hr.units
  refine ⟨_, (dcons (dset 1 sc_trimmed.nd (dlen (by rfl) T.b_len (dab1 (DE.b (dv 0)))))
      (dcons (dwhile (passes_of rfl) (DW.t (dwand (dtgt (DE.b (dv 1)) (DE.b dint)) (dwand1 (dteq hu (DE.b (dix (DE.b (dv 0)) (DE.b (dsub (DE.b (dv 1)) (DE.b dint))))) (DE.b (dcon T.c_NIL)))))) (done1 (daug 1 ipd_sub sc_trimmed.nd (DE.b dint))))
      (done1 (dret (dtupc (by rfl) T.b_tuple (dab1 (DE.b (dslL (DE.b (dv 0)) don (dos (DE.b (dv 1))))))))))), fun ds Q X h hl => ?_⟩
  obtain ⟨l, rfl, q⟩ := h
  simp only [tdR, tdN, tdSq, tdE, tdIf, tdSet, tdF, tdRO, tdAsg, tdSub, tdAug, tdAugS, tdApp, tdPar, tdPar3, tdRaise, tV, tBo, tK, t2, t1, kI, kU, kEq, kEqS, kN, kIx, kST, kSL, kRv, kRvT, kCL, kCT, kRL, kRT, tCh, tTe, tNo, tAn, tOr', tAnV, DL.tOrV, kNo, tIfE, taC, tTp, tLs, tBi, kLen, kAbs, kMM, kInt, kTupc, kLisc, tSc, toN, toS, tOf, gNm, gNl, gCs, gTu, kIsi, kMn, kMx, kRp, tFz, tiS, tiO, tiR1, tiR2, tiRd, tiE, tCal, tCalB, startD, DL.startB, noIo_eq, nio_d, nio_un, nio_own, asD_d, asD_own, asD_io, CT, CNz, tYesD, ex0, tdFor, tdLc, wipeD, isDat_eq, dat_d, dat_un, Owns, setO, List.map_cons, List.map_nil, List.cons_append, List.nil_append, List.length_cons, List.length_nil, List.replicate, List.replicate_succ, List.replicate_zero, List.getElem?_cons_zero, List.getElem?_cons_succ, List.set_cons_zero, List.set_cons_succ, Option.some.injEq, SV.d.injEq, SV.own.injEq, SV.io.injEq, PyData.int.injEq, PyData.str.injEq, PyData.bool.injEq, PyData.tuple.injEq, PyData.list.injEq, exists_eq_left', exists_eq_left, exists_eq_right, exists_eq_right', exists_and_left, true_and, and_true, if_true, if_false, id, reduceCtorEq, false_or, or_false, exists_false, List.cons.injEq, and_self, SV.d.injEq, Nat.reduceAdd, Nat.reduceSub, ite_true, ite_false, decide_eq_true_eq, Bool.false_eq_true, exists_const, decide_true, decide_false, List.forall_mem_cons, List.forall_mem_nil, Bool.not_true, Bool.not_false, Bool.not_eq_true, Nat.reduceLT, forall_const, implies_true, and_assoc, true_or, or_true, List.not_mem_nil, false_implies, Int.natCast_inj, not_true_eq_false, not_false_eq_true, and_false, false_and]
  refine ⟨fun m δ => δ = [.d (.list (l.map fr)), .d (.int (m : Nat))] ∧ m ≤ l.length ∧ trim (l.take m) = trim l, ⟨l.length, by rw [List.length_map], Nat.le_refl _, by rw [List.take_length]⟩, fun m δ h => ?_⟩
  obtain ⟨rfl, hm, ht⟩ := h
  simp only [tdR, tdN, tdSq, tdE, tdIf, tdSet, tdF, tdRO, tdAsg, tdSub, tdAug, tdAugS, tdApp, tdPar, tdPar3, tdRaise, tV, tBo, tK, t2, t1, kI, kU, kEq, kEqS, kN, kIx, kST, kSL, kRv, kRvT, kCL, kCT, kRL, kRT, tCh, tTe, tNo, tAn, tOr', tAnV, DL.tOrV, kNo, tIfE, taC, tTp, tLs, tBi, kLen, kAbs, kMM, kInt, kTupc, kLisc, tSc, toN, toS, tOf, gNm, gNl, gCs, gTu, kIsi, kMn, kMx, kRp, tFz, tiS, tiO, tiR1, tiR2, tiRd, tiE, tCal, tCalB, startD, DL.startB, noIo_eq, nio_d, nio_un, nio_own, asD_d, asD_own, asD_io, CT, CNz, tYesD, ex0, tdFor, tdLc, wipeD, isDat_eq, dat_d, dat_un, Owns, setO, List.map_cons, List.map_nil, List.cons_append, List.nil_append, List.length_cons, List.length_nil, List.replicate, List.replicate_succ, List.replicate_zero, List.getElem?_cons_zero, List.getElem?_cons_succ, List.set_cons_zero, List.set_cons_succ, Option.some.injEq, SV.d.injEq, SV.own.injEq, SV.io.injEq, PyData.int.injEq, PyData.str.injEq, PyData.bool.injEq, PyData.tuple.injEq, PyData.list.injEq, exists_eq_left', exists_eq_left, exists_eq_right, exists_eq_right', exists_and_left, true_and, and_true, if_true, if_false, id, reduceCtorEq, false_or, or_false, exists_false, List.cons.injEq, and_self, SV.d.injEq, Nat.reduceAdd, Nat.reduceSub, ite_true, ite_false, decide_eq_true_eq, Bool.false_eq_true, exists_const, decide_true, decide_false, List.forall_mem_cons, List.forall_mem_nil, Bool.not_true, Bool.not_false, Bool.not_eq_true, Nat.reduceLT, forall_const, implies_true, and_assoc, true_or, or_true, List.not_mem_nil, false_implies, Int.natCast_inj, not_true_eq_false, not_false_eq_true, and_false, false_and]
  by_cases h0 : 0 < m
  · have h0' : (0 : Int) < (m : Int) := by omega
    rw [if_pos h0', atI_pred h0 hm]
    simp only [List.map_cons, List.map_nil, List.cons_append, List.nil_append, List.length_cons, List.length_nil, List.replicate, List.replicate_succ, List.replicate_zero, List.getElem?_cons_zero, List.getElem?_cons_succ, List.set_cons_zero, List.set_cons_succ, Option.some.injEq, SV.d.injEq, SV.own.injEq, SV.io.injEq, PyData.int.injEq, PyData.str.injEq, PyData.bool.injEq, PyData.tuple.injEq, PyData.list.injEq, exists_eq_left', exists_eq_left, exists_eq_right, exists_eq_right', exists_and_left, true_and, and_true, if_true, if_false, id, reduceCtorEq, false_or, or_false, exists_false, List.cons.injEq, and_self, SV.d.injEq, Nat.reduceAdd, Nat.reduceSub, ite_true, ite_false, decide_eq_true_eq, Bool.false_eq_true, exists_const, decide_true, decide_false, List.forall_mem_cons, List.forall_mem_nil, Bool.not_true, Bool.not_false, Bool.not_eq_true, Nat.reduceLT, forall_const, implies_true, and_assoc, true_or, or_true, List.not_mem_nil, false_implies, Int.natCast_inj, not_true_eq_false, not_false_eq_true, and_false, false_and, shF, eqF]
    by_cases e : at0 l (m - 1) = 0
    · rw [if_pos e]
      refine ⟨m - 1, by omega, by omega, by omega, ?_⟩
      have e1 : m - 1 + 1 = m := by omega
      have := trim_take_succ e
      rw [e1] at this
      rw [← this, ht]
    · rw [if_neg e, cut_take _ _ (by rw [List.length_map]; exact hm), ← List.map_take, ← trim_stop hm (.inr e), ht]
      exact q
  · have h0' : ¬ (0 : Int) < (m : Int) := by omega
    have em : m = 0 := by omega
    subst em
    rw [if_neg h0']
    rw [List.take_zero] at ht
    have e : trim l = [] := ht.symm
    rw [e] at q
    rw [cut_take _ _ (Nat.zero_le _)]
    exact q
theorem sc_term : FnScope ["poly", "power"] ["poly", "power"] (defScope s_term) := ⟨rfl, rfl, rfl, by decide +kernel, rfl, by decide +kernel, by decide +kernel⟩
theorem ok_term (T : Txt K mg CN) (hS : base.NoSeer) : FnD pw w K mg base "term" 38 ["poly", "power"] sp_term := by
  refine okD (k := 37) T.f_term sc_term (fun _ _ _ _ _ _ us hl => match us, hl with | [_, _], _ => rfl) fun f cdv A outer s H E hr => ?_
  refine ⟨_, (done1 (dret (dif (dtchain op_le op_lt (DE.b dint) (DE.b (dv 1)) (DE.b (dlen (by rfl) T.b_len (dab1 (DE.b (dv 0)))))) (dix (DE.b (dv 0)) (DE.b (dv 1))) (dcon T.c_NIL)))), fun ds Q X h hl => ?_⟩
  obtain ⟨l, k, rfl, q⟩ := h
  simp only [tdR, tdN, tdSq, tdE, tdIf, tdSet, tdF, tdRO, tdAsg, tdSub, tdAug, tdAugS, tdApp, tdPar, tdPar3, tdRaise, tV, tBo, tK, t2, t1, kI, kU, kEq, kEqS, kN, kIx, kST, kSL, kRv, kRvT, kCL, kCT, kRL, kRT, tCh, tTe, tNo, tAn, tOr', tAnV, DL.tOrV, kNo, tIfE, taC, tTp, tLs, tBi, kLen, kAbs, kMM, kInt, kTupc, kLisc, tSc, toN, toS, tOf, gNm, gNl, gCs, gTu, kIsi, kMn, kMx, kRp, tFz, tiS, tiO, tiR1, tiR2, tiRd, tiE, tCal, tCalB, startD, DL.startB, noIo_eq, nio_d, nio_un, nio_own, asD_d, asD_own, asD_io, CT, CNz, tYesD, ex0, tdFor, tdLc, wipeD, isDat_eq, dat_d, dat_un, Owns, setO, List.map_cons, List.map_nil, List.cons_append, List.nil_append, List.length_cons, List.length_nil, List.replicate, List.replicate_succ, List.replicate_zero, List.getElem?_cons_zero, List.getElem?_cons_succ, List.set_cons_zero, List.set_cons_succ, Option.some.injEq, SV.d.injEq, SV.own.injEq, SV.io.injEq, PyData.int.injEq, PyData.str.injEq, PyData.bool.injEq, PyData.tuple.injEq, PyData.list.injEq, exists_eq_left', exists_eq_left, exists_eq_right, exists_eq_right', exists_and_left, true_and, and_true, if_true, if_false, id, reduceCtorEq, false_or, or_false, exists_false, List.cons.injEq, and_self, SV.d.injEq, Nat.reduceAdd, Nat.reduceSub, ite_true, ite_false, decide_eq_true_eq, Bool.false_eq_true, exists_const, decide_true, decide_false, List.forall_mem_cons, List.forall_mem_nil, Bool.not_true, Bool.not_false, Bool.not_eq_true, Nat.reduceLT, forall_const, implies_true, and_assoc, true_or, or_true, List.not_mem_nil, false_implies, Int.natCast_inj, not_true_eq_false, not_false_eq_true, and_false, false_and, po]
  rw [if_pos (by omega)]
  by_cases h : k < l.length
  · rw [if_pos (by rw [List.length_map]; omega), atI_fr h]
    exact ⟨_, rfl, q⟩
  · rw [if_neg (by rw [List.length_map]; omega)]
    have : at0 l k = 0 := by unfold at0; rw [List.getElem?_eq_none (by omega)]; rfl
    rw [this] at q; exact q
theorem get_fr {l : List Rat} {i : Nat} {x : D} (h : (l.map fr)[i]? = some x) : i < l.length ∧ x = fr (at0 l i) := by
  rw [List.getElem?_map] at h
  by_cases hi : i < l.length
  · unfold at0
    rw [List.getElem?_eq_getElem hi] at h ⊢
    exact ⟨hi, (Option.some.inj h).symm⟩
  · rw [List.getElem?_eq_none (by omega)] at h; cases h
theorem map_succ {β : Type} (f : Rat → β) {l : List Rat} {i : Nat} (h : i < l.length) : (l.take (i + 1)).map f = (l.take i).map f ++ [f (at0 l i)] := by
  rw [List.take_succ, List.map_append]
  unfold at0
  rw [List.getElem?_eq_getElem h]; rfl
theorem rng_succ {β : Type} (f : Nat → β) (i : Nat) : (List.range (i + 1)).map f = (List.range i).map f ++ [f i] := by
  rw [List.range_succ, List.map_append]; rfl
theorem lt_size {n : Nat} (h : n ≤ 100000) : n < sizeLine := by rw [sizeLine_eq]; omega
def sp_poly_plus : SpD := fun ds Q _ => ∃ l m : List Rat, ds = [po l, po m] ∧ SmL l ∧ SmL m ∧ l.length ≤ 1000 ∧ m.length ≤ 1000 ∧ Q (.d (po (trim (addR l m))))
def sp_poly_minus : SpD := fun ds Q _ => ∃ l m : List Rat, ds = [po l, po m] ∧ SmL l ∧ SmL m ∧ l.length ≤ 1000 ∧ m.length ≤ 1000 ∧ Q (.d (po (trim (addR l (neg m)))))
def sp_scaled : SpD := fun ds Q _ => ∃ (l : List Rat) (c : Rat), ds = [po l, fr c] ∧ SmL l ∧ Sm c ∧ l.length ≤ 1000 ∧ Q (.d (po (if c = 0 then [] else l.map fun a => a * c)))
def sp_shifted : SpD := fun ds Q _ => ∃ (l : List Rat) (k : Nat), ds = [po l, .int k] ∧ k ≤ 1000 ∧ l.length ≤ 1000 ∧ Q (.d (po (if l = [] then [] else List.replicate k 0 ++ l)))
theorem max_if (a b : Nat) : (if (b : Int) > (a : Int) then (b : Int) else (a : Int)) = ((max a b : Nat) : Int) := by split <;> omega
theorem rngD_nat {n i : Nat} {x : D} (h : (rngD 0 1 n)[i]? = some x) : i < n ∧ x = .int (i : Int) := by
  obtain ⟨h1, h2⟩ := rngD_get h
  exact ⟨h1, by rw [h2]; congr 1; omega⟩
theorem reps_fr (k : Nat) (c : Rat) : reps k [fr c] = (List.replicate k c).map fr := by rw [reps_one, List.map_replicate]
theorem sc_opposite : FnScope ["poly", "over", "under"] ["poly"] (defScope s_opposite) := ⟨rfl, rfl, rfl, by decide +kernel, rfl, by decide +kernel, by decide +kernel⟩
theorem ok_opposite (T : Txt K mg CN) (hS : base.NoSeer) : FnD pw w K mg base "opposite" 38 ["poly"] sp_opposite := by
  refine okD (k := 37) T.f_opposite sc_opposite (fun _ _ _ _ _ _ us hl => match us, hl with | [_], _ => rfl) fun f cdv A outer s H E hr => ?_
  refine ⟨_, (done1 (dret (dtupc (by rfl) T.b_tuple (dab1 (DE.b (dlc (own := [("over", 1), ("under", 2)]) rfl sc_opposite.nd (diS (dv 0)) (blkOk_by (by kernel_rfl)) (by decide) (fun _ _ _ _ _ => (dgtup (n := 2) rfl (dgcons (dgn 1 sc_opposite.nd) (dgcons (dgn 2 sc_opposite.nd) dgnil)))) (fun _ _ _ _ _ => (dptN)) (fun _ _ _ _ _ => (dtup (dacons (dneg (DE.b (dv 1))) (dacons (dv 2) danil)))))))))), fun ds Q X h hl => ?_⟩
  obtain ⟨l, rfl, hl, q⟩ := h
  simp only [tdR, tdN, tdSq, tdE, tdIf, tdSet, tdF, tdRO, tdAsg, tdSub, tdAug, tdAugS, tdApp, tdPar, tdPar3, tdRaise, tV, tBo, tK, t2, t1, kI, kU, kEq, kEqS, kN, kIx, kST, kSL, kRv, kRvT, kCL, kCT, kRL, kRT, tCh, tTe, tNo, tAn, tOr', tAnV, DL.tOrV, kNo, tIfE, taC, tTp, tLs, tBi, kLen, kAbs, kMM, kInt, kTupc, kLisc, tSc, toN, toS, tOf, gNm, gNl, gCs, gTu, kIsi, kMn, kMx, kRp, tFz, tiS, tiO, tiR1, tiR2, tiRd, tiE, tCal, tCalB, startD, DL.startB, noIo_eq, nio_d, nio_un, nio_own, asD_d, asD_own, asD_io, CT, CNz, tYesD, ex0, tdFor, tdLc, wipeD, isDat_eq, dat_d, dat_un, Owns, setO, List.map_cons, List.map_nil, List.cons_append, List.nil_append, List.length_cons, List.length_nil, List.replicate, List.replicate_succ, List.replicate_zero, List.getElem?_cons_zero, List.getElem?_cons_succ, List.set_cons_zero, List.set_cons_succ, Option.some.injEq, SV.d.injEq, SV.own.injEq, SV.io.injEq, PyData.int.injEq, PyData.str.injEq, PyData.bool.injEq, PyData.tuple.injEq, PyData.list.injEq, exists_eq_left', exists_eq_left, exists_eq_right, exists_eq_right', exists_and_left, true_and, and_true, if_true, if_false, id, reduceCtorEq, false_or, or_false, exists_false, List.cons.injEq, and_self, SV.d.injEq, Nat.reduceAdd, Nat.reduceSub, ite_true, ite_false, decide_eq_true_eq, Bool.false_eq_true, exists_const, decide_true, decide_false, List.forall_mem_cons, List.forall_mem_nil, Bool.not_true, Bool.not_false, Bool.not_eq_true, Nat.reduceLT, forall_const, implies_true, and_assoc, true_or, or_true, List.not_mem_nil, false_implies, Int.natCast_inj, not_true_eq_false, not_false_eq_true, and_false, false_and, po, map_fr_inj, fr_inj, shP, eqP, eqP0, sh0, shF, eqF, List.length_map]
  refine lcb (fun i => ((l.take i).map fun a => fr (-a))) (by simp only [tdR, tdN, tdSq, tdE, tdIf, tdSet, tdF, tdRO, tdAsg, tdSub, tdAug, tdAugS, tdApp, tdPar, tdPar3, tdRaise, tV, tBo, tK, t2, t1, kI, kU, kEq, kEqS, kN, kIx, kST, kSL, kRv, kRvT, kCL, kCT, kRL, kRT, tCh, tTe, tNo, tAn, tOr', tAnV, DL.tOrV, kNo, tIfE, taC, tTp, tLs, tBi, kLen, kAbs, kMM, kInt, kTupc, kLisc, tSc, toN, toS, tOf, gNm, gNl, gCs, gTu, kIsi, kMn, kMx, kRp, tFz, tiS, tiO, tiR1, tiR2, tiRd, tiE, tCal, tCalB, startD, DL.startB, noIo_eq, nio_d, nio_un, nio_own, asD_d, asD_own, asD_io, CT, CNz, tYesD, ex0, tdFor, tdLc, wipeD, isDat_eq, dat_d, dat_un, Owns, setO, List.map_cons, List.map_nil, List.cons_append, List.nil_append, List.length_cons, List.length_nil, List.replicate, List.replicate_succ, List.replicate_zero, List.getElem?_cons_zero, List.getElem?_cons_succ, List.set_cons_zero, List.set_cons_succ, Option.some.injEq, SV.d.injEq, SV.own.injEq, SV.io.injEq, PyData.int.injEq, PyData.str.injEq, PyData.bool.injEq, PyData.tuple.injEq, PyData.list.injEq, exists_eq_left', exists_eq_left, exists_eq_right, exists_eq_right', exists_and_left, true_and, and_true, if_true, if_false, id, reduceCtorEq, false_or, or_false, exists_false, List.cons.injEq, and_self, SV.d.injEq, Nat.reduceAdd, Nat.reduceSub, ite_true, ite_false, decide_eq_true_eq, Bool.false_eq_true, exists_const, decide_true, decide_false, List.forall_mem_cons, List.forall_mem_nil, Bool.not_true, Bool.not_false, Bool.not_eq_true, Nat.reduceLT, forall_const, implies_true, and_assoc, true_or, or_true, List.not_mem_nil, false_implies, Int.natCast_inj, not_true_eq_false, not_false_eq_true, and_false, false_and]) (fun _ e => nomatch e) rfl (fun i x hx => ?_) ?_
  · obtain ⟨hi, rfl⟩ := get_fr hx
    simp only [tdR, tdN, tdSq, tdE, tdIf, tdSet, tdF, tdRO, tdAsg, tdSub, tdAug, tdAugS, tdApp, tdPar, tdPar3, tdRaise, tV, tBo, tK, t2, t1, kI, kU, kEq, kEqS, kN, kIx, kST, kSL, kRv, kRvT, kCL, kCT, kRL, kRT, tCh, tTe, tNo, tAn, tOr', tAnV, DL.tOrV, kNo, tIfE, taC, tTp, tLs, tBi, kLen, kAbs, kMM, kInt, kTupc, kLisc, tSc, toN, toS, tOf, gNm, gNl, gCs, gTu, kIsi, kMn, kMx, kRp, tFz, tiS, tiO, tiR1, tiR2, tiRd, tiE, tCal, tCalB, startD, DL.startB, noIo_eq, nio_d, nio_un, nio_own, asD_d, asD_own, asD_io, CT, CNz, tYesD, ex0, tdFor, tdLc, wipeD, isDat_eq, dat_d, dat_un, Owns, setO, List.map_cons, List.map_nil, List.cons_append, List.nil_append, List.length_cons, List.length_nil, List.replicate, List.replicate_succ, List.replicate_zero, List.getElem?_cons_zero, List.getElem?_cons_succ, List.set_cons_zero, List.set_cons_succ, Option.some.injEq, SV.d.injEq, SV.own.injEq, SV.io.injEq, PyData.int.injEq, PyData.str.injEq, PyData.bool.injEq, PyData.tuple.injEq, PyData.list.injEq, exists_eq_left', exists_eq_left, exists_eq_right, exists_eq_right', exists_and_left, true_and, and_true, if_true, if_false, id, reduceCtorEq, false_or, or_false, exists_false, List.cons.injEq, and_self, SV.d.injEq, Nat.reduceAdd, Nat.reduceSub, ite_true, ite_false, decide_eq_true_eq, Bool.false_eq_true, exists_const, decide_true, decide_false, List.forall_mem_cons, List.forall_mem_nil, Bool.not_true, Bool.not_false, Bool.not_eq_true, Nat.reduceLT, forall_const, implies_true, and_assoc, true_or, or_true, List.not_mem_nil, false_implies, Int.natCast_inj, not_true_eq_false, not_false_eq_true, and_false, false_and, fr]
    refine ⟨by rw [sizeLine_eq]; decide, lt_size (by rw [List.length_map, List.length_take]; omega), ?_⟩
    rw [map_succ _ hi]; rfl
  · simp only [List.map_cons, List.map_nil, List.cons_append, List.nil_append, List.length_cons, List.length_nil, List.replicate, List.replicate_succ, List.replicate_zero, List.getElem?_cons_zero, List.getElem?_cons_succ, List.set_cons_zero, List.set_cons_succ, Option.some.injEq, SV.d.injEq, SV.own.injEq, SV.io.injEq, PyData.int.injEq, PyData.str.injEq, PyData.bool.injEq, PyData.tuple.injEq, PyData.list.injEq, exists_eq_left', exists_eq_left, exists_eq_right, exists_eq_right', exists_and_left, true_and, and_true, if_true, if_false, id, reduceCtorEq, false_or, or_false, exists_false, List.cons.injEq, and_self, SV.d.injEq, Nat.reduceAdd, Nat.reduceSub, ite_true, ite_false, decide_eq_true_eq, Bool.false_eq_true, exists_const, decide_true, decide_false, List.forall_mem_cons, List.forall_mem_nil, Bool.not_true, Bool.not_false, Bool.not_eq_true, Nat.reduceLT, forall_const, implies_true, and_assoc, true_or, or_true, List.not_mem_nil, false_implies, Int.natCast_inj, not_true_eq_false, not_false_eq_true, and_false, false_and, po, map_fr_inj, fr_inj, shP, eqP, eqP0, sh0, shF, eqF, List.length_map, asD_own, List.take_length]
    unfold po neg at q
    rw [List.map_map] at q
    exact q
theorem sc_poly_plus : FnScope ["one", "other", "many", "power"] ["one", "other"] (defScope s_poly_plus) := ⟨rfl, rfl, rfl, by decide +kernel, rfl, by decide +kernel, by decide +kernel⟩
theorem ok_poly_plus (T : Txt K mg CN) (hS : base.NoSeer) : FnD pw w K mg base "poly_plus" 41 ["one", "other"] sp_poly_plus := by
  have F_plus := ok_plus (w := w) T hS
  have F_term := ok_term (w := w) T hS
  have F_trimmed := ok_trimmed (w := w) T hS
  refine okD (k := 40) T.f_poly_plus sc_poly_plus (fun _ _ _ _ _ _ us hl => match us, hl with | [_, _], _ => rfl) fun f cdv A outer s H E hr => ?_
  refine ⟨_, (dcons (dset 2 sc_poly_plus.nd (dmax2 rfl (by rfl) T.b_max (dab2 (DE.b (dlen (by rfl) T.b_len (dab1 (DE.b (dv 0))))) (DE.b (dlen (by rfl) T.b_len (dab1 (DE.b (dv 1))))))))
      (done1 (dret (dcall F_trimmed (hr.mono (by decide)) (dacons (dlc (own := [("power", 3)]) rfl sc_poly_plus.nd (diR1 (by rfl) T.b_range (dab1 (DE.b (dv 2)))) (blkOk_by (by kernel_rfl)) (by decide) (fun _ _ _ _ _ => (dgn 3 sc_poly_plus.nd)) (fun _ _ _ _ _ => (dptN)) (fun _ _ _ _ _ => (dcall F_plus (hr.mono (by decide)) (dacons (dcall F_term (hr.mono (by decide)) (dacons (dv 0) (dacons (dv 3) danil))) (dacons (dcall F_term (hr.mono (by decide)) (dacons (dv 1) (dacons (dv 3) danil))) danil))))) danil))))), fun ds Q X h hl => ?_⟩
  obtain ⟨l, m, rfl, h1, h2, h3, h4, q⟩ := h
  simp only [tdR, tdN, tdSq, tdE, tdIf, tdSet, tdF, tdRO, tdAsg, tdSub, tdAug, tdAugS, tdApp, tdPar, tdPar3, tdRaise, tV, tBo, tK, t2, t1, kI, kU, kEq, kEqS, kN, kIx, kST, kSL, kRv, kRvT, kCL, kCT, kRL, kRT, tCh, tTe, tNo, tAn, tOr', tAnV, DL.tOrV, kNo, tIfE, taC, tTp, tLs, tBi, kLen, kAbs, kMM, kInt, kTupc, kLisc, tSc, toN, toS, tOf, gNm, gNl, gCs, gTu, kIsi, kMn, kMx, kRp, tFz, tiS, tiO, tiR1, tiR2, tiRd, tiE, tCal, tCalB, startD, DL.startB, noIo_eq, nio_d, nio_un, nio_own, asD_d, asD_own, asD_io, CT, CNz, tYesD, ex0, tdFor, tdLc, wipeD, isDat_eq, dat_d, dat_un, Owns, setO, List.map_cons, List.map_nil, List.cons_append, List.nil_append, List.length_cons, List.length_nil, List.replicate, List.replicate_succ, List.replicate_zero, List.getElem?_cons_zero, List.getElem?_cons_succ, List.set_cons_zero, List.set_cons_succ, Option.some.injEq, SV.d.injEq, SV.own.injEq, SV.io.injEq, PyData.int.injEq, PyData.str.injEq, PyData.bool.injEq, PyData.tuple.injEq, PyData.list.injEq, exists_eq_left', exists_eq_left, exists_eq_right, exists_eq_right', exists_and_left, true_and, and_true, if_true, if_false, id, reduceCtorEq, false_or, or_false, exists_false, List.cons.injEq, and_self, SV.d.injEq, Nat.reduceAdd, Nat.reduceSub, ite_true, ite_false, decide_eq_true_eq, Bool.false_eq_true, exists_const, decide_true, decide_false, List.forall_mem_cons, List.forall_mem_nil, Bool.not_true, Bool.not_false, Bool.not_eq_true, Nat.reduceLT, forall_const, implies_true, and_assoc, true_or, or_true, List.not_mem_nil, false_implies, Int.natCast_inj, not_true_eq_false, not_false_eq_true, and_false, false_and, po, map_fr_inj, fr_inj, shP, eqP, eqP0, sh0, shF, eqF, List.length_map]
  rw [max_if]
  refine ⟨by omega, by omega, ?_⟩
  refine lcb (fun i => (List.range i).map fun i => fr (at0 l i + at0 m i)) (by simp only [tdR, tdN, tdSq, tdE, tdIf, tdSet, tdF, tdRO, tdAsg, tdSub, tdAug, tdAugS, tdApp, tdPar, tdPar3, tdRaise, tV, tBo, tK, t2, t1, kI, kU, kEq, kEqS, kN, kIx, kST, kSL, kRv, kRvT, kCL, kCT, kRL, kRT, tCh, tTe, tNo, tAn, tOr', tAnV, DL.tOrV, kNo, tIfE, taC, tTp, tLs, tBi, kLen, kAbs, kMM, kInt, kTupc, kLisc, tSc, toN, toS, tOf, gNm, gNl, gCs, gTu, kIsi, kMn, kMx, kRp, tFz, tiS, tiO, tiR1, tiR2, tiRd, tiE, tCal, tCalB, startD, DL.startB, noIo_eq, nio_d, nio_un, nio_own, asD_d, asD_own, asD_io, CT, CNz, tYesD, ex0, tdFor, tdLc, wipeD, isDat_eq, dat_d, dat_un, Owns, setO, List.map_cons, List.map_nil, List.cons_append, List.nil_append, List.length_cons, List.length_nil, List.replicate, List.replicate_succ, List.replicate_zero, List.getElem?_cons_zero, List.getElem?_cons_succ, List.set_cons_zero, List.set_cons_succ, Option.some.injEq, SV.d.injEq, SV.own.injEq, SV.io.injEq, PyData.int.injEq, PyData.str.injEq, PyData.bool.injEq, PyData.tuple.injEq, PyData.list.injEq, exists_eq_left', exists_eq_left, exists_eq_right, exists_eq_right', exists_and_left, true_and, and_true, if_true, if_false, id, reduceCtorEq, false_or, or_false, exists_false, List.cons.injEq, and_self, SV.d.injEq, Nat.reduceAdd, Nat.reduceSub, ite_true, ite_false, decide_eq_true_eq, Bool.false_eq_true, exists_const, decide_true, decide_false, List.forall_mem_cons, List.forall_mem_nil, Bool.not_true, Bool.not_false, Bool.not_eq_true, Nat.reduceLT, forall_const, implies_true, and_assoc, true_or, or_true, List.not_mem_nil, false_implies, Int.natCast_inj, not_true_eq_false, not_false_eq_true, and_false, false_and]) (fun _ e => nomatch e) rfl (fun i x hx => ?_) ?_
  · obtain ⟨hi, rfl⟩ := rngD_nat hx
    simp only [tdR, tdN, tdSq, tdE, tdIf, tdSet, tdF, tdRO, tdAsg, tdSub, tdAug, tdAugS, tdApp, tdPar, tdPar3, tdRaise, tV, tBo, tK, t2, t1, kI, kU, kEq, kEqS, kN, kIx, kST, kSL, kRv, kRvT, kCL, kCT, kRL, kRT, tCh, tTe, tNo, tAn, tOr', tAnV, DL.tOrV, kNo, tIfE, taC, tTp, tLs, tBi, kLen, kAbs, kMM, kInt, kTupc, kLisc, tSc, toN, toS, tOf, gNm, gNl, gCs, gTu, kIsi, kMn, kMx, kRp, tFz, tiS, tiO, tiR1, tiR2, tiRd, tiE, tCal, tCalB, startD, DL.startB, noIo_eq, nio_d, nio_un, nio_own, asD_d, asD_own, asD_io, CT, CNz, tYesD, ex0, tdFor, tdLc, wipeD, isDat_eq, dat_d, dat_un, Owns, setO, List.map_cons, List.map_nil, List.cons_append, List.nil_append, List.length_cons, List.length_nil, List.replicate, List.replicate_succ, List.replicate_zero, List.getElem?_cons_zero, List.getElem?_cons_succ, List.set_cons_zero, List.set_cons_succ, Option.some.injEq, SV.d.injEq, SV.own.injEq, SV.io.injEq, PyData.int.injEq, PyData.str.injEq, PyData.bool.injEq, PyData.tuple.injEq, PyData.list.injEq, exists_eq_left', exists_eq_left, exists_eq_right, exists_eq_right', exists_and_left, true_and, and_true, if_true, if_false, id, reduceCtorEq, false_or, or_false, exists_false, List.cons.injEq, and_self, SV.d.injEq, Nat.reduceAdd, Nat.reduceSub, ite_true, ite_false, decide_eq_true_eq, Bool.false_eq_true, exists_const, decide_true, decide_false, List.forall_mem_cons, List.forall_mem_nil, Bool.not_true, Bool.not_false, Bool.not_eq_true, Nat.reduceLT, forall_const, implies_true, and_assoc, true_or, or_true, List.not_mem_nil, false_implies, Int.natCast_inj, not_true_eq_false, not_false_eq_true, and_false, false_and, po, map_fr_inj, fr_inj, shP, eqP, eqP0, sh0, shF, eqF, List.length_map, sp_term, sp_plus]
    exact ⟨h1 i, h2 i, lt_size (by rw [List.length_range]; omega), (rng_succ _ _).symm⟩
  · simp only [List.map_cons, List.map_nil, List.cons_append, List.nil_append, List.length_cons, List.length_nil, List.replicate, List.replicate_succ, List.replicate_zero, List.getElem?_cons_zero, List.getElem?_cons_succ, List.set_cons_zero, List.set_cons_succ, Option.some.injEq, SV.d.injEq, SV.own.injEq, SV.io.injEq, PyData.int.injEq, PyData.str.injEq, PyData.bool.injEq, PyData.tuple.injEq, PyData.list.injEq, exists_eq_left', exists_eq_left, exists_eq_right, exists_eq_right', exists_and_left, true_and, and_true, if_true, if_false, id, reduceCtorEq, false_or, or_false, exists_false, List.cons.injEq, and_self, SV.d.injEq, Nat.reduceAdd, Nat.reduceSub, ite_true, ite_false, decide_eq_true_eq, Bool.false_eq_true, exists_const, decide_true, decide_false, List.forall_mem_cons, List.forall_mem_nil, Bool.not_true, Bool.not_false, Bool.not_eq_true, Nat.reduceLT, forall_const, implies_true, and_assoc, true_or, or_true, List.not_mem_nil, false_implies, Int.natCast_inj, not_true_eq_false, not_false_eq_true, and_false, false_and, po, map_fr_inj, fr_inj, shP, eqP, eqP0, sh0, shF, eqF, List.length_map, asD_own, rngD_len, sp_trimmed, Int.toNat_natCast]
    refine ⟨addR l m, ?_, q⟩
    unfold addR
    rw [List.map_map]; rfl
theorem sc_poly_minus : FnScope ["one", "other"] ["one", "other"] (defScope s_poly_minus) := ⟨rfl, rfl, rfl, by decide +kernel, rfl, by decide +kernel, by decide +kernel⟩
theorem ok_poly_minus (T : Txt K mg CN) (hS : base.NoSeer) : FnD pw w K mg base "poly_minus" 42 ["one", "other"] sp_poly_minus := by
  have F_opposite := ok_opposite (w := w) T hS
  have F_poly_plus := ok_poly_plus (w := w) T hS
  refine okD (k := 41) T.f_poly_minus sc_poly_minus (fun _ _ _ _ _ _ us hl => match us, hl with | [_, _], _ => rfl) fun f cdv A outer s H E hr => ?_
  refine ⟨_, (done1 (dret (dcall F_poly_plus (hr.mono (by decide)) (dacons (dv 0) (dacons (dcall F_opposite (hr.mono (by decide)) (dacons (dv 1) danil)) danil))))), fun ds Q X h hl => ?_⟩
  obtain ⟨l, m, rfl, h1, h2, h3, h4, q⟩ := h
  simp only [tdR, tdN, tdSq, tdE, tdIf, tdSet, tdF, tdRO, tdAsg, tdSub, tdAug, tdAugS, tdApp, tdPar, tdPar3, tdRaise, tV, tBo, tK, t2, t1, kI, kU, kEq, kEqS, kN, kIx, kST, kSL, kRv, kRvT, kCL, kCT, kRL, kRT, tCh, tTe, tNo, tAn, tOr', tAnV, DL.tOrV, kNo, tIfE, taC, tTp, tLs, tBi, kLen, kAbs, kMM, kInt, kTupc, kLisc, tSc, toN, toS, tOf, gNm, gNl, gCs, gTu, kIsi, kMn, kMx, kRp, tFz, tiS, tiO, tiR1, tiR2, tiRd, tiE, tCal, tCalB, startD, DL.startB, noIo_eq, nio_d, nio_un, nio_own, asD_d, asD_own, asD_io, CT, CNz, tYesD, ex0, tdFor, tdLc, wipeD, isDat_eq, dat_d, dat_un, Owns, setO, List.map_cons, List.map_nil, List.cons_append, List.nil_append, List.length_cons, List.length_nil, List.replicate, List.replicate_succ, List.replicate_zero, List.getElem?_cons_zero, List.getElem?_cons_succ, List.set_cons_zero, List.set_cons_succ, Option.some.injEq, SV.d.injEq, SV.own.injEq, SV.io.injEq, PyData.int.injEq, PyData.str.injEq, PyData.bool.injEq, PyData.tuple.injEq, PyData.list.injEq, exists_eq_left', exists_eq_left, exists_eq_right, exists_eq_right', exists_and_left, true_and, and_true, if_true, if_false, id, reduceCtorEq, false_or, or_false, exists_false, List.cons.injEq, and_self, SV.d.injEq, Nat.reduceAdd, Nat.reduceSub, ite_true, ite_false, decide_eq_true_eq, Bool.false_eq_true, exists_const, decide_true, decide_false, List.forall_mem_cons, List.forall_mem_nil, Bool.not_true, Bool.not_false, Bool.not_eq_true, Nat.reduceLT, forall_const, implies_true, and_assoc, true_or, or_true, List.not_mem_nil, false_implies, Int.natCast_inj, not_true_eq_false, not_false_eq_true, and_false, false_and, po, map_fr_inj, fr_inj, shP, eqP, eqP0, sh0, shF, eqF, List.length_map, sp_poly_plus, sp_opposite]
  exact ⟨h4, h1, fun p => by rw [at0_neg]; exact sm_neg (h2 p), h3, by unfold neg; rw [List.length_map]; exact h4, q⟩
theorem sc_scaled : FnScope ["poly", "fraction", "one"] ["poly", "fraction"] (defScope s_scaled) := ⟨rfl, rfl, rfl, by decide +kernel, rfl, by decide +kernel, by decide +kernel⟩
theorem ok_scaled (T : Txt K mg CN) (hS : base.NoSeer) : FnD pw w K mg base "scaled" 41 ["poly", "fraction"] sp_scaled := by
  have F_times := ok_times (w := w) T hS
  refine okD (k := 40) T.f_scaled sc_scaled (fun _ _ _ _ _ _ us hl => match us, hl with | [_, _], _ => rfl) fun f cdv A outer s H E hr => ?_
  have hu := hr.units
  refine ⟨_, (done1 (dret (dif (dteq hu (DE.b (dv 1)) (DE.b (dcon T.c_NIL))) (dtup danil) (dtupc (by rfl) T.b_tuple (dab1 (DE.b (dlc (own := [("one", 2)]) rfl sc_scaled.nd (diS (dv 0)) (blkOk_by (by kernel_rfl)) (by decide) (fun _ _ _ _ _ => (dgn 2 sc_scaled.nd)) (fun _ _ _ _ _ => (dptN)) (fun _ _ _ _ _ => (dcall F_times (hr.mono (by decide)) (dacons (dv 2) (dacons (dv 1) danil))))))))))), fun ds Q X h hl => ?_⟩
  obtain ⟨l, c, rfl, h1, h2, h3, q⟩ := h
  simp only [tdR, tdN, tdSq, tdE, tdIf, tdSet, tdF, tdRO, tdAsg, tdSub, tdAug, tdAugS, tdApp, tdPar, tdPar3, tdRaise, tV, tBo, tK, t2, t1, kI, kU, kEq, kEqS, kN, kIx, kST, kSL, kRv, kRvT, kCL, kCT, kRL, kRT, tCh, tTe, tNo, tAn, tOr', tAnV, DL.tOrV, kNo, tIfE, taC, tTp, tLs, tBi, kLen, kAbs, kMM, kInt, kTupc, kLisc, tSc, toN, toS, tOf, gNm, gNl, gCs, gTu, kIsi, kMn, kMx, kRp, tFz, tiS, tiO, tiR1, tiR2, tiRd, tiE, tCal, tCalB, startD, DL.startB, noIo_eq, nio_d, nio_un, nio_own, asD_d, asD_own, asD_io, CT, CNz, tYesD, ex0, tdFor, tdLc, wipeD, isDat_eq, dat_d, dat_un, Owns, setO, List.map_cons, List.map_nil, List.cons_append, List.nil_append, List.length_cons, List.length_nil, List.replicate, List.replicate_succ, List.replicate_zero, List.getElem?_cons_zero, List.getElem?_cons_succ, List.set_cons_zero, List.set_cons_succ, Option.some.injEq, SV.d.injEq, SV.own.injEq, SV.io.injEq, PyData.int.injEq, PyData.str.injEq, PyData.bool.injEq, PyData.tuple.injEq, PyData.list.injEq, exists_eq_left', exists_eq_left, exists_eq_right, exists_eq_right', exists_and_left, true_and, and_true, if_true, if_false, id, reduceCtorEq, false_or, or_false, exists_false, List.cons.injEq, and_self, SV.d.injEq, Nat.reduceAdd, Nat.reduceSub, ite_true, ite_false, decide_eq_true_eq, Bool.false_eq_true, exists_const, decide_true, decide_false, List.forall_mem_cons, List.forall_mem_nil, Bool.not_true, Bool.not_false, Bool.not_eq_true, Nat.reduceLT, forall_const, implies_true, and_assoc, true_or, or_true, List.not_mem_nil, false_implies, Int.natCast_inj, not_true_eq_false, not_false_eq_true, and_false, false_and, po, map_fr_inj, fr_inj, shP, eqP, eqP0, sh0, shF, eqF, List.length_map]
  by_cases hc : c = 0
  · rw [if_pos hc] at q ⊢
    exact ⟨Nat.zero_le _, q⟩
  · rw [if_neg hc] at q ⊢
    refine lcb (fun i => ((l.take i).map fun a => fr (a * c))) (by simp only [tdR, tdN, tdSq, tdE, tdIf, tdSet, tdF, tdRO, tdAsg, tdSub, tdAug, tdAugS, tdApp, tdPar, tdPar3, tdRaise, tV, tBo, tK, t2, t1, kI, kU, kEq, kEqS, kN, kIx, kST, kSL, kRv, kRvT, kCL, kCT, kRL, kRT, tCh, tTe, tNo, tAn, tOr', tAnV, DL.tOrV, kNo, tIfE, taC, tTp, tLs, tBi, kLen, kAbs, kMM, kInt, kTupc, kLisc, tSc, toN, toS, tOf, gNm, gNl, gCs, gTu, kIsi, kMn, kMx, kRp, tFz, tiS, tiO, tiR1, tiR2, tiRd, tiE, tCal, tCalB, startD, DL.startB, noIo_eq, nio_d, nio_un, nio_own, asD_d, asD_own, asD_io, CT, CNz, tYesD, ex0, tdFor, tdLc, wipeD, isDat_eq, dat_d, dat_un, Owns, setO, List.map_cons, List.map_nil, List.cons_append, List.nil_append, List.length_cons, List.length_nil, List.replicate, List.replicate_succ, List.replicate_zero, List.getElem?_cons_zero, List.getElem?_cons_succ, List.set_cons_zero, List.set_cons_succ, Option.some.injEq, SV.d.injEq, SV.own.injEq, SV.io.injEq, PyData.int.injEq, PyData.str.injEq, PyData.bool.injEq, PyData.tuple.injEq, PyData.list.injEq, exists_eq_left', exists_eq_left, exists_eq_right, exists_eq_right', exists_and_left, true_and, and_true, if_true, if_false, id, reduceCtorEq, false_or, or_false, exists_false, List.cons.injEq, and_self, SV.d.injEq, Nat.reduceAdd, Nat.reduceSub, ite_true, ite_false, decide_eq_true_eq, Bool.false_eq_true, exists_const, decide_true, decide_false, List.forall_mem_cons, List.forall_mem_nil, Bool.not_true, Bool.not_false, Bool.not_eq_true, Nat.reduceLT, forall_const, implies_true, and_assoc, true_or, or_true, List.not_mem_nil, false_implies, Int.natCast_inj, not_true_eq_false, not_false_eq_true, and_false, false_and]) (fun _ e => nomatch e) rfl (fun i x hx => ?_) ?_
    · obtain ⟨hi, rfl⟩ := get_fr hx
      simp only [tdR, tdN, tdSq, tdE, tdIf, tdSet, tdF, tdRO, tdAsg, tdSub, tdAug, tdAugS, tdApp, tdPar, tdPar3, tdRaise, tV, tBo, tK, t2, t1, kI, kU, kEq, kEqS, kN, kIx, kST, kSL, kRv, kRvT, kCL, kCT, kRL, kRT, tCh, tTe, tNo, tAn, tOr', tAnV, DL.tOrV, kNo, tIfE, taC, tTp, tLs, tBi, kLen, kAbs, kMM, kInt, kTupc, kLisc, tSc, toN, toS, tOf, gNm, gNl, gCs, gTu, kIsi, kMn, kMx, kRp, tFz, tiS, tiO, tiR1, tiR2, tiRd, tiE, tCal, tCalB, startD, DL.startB, noIo_eq, nio_d, nio_un, nio_own, asD_d, asD_own, asD_io, CT, CNz, tYesD, ex0, tdFor, tdLc, wipeD, isDat_eq, dat_d, dat_un, Owns, setO, List.map_cons, List.map_nil, List.cons_append, List.nil_append, List.length_cons, List.length_nil, List.replicate, List.replicate_succ, List.replicate_zero, List.getElem?_cons_zero, List.getElem?_cons_succ, List.set_cons_zero, List.set_cons_succ, Option.some.injEq, SV.d.injEq, SV.own.injEq, SV.io.injEq, PyData.int.injEq, PyData.str.injEq, PyData.bool.injEq, PyData.tuple.injEq, PyData.list.injEq, exists_eq_left', exists_eq_left, exists_eq_right, exists_eq_right', exists_and_left, true_and, and_true, if_true, if_false, id, reduceCtorEq, false_or, or_false, exists_false, List.cons.injEq, and_self, SV.d.injEq, Nat.reduceAdd, Nat.reduceSub, ite_true, ite_false, decide_eq_true_eq, Bool.false_eq_true, exists_const, decide_true, decide_false, List.forall_mem_cons, List.forall_mem_nil, Bool.not_true, Bool.not_false, Bool.not_eq_true, Nat.reduceLT, forall_const, implies_true, and_assoc, true_or, or_true, List.not_mem_nil, false_implies, Int.natCast_inj, not_true_eq_false, not_false_eq_true, and_false, false_and, po, map_fr_inj, fr_inj, shP, eqP, eqP0, sh0, shF, eqF, List.length_map, sp_times]
      refine ⟨h1 i, h2, lt_size (by rw [List.length_take]; omega), ?_⟩
      rw [map_succ _ hi]
    · simp only [List.map_cons, List.map_nil, List.cons_append, List.nil_append, List.length_cons, List.length_nil, List.replicate, List.replicate_succ, List.replicate_zero, List.getElem?_cons_zero, List.getElem?_cons_succ, List.set_cons_zero, List.set_cons_succ, Option.some.injEq, SV.d.injEq, SV.own.injEq, SV.io.injEq, PyData.int.injEq, PyData.str.injEq, PyData.bool.injEq, PyData.tuple.injEq, PyData.list.injEq, exists_eq_left', exists_eq_left, exists_eq_right, exists_eq_right', exists_and_left, true_and, and_true, if_true, if_false, id, reduceCtorEq, false_or, or_false, exists_false, List.cons.injEq, and_self, SV.d.injEq, Nat.reduceAdd, Nat.reduceSub, ite_true, ite_false, decide_eq_true_eq, Bool.false_eq_true, exists_const, decide_true, decide_false, List.forall_mem_cons, List.forall_mem_nil, Bool.not_true, Bool.not_false, Bool.not_eq_true, Nat.reduceLT, forall_const, implies_true, and_assoc, true_or, or_true, List.not_mem_nil, false_implies, Int.natCast_inj, not_true_eq_false, not_false_eq_true, and_false, false_and, po, map_fr_inj, fr_inj, shP, eqP, eqP0, sh0, shF, eqF, List.length_map, asD_own, List.take_length]
      unfold po at q
      rw [List.map_map] at q
      exact q
theorem sc_shifted : FnScope ["poly", "many"] ["poly", "many"] (defScope s_shifted) := ⟨rfl, rfl, rfl, by decide +kernel, rfl, by decide +kernel, by decide +kernel⟩
theorem ok_shifted (T : Txt K mg CN) (hS : base.NoSeer) : FnD pw w K mg base "shifted" 38 ["poly", "many"] sp_shifted := by
  refine okD (k := 37) T.f_shifted sc_shifted (fun _ _ _ _ _ _ us hl => match us, hl with | [_, _], _ => rfl) fun f cdv A outer s H E hr => ?_
  have hu := hr.units
  refine ⟨_, (done1 (dret (dif (dteq hu (DE.b (dv 0)) (DE.b (dtup danil))) (dtup danil) (dcatT (DE.b (drepT (DE.b (dtup (dacons (dcon T.c_NIL) danil))) (DE.b (dv 1)))) (DE.b (dv 0)))))), fun ds Q X h hl => ?_⟩
  obtain ⟨l, k, rfl, h1, h2, q⟩ := h
  simp only [tdR, tdN, tdSq, tdE, tdIf, tdSet, tdF, tdRO, tdAsg, tdSub, tdAug, tdAugS, tdApp, tdPar, tdPar3, tdRaise, tV, tBo, tK, t2, t1, kI, kU, kEq, kEqS, kN, kIx, kST, kSL, kRv, kRvT, kCL, kCT, kRL, kRT, tCh, tTe, tNo, tAn, tOr', tAnV, DL.tOrV, kNo, tIfE, taC, tTp, tLs, tBi, kLen, kAbs, kMM, kInt, kTupc, kLisc, tSc, toN, toS, tOf, gNm, gNl, gCs, gTu, kIsi, kMn, kMx, kRp, tFz, tiS, tiO, tiR1, tiR2, tiRd, tiE, tCal, tCalB, startD, DL.startB, noIo_eq, nio_d, nio_un, nio_own, asD_d, asD_own, asD_io, CT, CNz, tYesD, ex0, tdFor, tdLc, wipeD, isDat_eq, dat_d, dat_un, Owns, setO, List.map_cons, List.map_nil, List.cons_append, List.nil_append, List.length_cons, List.length_nil, List.replicate, List.replicate_succ, List.replicate_zero, List.getElem?_cons_zero, List.getElem?_cons_succ, List.set_cons_zero, List.set_cons_succ, Option.some.injEq, SV.d.injEq, SV.own.injEq, SV.io.injEq, PyData.int.injEq, PyData.str.injEq, PyData.bool.injEq, PyData.tuple.injEq, PyData.list.injEq, exists_eq_left', exists_eq_left, exists_eq_right, exists_eq_right', exists_and_left, true_and, and_true, if_true, if_false, id, reduceCtorEq, false_or, or_false, exists_false, List.cons.injEq, and_self, SV.d.injEq, Nat.reduceAdd, Nat.reduceSub, ite_true, ite_false, decide_eq_true_eq, Bool.false_eq_true, exists_const, decide_true, decide_false, List.forall_mem_cons, List.forall_mem_nil, Bool.not_true, Bool.not_false, Bool.not_eq_true, Nat.reduceLT, forall_const, implies_true, and_assoc, true_or, or_true, List.not_mem_nil, false_implies, Int.natCast_inj, not_true_eq_false, not_false_eq_true, and_false, false_and, po, map_fr_inj, fr_inj, shP, eqP, eqP0, sh0, shF, eqF, List.length_map, Int.toNat_natCast, reps_fr, List.length_replicate, ← List.map_append]
  refine ⟨Nat.zero_le _, ?_⟩
  by_cases hl : l = []
  · rw [if_pos hl] at q ⊢
    exact ⟨Nat.zero_le _, q⟩
  · rw [if_neg hl] at q ⊢
    exact ⟨by rw [sizeLine_eq]; decide, by omega, by omega, by decide, by rw [sizeLine_eq]; omega, q⟩
def lim : Nat := 60000000
def sp_poly_times : SpD := fun ds Q _ => ∃ (l m : List Rat) (h k : Nat), ds = [po l, po m] ∧ Hb h l ∧ Hb k m ∧ h + k + 6 ≤ 60000000 ∧ l.length ≤ 64 ∧ m.length ≤ 64 ∧ Q (.d (po (if l = [] ∨ m = [] then [] else mulP l m)))
theorem en_fr {l : List Rat} {i : Nat} {x : D} (h : (enD 0 (l.map fr))[i]? = some x) : i < l.length ∧ x = .tuple [.int (i : Int), fr (at0 l i)] := by
  obtain ⟨y, h1, h2⟩ := enD_get h
  obtain ⟨hi, rfl⟩ := get_fr h1
  refine ⟨hi, ?_⟩
  rw [h2, Nat.zero_add]
theorem set_fr (l : List Rat) (i : Nat) (c : Rat) : (l.map fr).set i (fr c) = (l.set i c).map fr := (List.map_set ..).symm
theorem atI_fr2 {l : List Rat} {i j : Nat} (h : i + j < l.length) : atI (l.map fr) ((i : Int) + (j : Int)) = some (fr (at0 l (i + j))) := by
  have e : (i : Int) + (j : Int) = ((i + j : Nat) : Int) := by omega
  rw [e]; exact atI_fr h
theorem ixN_2 {n i j : Nat} (h : i + j < n) : ixN n ((i : Int) + (j : Int)) = some (i + j) := by
  have e : (i : Int) + (j : Int) = ((i + j : Nat) : Int) := by omega
  rw [e]; exact ixN_nat h
theorem sc_poly_times : FnScope ["one", "other", "found", "at", "mine", "place", "its"] ["one", "other"] (defScope s_poly_times) := ⟨rfl, rfl, rfl, by decide +kernel, rfl, by decide +kernel, by decide +kernel⟩
theorem ok_poly_times (T : Txt K mg CN) (hS : base.NoSeer) : FnD pw w K mg base "poly_times" 41 ["one", "other"] sp_poly_times := by
  have F_plus := ok_plus (w := w) T hS
  have F_times := ok_times (w := w) T hS
  have F_trimmed := ok_trimmed (w := w) T hS
  refine okD (k := 40) T.f_poly_times sc_poly_times (fun _ _ _ _ _ _ us hl => match us, hl with | [_, _], _ => rfl) fun f cdv A outer s H E hr => ?_
  have hu := hr.units
  refine ⟨_, (dcons (dsif (DW.t (dwor (dteq hu (DE.b (dv 0)) (DE.b (dtup danil))) (dwor1 (dteq hu (DE.b (dv 1)) (DE.b (dtup danil)))))) (done1 (dret (dtup danil))) dnil)
      (dcons (dset 2 sc_poly_times.nd (drepL (DE.b (dlst (dacons (dcon T.c_NIL) danil))) (DE.b (dsub (DE.b (dadd (DE.b (dlen (by rfl) T.b_len (dab1 (DE.b (dv 0))))) (DE.b (dlen (by rfl) T.b_len (dab1 (DE.b (dv 1))))))) (DE.b dint)))))
      (dcons (dfor (passes_of rfl) rfl (diE (by rfl) T.b_enumerate (dab1 (DE.b (dv 0)))) (dgtup (n := 2) rfl (dgcons (dgn 3 sc_poly_times.nd) (dgcons (dgn 4 sc_poly_times.nd) dgnil))) (done1 (dsif (dtne hu (DE.b (dv 4)) (DE.b (dcon T.c_NIL))) (done1 (dfor (passes_of rfl) rfl (diE (by rfl) T.b_enumerate (dab1 (DE.b (dv 1)))) (dgtup (n := 2) rfl (dgcons (dgn 5 sc_poly_times.nd) (dgcons (dgn 6 sc_poly_times.nd) dgnil))) (done1 (dsub_ 2 (dcall F_plus (hr.mono (by decide)) (dacons (dix (db 2) (DE.b (dadd (DE.b (dv 3)) (DE.b (dv 5))))) (dacons (dcall F_times (hr.mono (by decide)) (dacons (dv 4) (dacons (dv 6) danil))) danil))) (DE.b (dadd (DE.b (dv 3)) (DE.b (dv 5)))))))) dnil)))
      (done1 (dfrz 2 (dret (dcall F_trimmed (hr.mono (by decide)) (dacons (dv 2) danil)))))))), fun ds Q X h hl => ?_⟩
  obtain ⟨l, m, a, b, rfl, h1, h2, h3, h4, h5, q⟩ := h
  simp only [tdR, tdN, tdSq, tdE, tdIf, tdSet, tdF, tdRO, tdAsg, tdSub, tdAug, tdAugS, tdApp, tdPar, tdPar3, tdRaise, tV, tBo, tK, t2, t1, kI, kU, kEq, kEqS, kN, kIx, kST, kSL, kRv, kRvT, kCL, kCT, kRL, kRT, tCh, tTe, tNo, tAn, tOr', tAnV, DL.tOrV, kNo, tIfE, taC, tTp, tLs, tBi, kLen, kAbs, kMM, kInt, kTupc, kLisc, tSc, toN, toS, tOf, gNm, gNl, gCs, gTu, kIsi, kMn, kMx, kRp, tFz, tiS, tiO, tiR1, tiR2, tiRd, tiE, tCal, tCalB, startD, DL.startB, noIo_eq, nio_d, nio_un, nio_own, asD_d, asD_own, asD_io, CT, CNz, tYesD, ex0, tdFor, tdLc, wipeD, isDat_eq, dat_d, dat_un, Owns, setO, List.map_cons, List.map_nil, List.cons_append, List.nil_append, List.length_cons, List.length_nil, List.replicate, List.replicate_succ, List.replicate_zero, List.getElem?_cons_zero, List.getElem?_cons_succ, List.set_cons_zero, List.set_cons_succ, Option.some.injEq, SV.d.injEq, SV.own.injEq, SV.io.injEq, PyData.int.injEq, PyData.str.injEq, PyData.bool.injEq, PyData.tuple.injEq, PyData.list.injEq, exists_eq_left', exists_eq_left, exists_eq_right, exists_eq_right', exists_and_left, true_and, and_true, if_true, if_false, id, reduceCtorEq, false_or, or_false, exists_false, List.cons.injEq, and_self, SV.d.injEq, Nat.reduceAdd, Nat.reduceSub, ite_true, ite_false, decide_eq_true_eq, Bool.false_eq_true, exists_const, decide_true, decide_false, List.forall_mem_cons, List.forall_mem_nil, Bool.not_true, Bool.not_false, Bool.not_eq_true, Nat.reduceLT, forall_const, implies_true, and_assoc, true_or, or_true, List.not_mem_nil, false_implies, Int.natCast_inj, not_true_eq_false, not_false_eq_true, and_false, false_and, po, map_fr_inj, fr_inj, shP, eqP, eqP0, sh0, shF, eqF, List.length_map]
  refine ⟨Nat.zero_le _, ?_⟩
  by_cases hl : l = []
  · rw [if_pos hl]; rw [if_pos (.inl hl)] at q; exact ⟨Nat.zero_le _, q⟩
  rw [if_neg hl]
  refine ⟨Nat.zero_le _, ?_⟩
  by_cases hm : m = []
  · rw [if_pos hm]; rw [if_pos (.inr hm)] at q; exact ⟨Nat.zero_le _, q⟩
  rw [if_neg hm]
  rw [if_neg (fun z => z.elim hl hm)] at q
  have pl := List.length_pos_iff.mpr hl
  have pm := List.length_pos_iff.mpr hm
  obtain ⟨z1, z2, _⟩ := mul_sz h1 h2 h4
  have en : ((l.length : Int) + (m.length : Int) - 1).toNat = l.length + m.length - 1 := by omega
  rw [en, reps_fr]
  refine ⟨by rw [sizeLine_eq]; decide, by omega, by omega, by rw [sizeLine_eq]; omega, rfl, fun i δ => ∃ s3 s4 s5 s6, dat s3 ∧ dat s4 ∧ dat s5 ∧ dat s6 ∧ δ = [.d (.tuple (l.map fr)), .d (.tuple (m.map fr)), .own ((mulN l m i).map fr), s3, s4, s5, s6], ⟨.un, .un, .un, .un, trivial, trivial, trivial, trivial, rfl⟩, fun i x δ hx h => ?_, fun δ h => ?_⟩
  · obtain ⟨hi, rfl⟩ := en_fr hx
    obtain ⟨s3, s4, s5, s6, d3, d4, d5, d6, rfl⟩ := h
    have n3 := dat_nio d3
    have n4 := dat_nio d4
    have n5 := dat_nio d5
    have n6 := dat_nio d6
    simp only [tdR, tdN, tdSq, tdE, tdIf, tdSet, tdF, tdRO, tdAsg, tdSub, tdAug, tdAugS, tdApp, tdPar, tdPar3, tdRaise, tV, tBo, tK, t2, t1, kI, kU, kEq, kEqS, kN, kIx, kST, kSL, kRv, kRvT, kCL, kCT, kRL, kRT, tCh, tTe, tNo, tAn, tOr', tAnV, DL.tOrV, kNo, tIfE, taC, tTp, tLs, tBi, kLen, kAbs, kMM, kInt, kTupc, kLisc, tSc, toN, toS, tOf, gNm, gNl, gCs, gTu, kIsi, kMn, kMx, kRp, tFz, tiS, tiO, tiR1, tiR2, tiRd, tiE, tCal, tCalB, startD, DL.startB, noIo_eq, nio_d, nio_un, nio_own, asD_d, asD_own, asD_io, CT, CNz, tYesD, ex0, tdFor, tdLc, wipeD, isDat_eq, dat_d, dat_un, Owns, setO, List.map_cons, List.map_nil, List.cons_append, List.nil_append, List.length_cons, List.length_nil, List.replicate, List.replicate_succ, List.replicate_zero, List.getElem?_cons_zero, List.getElem?_cons_succ, List.set_cons_zero, List.set_cons_succ, Option.some.injEq, SV.d.injEq, SV.own.injEq, SV.io.injEq, PyData.int.injEq, PyData.str.injEq, PyData.bool.injEq, PyData.tuple.injEq, PyData.list.injEq, exists_eq_left', exists_eq_left, exists_eq_right, exists_eq_right', exists_and_left, true_and, and_true, if_true, if_false, id, reduceCtorEq, false_or, or_false, exists_false, List.cons.injEq, and_self, SV.d.injEq, Nat.reduceAdd, Nat.reduceSub, ite_true, ite_false, decide_eq_true_eq, Bool.false_eq_true, exists_const, decide_true, decide_false, List.forall_mem_cons, List.forall_mem_nil, Bool.not_true, Bool.not_false, Bool.not_eq_true, Nat.reduceLT, forall_const, implies_true, and_assoc, true_or, or_true, List.not_mem_nil, false_implies, Int.natCast_inj, not_true_eq_false, not_false_eq_true, and_false, false_and, po, map_fr_inj, fr_inj, shP, eqP, eqP0, sh0, shF, eqF, List.length_map, n3, n4]
    by_cases e : at0 l i = 0
    · rw [decide_eq_true e, if_neg (by decide)]
      exact ⟨.d _, trivial, .d _, trivial, _, d5, _, d6, by rw [mulN, e, addN_zero], rfl, rfl, rfl, rfl⟩
    · rw [decide_eq_false e, if_pos (by decide)]
      refine ⟨rfl, fun j δ => ∃ s5 s6, dat s5 ∧ dat s6 ∧ δ = [.d (.tuple (l.map fr)), .d (.tuple (m.map fr)), .own ((addN (mulN l m i) i (at0 l i) m j).map fr), .d (.int i), .d (fr (at0 l i)), s5, s6], ⟨s5, s6, d5, d6, rfl⟩, fun j x δ hx h => ?_, fun δ h => ?_⟩
      · obtain ⟨hj, rfl⟩ := en_fr hx
        obtain ⟨s5, s6, d5, d6, rfl⟩ := h
        have n5 := dat_nio d5
        have n6 := dat_nio d6
        have hlen : i + j < (addN (mulN l m i) i (at0 l i) m j).length := by rw [addN_len, mulN_len]; omega
        simp only [tdR, tdN, tdSq, tdE, tdIf, tdSet, tdF, tdRO, tdAsg, tdSub, tdAug, tdAugS, tdApp, tdPar, tdPar3, tdRaise, tV, tBo, tK, t2, t1, kI, kU, kEq, kEqS, kN, kIx, kST, kSL, kRv, kRvT, kCL, kCT, kRL, kRT, tCh, tTe, tNo, tAn, tOr', tAnV, DL.tOrV, kNo, tIfE, taC, tTp, tLs, tBi, kLen, kAbs, kMM, kInt, kTupc, kLisc, tSc, toN, toS, tOf, gNm, gNl, gCs, gTu, kIsi, kMn, kMx, kRp, tFz, tiS, tiO, tiR1, tiR2, tiRd, tiE, tCal, tCalB, startD, DL.startB, noIo_eq, nio_d, nio_un, nio_own, asD_d, asD_own, asD_io, CT, CNz, tYesD, ex0, tdFor, tdLc, wipeD, isDat_eq, dat_d, dat_un, Owns, setO, List.map_cons, List.map_nil, List.cons_append, List.nil_append, List.length_cons, List.length_nil, List.replicate, List.replicate_succ, List.replicate_zero, List.getElem?_cons_zero, List.getElem?_cons_succ, List.set_cons_zero, List.set_cons_succ, Option.some.injEq, SV.d.injEq, SV.own.injEq, SV.io.injEq, PyData.int.injEq, PyData.str.injEq, PyData.bool.injEq, PyData.tuple.injEq, PyData.list.injEq, exists_eq_left', exists_eq_left, exists_eq_right, exists_eq_right', exists_and_left, true_and, and_true, if_true, if_false, id, reduceCtorEq, false_or, or_false, exists_false, List.cons.injEq, and_self, SV.d.injEq, Nat.reduceAdd, Nat.reduceSub, ite_true, ite_false, decide_eq_true_eq, Bool.false_eq_true, exists_const, decide_true, decide_false, List.forall_mem_cons, List.forall_mem_nil, Bool.not_true, Bool.not_false, Bool.not_eq_true, Nat.reduceLT, forall_const, implies_true, and_assoc, true_or, or_true, List.not_mem_nil, false_implies, Int.natCast_inj, not_true_eq_false, not_false_eq_true, and_false, false_and, po, map_fr_inj, fr_inj, shP, eqP, eqP0, sh0, shF, eqF, List.length_map, n5, n6, sp_times, sp_plus]
        rw [atI_fr2 hlen]
        simp only [tdR, tdN, tdSq, tdE, tdIf, tdSet, tdF, tdRO, tdAsg, tdSub, tdAug, tdAugS, tdApp, tdPar, tdPar3, tdRaise, tV, tBo, tK, t2, t1, kI, kU, kEq, kEqS, kN, kIx, kST, kSL, kRv, kRvT, kCL, kCT, kRL, kRT, tCh, tTe, tNo, tAn, tOr', tAnV, DL.tOrV, kNo, tIfE, taC, tTp, tLs, tBi, kLen, kAbs, kMM, kInt, kTupc, kLisc, tSc, toN, toS, tOf, gNm, gNl, gCs, gTu, kIsi, kMn, kMx, kRp, tFz, tiS, tiO, tiR1, tiR2, tiRd, tiE, tCal, tCalB, startD, DL.startB, noIo_eq, nio_d, nio_un, nio_own, asD_d, asD_own, asD_io, CT, CNz, tYesD, ex0, tdFor, tdLc, wipeD, isDat_eq, dat_d, dat_un, Owns, setO, List.map_cons, List.map_nil, List.cons_append, List.nil_append, List.length_cons, List.length_nil, List.replicate, List.replicate_succ, List.replicate_zero, List.getElem?_cons_zero, List.getElem?_cons_succ, List.set_cons_zero, List.set_cons_succ, Option.some.injEq, SV.d.injEq, SV.own.injEq, SV.io.injEq, PyData.int.injEq, PyData.str.injEq, PyData.bool.injEq, PyData.tuple.injEq, PyData.list.injEq, exists_eq_left', exists_eq_left, exists_eq_right, exists_eq_right', exists_and_left, true_and, and_true, if_true, if_false, id, reduceCtorEq, false_or, or_false, exists_false, List.cons.injEq, and_self, SV.d.injEq, Nat.reduceAdd, Nat.reduceSub, ite_true, ite_false, decide_eq_true_eq, Bool.false_eq_true, exists_const, decide_true, decide_false, List.forall_mem_cons, List.forall_mem_nil, Bool.not_true, Bool.not_false, Bool.not_eq_true, Nat.reduceLT, forall_const, implies_true, and_assoc, true_or, or_true, List.not_mem_nil, false_implies, Int.natCast_inj, not_true_eq_false, not_false_eq_true, and_false, false_and, po, map_fr_inj, fr_inj, shP, eqP, eqP0, sh0, shF, eqF, List.length_map, ixN_2 hlen]
        refine ⟨(hb_smL h1 (by omega)) i, (hb_smL h2 (by omega)) j, sz_sm (z2 i hi j (by omega) _) h3, sz_sm (z1 i j) h3, ⟨_, rfl⟩, .d (.int j), trivial, .d (fr (at0 m j)), trivial, ?_, rfl, rfl⟩
        rw [set_fr]; rfl
      · obtain ⟨s5, s6, d5, d6, rfl⟩ := h
        simp only [tdR, tdN, tdSq, tdE, tdIf, tdSet, tdF, tdRO, tdAsg, tdSub, tdAug, tdAugS, tdApp, tdPar, tdPar3, tdRaise, tV, tBo, tK, t2, t1, kI, kU, kEq, kEqS, kN, kIx, kST, kSL, kRv, kRvT, kCL, kCT, kRL, kRT, tCh, tTe, tNo, tAn, tOr', tAnV, DL.tOrV, kNo, tIfE, taC, tTp, tLs, tBi, kLen, kAbs, kMM, kInt, kTupc, kLisc, tSc, toN, toS, tOf, gNm, gNl, gCs, gTu, kIsi, kMn, kMx, kRp, tFz, tiS, tiO, tiR1, tiR2, tiRd, tiE, tCal, tCalB, startD, DL.startB, noIo_eq, nio_d, nio_un, nio_own, asD_d, asD_own, asD_io, CT, CNz, tYesD, ex0, tdFor, tdLc, wipeD, isDat_eq, dat_d, dat_un, Owns, setO, List.map_cons, List.map_nil, List.cons_append, List.nil_append, List.length_cons, List.length_nil, List.replicate, List.replicate_succ, List.replicate_zero, List.getElem?_cons_zero, List.getElem?_cons_succ, List.set_cons_zero, List.set_cons_succ, Option.some.injEq, SV.d.injEq, SV.own.injEq, SV.io.injEq, PyData.int.injEq, PyData.str.injEq, PyData.bool.injEq, PyData.tuple.injEq, PyData.list.injEq, exists_eq_left', exists_eq_left, exists_eq_right, exists_eq_right', exists_and_left, true_and, and_true, if_true, if_false, id, reduceCtorEq, false_or, or_false, exists_false, List.cons.injEq, and_self, SV.d.injEq, Nat.reduceAdd, Nat.reduceSub, ite_true, ite_false, decide_eq_true_eq, Bool.false_eq_true, exists_const, decide_true, decide_false, List.forall_mem_cons, List.forall_mem_nil, Bool.not_true, Bool.not_false, Bool.not_eq_true, Nat.reduceLT, forall_const, implies_true, and_assoc, true_or, or_true, List.not_mem_nil, false_implies, Int.natCast_inj, not_true_eq_false, not_false_eq_true, and_false, false_and, po, map_fr_inj, fr_inj, shP, eqP, eqP0, sh0, shF, eqF, List.length_map, enD_len]
        exact ⟨.d _, trivial, .d _, trivial, _, d5, _, d6, rfl, rfl, rfl, rfl, rfl⟩
  · obtain ⟨s3, s4, s5, s6, d3, d4, d5, d6, rfl⟩ := h
    simp only [tdR, tdN, tdSq, tdE, tdIf, tdSet, tdF, tdRO, tdAsg, tdSub, tdAug, tdAugS, tdApp, tdPar, tdPar3, tdRaise, tV, tBo, tK, t2, t1, kI, kU, kEq, kEqS, kN, kIx, kST, kSL, kRv, kRvT, kCL, kCT, kRL, kRT, tCh, tTe, tNo, tAn, tOr', tAnV, DL.tOrV, kNo, tIfE, taC, tTp, tLs, tBi, kLen, kAbs, kMM, kInt, kTupc, kLisc, tSc, toN, toS, tOf, gNm, gNl, gCs, gTu, kIsi, kMn, kMx, kRp, tFz, tiS, tiO, tiR1, tiR2, tiRd, tiE, tCal, tCalB, startD, DL.startB, noIo_eq, nio_d, nio_un, nio_own, asD_d, asD_own, asD_io, CT, CNz, tYesD, ex0, tdFor, tdLc, wipeD, isDat_eq, dat_d, dat_un, Owns, setO, List.map_cons, List.map_nil, List.cons_append, List.nil_append, List.length_cons, List.length_nil, List.replicate, List.replicate_succ, List.replicate_zero, List.getElem?_cons_zero, List.getElem?_cons_succ, List.set_cons_zero, List.set_cons_succ, Option.some.injEq, SV.d.injEq, SV.own.injEq, SV.io.injEq, PyData.int.injEq, PyData.str.injEq, PyData.bool.injEq, PyData.tuple.injEq, PyData.list.injEq, exists_eq_left', exists_eq_left, exists_eq_right, exists_eq_right', exists_and_left, true_and, and_true, if_true, if_false, id, reduceCtorEq, false_or, or_false, exists_false, List.cons.injEq, and_self, SV.d.injEq, Nat.reduceAdd, Nat.reduceSub, ite_true, ite_false, decide_eq_true_eq, Bool.false_eq_true, exists_const, decide_true, decide_false, List.forall_mem_cons, List.forall_mem_nil, Bool.not_true, Bool.not_false, Bool.not_eq_true, Nat.reduceLT, forall_const, implies_true, and_assoc, true_or, or_true, List.not_mem_nil, false_implies, Int.natCast_inj, not_true_eq_false, not_false_eq_true, and_false, false_and, po, map_fr_inj, fr_inj, shP, eqP, eqP0, sh0, shF, eqF, List.length_map, sp_trimmed, enD_len]
    exact q
def mulE (l m : List Rat) : List Rat := if l = [] ∨ m = [] then [] else mulP l m
def powP (l : List Rat) : Nat → List Rat
  | 0 => [1]
  | n + 1 => mulE (powP l n) l
def sp_to_power : SpD := fun ds Q _ => ∃ (l : List Rat) (n h : Nat), ds = [po l, .int n] ∧ Hb h l ∧ l.length ≤ 64 ∧ n ≤ 1000 ∧ (∀ i, i ≤ n → (powP l i).length ≤ 64 ∧ ∃ k, Hb k (powP l i) ∧ k + h + 6 ≤ 60000000) ∧ Q (.d (po (powP l n)))
theorem po_unit : (PyData.tuple [v_UNIT]) = po [1] := rfl
theorem sc_to_power : FnScope ["poly", "many", "found", "lap"] ["poly", "many"] (defScope s_to_power) := ⟨rfl, rfl, rfl, by decide +kernel, rfl, by decide +kernel, by decide +kernel⟩
theorem ok_to_power (T : Txt K mg CN) (hS : base.NoSeer) : FnD pw w K mg base "to_power" 42 ["poly", "many"] sp_to_power := by
  have F_is_count := ok_is_count (w := w) T hS
  have F_poly_times := ok_poly_times (w := w) T hS
  refine okD (k := 41) T.f_to_power sc_to_power (fun _ _ _ _ _ _ us hl => match us, hl with | [_, _], _ => rfl) fun f cdv A outer s H E hr => ?_
  refine ⟨_, (dcons (dsif (dtnot (dtval (DE.b (dcall F_is_count (hr.mono (by decide)) (dacons (dv 1) danil))))) (done1 (draise' rfl T.e_Nothing)) dnil)
      (dcons (dset 2 sc_to_power.nd (dtup (dacons (dcon T.c_UNIT) danil)))
      (dcons (dfor (passes_of rfl) rfl (diR1 (by rfl) T.b_range (dab1 (DE.b (dv 1)))) (dgn 3 sc_to_power.nd) (done1 (dset 2 sc_to_power.nd (dcall F_poly_times (hr.mono (by decide)) (dacons (dv 2) (dacons (dv 0) danil))))))
      (done1 (dret (dv 2)))))), fun ds Q X h hl => ?_⟩
  obtain ⟨l, n, b, rfl, h1, h2, h3, h4, q⟩ := h
  simp only [tdR, tdN, tdSq, tdE, tdIf, tdSet, tdF, tdRO, tdAsg, tdSub, tdAug, tdAugS, tdApp, tdPar, tdPar3, tdRaise, tV, tBo, tK, t2, t1, kI, kU, kEq, kEqS, kN, kIx, kST, kSL, kRv, kRvT, kCL, kCT, kRL, kRT, tCh, tTe, tNo, tAn, tOr', tAnV, DL.tOrV, kNo, tIfE, taC, tTp, tLs, tBi, kLen, kAbs, kMM, kInt, kTupc, kLisc, tSc, toN, toS, tOf, gNm, gNl, gCs, gTu, kIsi, kMn, kMx, kRp, tFz, tiS, tiO, tiR1, tiR2, tiRd, tiE, tCal, tCalB, startD, DL.startB, noIo_eq, nio_d, nio_un, nio_own, asD_d, asD_own, asD_io, CT, CNz, tYesD, ex0, tdFor, tdLc, wipeD, isDat_eq, dat_d, dat_un, Owns, setO, List.map_cons, List.map_nil, List.cons_append, List.nil_append, List.length_cons, List.length_nil, List.replicate, List.replicate_succ, List.replicate_zero, List.getElem?_cons_zero, List.getElem?_cons_succ, List.set_cons_zero, List.set_cons_succ, Option.some.injEq, SV.d.injEq, SV.own.injEq, SV.io.injEq, PyData.int.injEq, PyData.str.injEq, PyData.bool.injEq, PyData.tuple.injEq, PyData.list.injEq, exists_eq_left', exists_eq_left, exists_eq_right, exists_eq_right', exists_and_left, true_and, and_true, if_true, if_false, id, reduceCtorEq, false_or, or_false, exists_false, List.cons.injEq, and_self, SV.d.injEq, Nat.reduceAdd, Nat.reduceSub, ite_true, ite_false, decide_eq_true_eq, Bool.false_eq_true, exists_const, decide_true, decide_false, List.forall_mem_cons, List.forall_mem_nil, Bool.not_true, Bool.not_false, Bool.not_eq_true, Nat.reduceLT, forall_const, implies_true, and_assoc, true_or, or_true, List.not_mem_nil, false_implies, Int.natCast_inj, not_true_eq_false, not_false_eq_true, and_false, false_and, po, map_fr_inj, fr_inj, shP, eqP, eqP0, sh0, shF, eqF, List.length_map, sp_is_count]
  refine ⟨by rw [sizeLine_eq]; decide, by omega, by omega, rfl, fun i δ => ∃ s3, dat s3 ∧ δ = [.d (.tuple (l.map fr)), .d (.int n), .d (.tuple ((powP l i).map fr)), s3], ⟨.un, trivial, rfl⟩, fun i x δ hx h => ?_, fun δ h => ?_⟩
  · obtain ⟨hi, rfl⟩ := rngD_nat hx
    obtain ⟨s3, d3, rfl⟩ := h
    have n3 := dat_nio d3
    obtain ⟨g1, k, g2, g3⟩ := h4 i (by omega)
    simp only [tdR, tdN, tdSq, tdE, tdIf, tdSet, tdF, tdRO, tdAsg, tdSub, tdAug, tdAugS, tdApp, tdPar, tdPar3, tdRaise, tV, tBo, tK, t2, t1, kI, kU, kEq, kEqS, kN, kIx, kST, kSL, kRv, kRvT, kCL, kCT, kRL, kRT, tCh, tTe, tNo, tAn, tOr', tAnV, DL.tOrV, kNo, tIfE, taC, tTp, tLs, tBi, kLen, kAbs, kMM, kInt, kTupc, kLisc, tSc, toN, toS, tOf, gNm, gNl, gCs, gTu, kIsi, kMn, kMx, kRp, tFz, tiS, tiO, tiR1, tiR2, tiRd, tiE, tCal, tCalB, startD, DL.startB, noIo_eq, nio_d, nio_un, nio_own, asD_d, asD_own, asD_io, CT, CNz, tYesD, ex0, tdFor, tdLc, wipeD, isDat_eq, dat_d, dat_un, Owns, setO, List.map_cons, List.map_nil, List.cons_append, List.nil_append, List.length_cons, List.length_nil, List.replicate, List.replicate_succ, List.replicate_zero, List.getElem?_cons_zero, List.getElem?_cons_succ, List.set_cons_zero, List.set_cons_succ, Option.some.injEq, SV.d.injEq, SV.own.injEq, SV.io.injEq, PyData.int.injEq, PyData.str.injEq, PyData.bool.injEq, PyData.tuple.injEq, PyData.list.injEq, exists_eq_left', exists_eq_left, exists_eq_right, exists_eq_right', exists_and_left, true_and, and_true, if_true, if_false, id, reduceCtorEq, false_or, or_false, exists_false, List.cons.injEq, and_self, SV.d.injEq, Nat.reduceAdd, Nat.reduceSub, ite_true, ite_false, decide_eq_true_eq, Bool.false_eq_true, exists_const, decide_true, decide_false, List.forall_mem_cons, List.forall_mem_nil, Bool.not_true, Bool.not_false, Bool.not_eq_true, Nat.reduceLT, forall_const, implies_true, and_assoc, true_or, or_true, List.not_mem_nil, false_implies, Int.natCast_inj, not_true_eq_false, not_false_eq_true, and_false, false_and, po, map_fr_inj, fr_inj, shP, eqP, eqP0, sh0, shF, eqF, List.length_map, n3, sp_poly_times]
    exact ⟨k, g2, b, h1, g3, g1, h2, .d _, trivial, rfl, rfl⟩
  · obtain ⟨s3, d3, rfl⟩ := h
    simp only [tdR, tdN, tdSq, tdE, tdIf, tdSet, tdF, tdRO, tdAsg, tdSub, tdAug, tdAugS, tdApp, tdPar, tdPar3, tdRaise, tV, tBo, tK, t2, t1, kI, kU, kEq, kEqS, kN, kIx, kST, kSL, kRv, kRvT, kCL, kCT, kRL, kRT, tCh, tTe, tNo, tAn, tOr', tAnV, DL.tOrV, kNo, tIfE, taC, tTp, tLs, tBi, kLen, kAbs, kMM, kInt, kTupc, kLisc, tSc, toN, toS, tOf, gNm, gNl, gCs, gTu, kIsi, kMn, kMx, kRp, tFz, tiS, tiO, tiR1, tiR2, tiRd, tiE, tCal, tCalB, startD, DL.startB, noIo_eq, nio_d, nio_un, nio_own, asD_d, asD_own, asD_io, CT, CNz, tYesD, ex0, tdFor, tdLc, wipeD, isDat_eq, dat_d, dat_un, Owns, setO, List.map_cons, List.map_nil, List.cons_append, List.nil_append, List.length_cons, List.length_nil, List.replicate, List.replicate_succ, List.replicate_zero, List.getElem?_cons_zero, List.getElem?_cons_succ, List.set_cons_zero, List.set_cons_succ, Option.some.injEq, SV.d.injEq, SV.own.injEq, SV.io.injEq, PyData.int.injEq, PyData.str.injEq, PyData.bool.injEq, PyData.tuple.injEq, PyData.list.injEq, exists_eq_left', exists_eq_left, exists_eq_right, exists_eq_right', exists_and_left, true_and, and_true, if_true, if_false, id, reduceCtorEq, false_or, or_false, exists_false, List.cons.injEq, and_self, SV.d.injEq, Nat.reduceAdd, Nat.reduceSub, ite_true, ite_false, decide_eq_true_eq, Bool.false_eq_true, exists_const, decide_true, decide_false, List.forall_mem_cons, List.forall_mem_nil, Bool.not_true, Bool.not_false, Bool.not_eq_true, Nat.reduceLT, forall_const, implies_true, and_assoc, true_or, or_true, List.not_mem_nil, false_implies, Int.natCast_inj, not_true_eq_false, not_false_eq_true, and_false, false_and, po, map_fr_inj, fr_inj, shP, eqP, eqP0, sh0, shF, eqF, List.length_map, rngD_len, Int.toNat_natCast]
    exact q
end
end K70
namespace K70
open PySem PySem.Spec L2 DL
open PyProof.Rows hiding St

section
variable {w : World} {K : PySem.W.Frag} {mg : Str → Option Value} {base : Heap} {CN : Addr}

open PM
def sp_divided (CN : Addr) : SpD := fun ds Q X => ∃ (l m : List Rat) (h k : Nat), ds = [po l, po m] ∧ (m = [] → X (.ref CN)) ∧ (m ≠ [] → Tr m ∧ Hb h l ∧ Hb k m ∧ h + (l.length + 1 - m.length) * (k + 1) ≤ 60000000 ∧ l.length ≤ 1000 ∧ m.length ≤ 1000 ∧ Q (.d (.tuple [po (quo l m), po (rem l m)])))
theorem fr_neg (p : Rat) : PyData.tuple [.int (-p.num), .int (p.den : Int)] = fr (-p) := by unfold fr; rw [Rat.neg_num, Rat.neg_den]
theorem fr_neg_inj (p q : Rat) : (PyData.tuple [.int (-p.num), .int (p.den : Int)] = fr q) = (-p = q) := by rw [fr_neg]; exact propext fr_inj
theorem atI_off {l : List Rat} {i : Int} {j : Nat} (e : i = (j : Int)) (h : j < l.length) : atI (l.map fr) i = some (fr (at0 l j)) := by subst e; exact atI_fr h
theorem ixN_off {n : Nat} {i : Int} {j : Nat} (e : i = (j : Int)) (h : j < n) : ixN n i = some j := by subst e; exact ixN_nat h
theorem len_if (a b : Nat) : (if (a : Int) - (b : Int) + 1 > 0 then (a : Int) - (b : Int) + 1 else 0) = ((a + 1 - b : Nat) : Int) := by split <;> omega
theorem sc_divided : FnScope ["one", "other", "rest", "found", "at", "factor", "place", "its", "over", "under"] ["one", "other"] (defScope s_divided) := ⟨rfl, rfl, rfl, by decide +kernel, rfl, by decide +kernel, by decide +kernel⟩
theorem ok_divided (T : Txt K mg CN) (hS : base.NoSeer) : FnD pw w K mg base "divided" 41 ["one", "other"] (sp_divided CN) := by
  have F_over_by := ok_over_by (w := w) T hS
  have F_plus := ok_plus (w := w) T hS
  have F_times := ok_times (w := w) T hS
  have F_trimmed := ok_trimmed (w := w) T hS
  refine okD (k := 40) T.f_divided sc_divided (fun _ _ _ _ _ _ us hl => match us, hl with | [_, _], _ => rfl) fun f cdv A outer s H E hr => ?_
  have hu := hr.units
  refine ⟨_, (dcons (dsif (dteq hu (DE.b (dv 1)) (DE.b (dtup danil))) (done1 (draise' rfl T.e_Nothing)) dnil)
      (dcons (dpar 2 3 rfl sc_divided.nd (dlisc (by rfl) T.b_list (dab1 (DE.b (dv 0)))) (drepL (DE.b (dlst (dacons (dcon T.c_NIL) danil))) (DE.b (dmax2 rfl (by rfl) T.b_max (dab2 (DE.b dint) (DE.b (dadd (DE.b (dsub (DE.b (dlen (by rfl) T.b_len (dab1 (DE.b (dv 0))))) (DE.b (dlen (by rfl) T.b_len (dab1 (DE.b (dv 1))))))) (DE.b dint))))))))
      (dcons (dfor (passes_of rfl) rfl (diRd (by rfl) T.b_range (dacons (dsub (DE.b (dlen (by rfl) T.b_len (dab1 (DE.b (dv 0))))) (DE.b (dlen (by rfl) T.b_len (dab1 (DE.b (dv 1)))))) (dacons (dneg (DE.b dint)) (dacons (dneg (DE.b dint)) danil)))) (dgn 4 sc_divided.nd) (dcons (dset 5 sc_divided.nd (dcall F_over_by (hr.mono (by decide)) (dacons (dix (db 2) (DE.b (dsub (DE.b (dadd (DE.b (dv 4)) (DE.b (dlen (by rfl) T.b_len (dab1 (DE.b (dv 1))))))) (DE.b dint)))) (dacons (dix (DE.b (dv 1)) (DE.b (dneg (DE.b dint)))) danil))))
      (dcons (dsub_ 3 (dv 5) (DE.b (dv 4)))
      (done1 (dsif (dtne hu (DE.b (dv 5)) (DE.b (dcon T.c_NIL))) (done1 (dfor (passes_of rfl) rfl (diE (by rfl) T.b_enumerate (dab1 (DE.b (dv 1)))) (dgtup (n := 2) rfl (dgcons (dgn 6 sc_divided.nd) (dgcons (dgn 7 sc_divided.nd) dgnil))) (dcons (dasg (dcall F_times (hr.mono (by decide)) (dacons (dv 5) (dacons (dv 7) danil))) (dgtup (n := 2) rfl (dgcons (dgn 8 sc_divided.nd) (dgcons (dgn 9 sc_divided.nd) dgnil))))
      (done1 (dsub_ 2 (dcall F_plus (hr.mono (by decide)) (dacons (dix (db 2) (DE.b (dadd (DE.b (dv 4)) (DE.b (dv 6))))) (dacons (dtup (dacons (dneg (DE.b (dv 8))) (dacons (dv 9) danil))) danil))) (DE.b (dadd (DE.b (dv 4)) (DE.b (dv 6))))))))) dnil)))))
      (done1 (dfrz 2 (dfrz 3 (dret (dtup (dacons (dcall F_trimmed (hr.mono (by decide)) (dacons (dv 3) danil)) (dacons (dcall F_trimmed (hr.mono (by decide)) (dacons (dv 2) danil)) danil)))))))))), fun ds Q X h hl => ?_⟩
  obtain ⟨l, m, a, b, rfl, q0, q⟩ := h
  simp only [tdR, tdN, tdSq, tdE, tdIf, tdSet, tdF, tdRO, tdAsg, tdSub, tdAug, tdAugS, tdApp, tdPar, tdPar3, tdRaise, tV, tBo, tK, t2, t1, kI, kU, kEq, kEqS, kN, kIx, kST, kSL, kRv, kRvT, kCL, kCT, kRL, kRT, tCh, tTe, tNo, tAn, tOr', tAnV, DL.tOrV, kNo, tIfE, taC, tTp, tLs, tBi, kLen, kAbs, kMM, kInt, kTupc, kLisc, tSc, toN, toS, tOf, gNm, gNl, gCs, gTu, kIsi, kMn, kMx, kRp, tFz, tiS, tiO, tiR1, tiR2, tiRd, tiE, tCal, tCalB, startD, DL.startB, noIo_eq, nio_d, nio_un, nio_own, asD_d, asD_own, asD_io, CT, CNz, tYesD, ex0, tdFor, tdLc, wipeD, isDat_eq, dat_d, dat_un, Owns, setO, List.map_cons, List.map_nil, List.cons_append, List.nil_append, List.length_cons, List.length_nil, List.replicate, List.replicate_succ, List.replicate_zero, List.getElem?_cons_zero, List.getElem?_cons_succ, List.set_cons_zero, List.set_cons_succ, Option.some.injEq, SV.d.injEq, SV.own.injEq, SV.io.injEq, PyData.int.injEq, PyData.str.injEq, PyData.bool.injEq, PyData.tuple.injEq, PyData.list.injEq, exists_eq_left', exists_eq_left, exists_eq_right, exists_eq_right', exists_and_left, true_and, and_true, if_true, if_false, id, reduceCtorEq, false_or, or_false, exists_false, List.cons.injEq, and_self, SV.d.injEq, Nat.reduceAdd, Nat.reduceSub, ite_true, ite_false, decide_eq_true_eq, Bool.false_eq_true, exists_const, decide_true, decide_false, List.forall_mem_cons, List.forall_mem_nil, Bool.not_true, Bool.not_false, Bool.not_eq_true, Nat.reduceLT, forall_const, implies_true, and_assoc, true_or, or_true, List.not_mem_nil, false_implies, Int.natCast_inj, not_true_eq_false, not_false_eq_true, and_false, false_and, po, map_fr_inj, fr_inj, shP, eqP, eqP0, sh0, shF, eqF, List.length_map]
  refine ⟨Nat.zero_le _, ?_⟩
  by_cases hm : m = []
  · rw [if_pos hm]; exact q0 hm
  rw [if_neg hm]
  obtain ⟨tm, h1, h2, h3, h4, h5, q⟩ := q hm
  have pm := List.length_pos_iff.mpr hm
  have lead : at0 m (m.length - 1) ≠ 0 := by rw [at0_last hm]; exact tm.last hm
  rw [len_if, Int.toNat_natCast, reps_fr]
  have eT : ((l.length : Int) - (m.length : Int) - -1).toNat = l.length + 1 - m.length := by omega
  rw [eT]
  refine ⟨by rw [sizeLine_eq]; decide, by omega, by omega, by rw [sizeLine_eq]; omega, by omega, by omega, by decide, by decide, rfl,
    fun i δ => ∃ s4 s5 s6 s7 s8 s9, dat s4 ∧ dat s5 ∧ dat s6 ∧ dat s7 ∧ dat s8 ∧ dat s9 ∧ δ = [.d (.tuple (l.map fr)), .d (.tuple (m.map fr)), .own ((divN l m i).1.map fr), .own ((divN l m i).2.map fr), s4, s5, s6, s7, s8, s9],
    ⟨.un, .un, .un, .un, .un, .un, trivial, trivial, trivial, trivial, trivial, trivial, rfl⟩, fun i x δ hx h => ?_, fun δ h => ?_⟩
  · obtain ⟨hi, rfl⟩ := rngD_get hx
    obtain ⟨s4, s5, s6, s7, s8, s9, d4, d5, d6, d7, d8, d9, rfl⟩ := h
    have n4 := dat_nio d4
    have n5 := dat_nio d5
    have n6 := dat_nio d6
    have n7 := dat_nio d7
    have n8 := dat_nio d8
    have n9 := dat_nio d9
    obtain ⟨z1, _⟩ := div_sz tm hm (by omega) h1 h2
    obtain ⟨y1, y2, y3, y4⟩ := z1 i hi
    obtain ⟨w1, w2⟩ := divN_len (l := l) (m := m) i
    have ea : (l.length : Int) - (m.length : Int) + (i : Int) * -1 = ((l.length - m.length - i : Nat) : Int) := by omega
    rw [ea]
    generalize hA : l.length - m.length - i = A at *
    have hA2 : A + m.length ≤ (divN l m i).1.length := by omega
    have hA3 : A < (divN l m i).2.length := by omega
    have e1 := atI_off (l := (divN l m i).1) (i := (A : Int) + (m.length : Int) - 1) (j := A + m.length - 1) (by omega) (by omega)
    simp only [tdR, tdN, tdSq, tdE, tdIf, tdSet, tdF, tdRO, tdAsg, tdSub, tdAug, tdAugS, tdApp, tdPar, tdPar3, tdRaise, tV, tBo, tK, t2, t1, kI, kU, kEq, kEqS, kN, kIx, kST, kSL, kRv, kRvT, kCL, kCT, kRL, kRT, tCh, tTe, tNo, tAn, tOr', tAnV, DL.tOrV, kNo, tIfE, taC, tTp, tLs, tBi, kLen, kAbs, kMM, kInt, kTupc, kLisc, tSc, toN, toS, tOf, gNm, gNl, gCs, gTu, kIsi, kMn, kMx, kRp, tFz, tiS, tiO, tiR1, tiR2, tiRd, tiE, tCal, tCalB, startD, DL.startB, noIo_eq, nio_d, nio_un, nio_own, asD_d, asD_own, asD_io, CT, CNz, tYesD, ex0, tdFor, tdLc, wipeD, isDat_eq, dat_d, dat_un, Owns, setO, List.map_cons, List.map_nil, List.cons_append, List.nil_append, List.length_cons, List.length_nil, List.replicate, List.replicate_succ, List.replicate_zero, List.getElem?_cons_zero, List.getElem?_cons_succ, List.set_cons_zero, List.set_cons_succ, Option.some.injEq, SV.d.injEq, SV.own.injEq, SV.io.injEq, PyData.int.injEq, PyData.str.injEq, PyData.bool.injEq, PyData.tuple.injEq, PyData.list.injEq, exists_eq_left', exists_eq_left, exists_eq_right, exists_eq_right', exists_and_left, true_and, and_true, if_true, if_false, id, reduceCtorEq, false_or, or_false, exists_false, List.cons.injEq, and_self, SV.d.injEq, Nat.reduceAdd, Nat.reduceSub, ite_true, ite_false, decide_eq_true_eq, Bool.false_eq_true, exists_const, decide_true, decide_false, List.forall_mem_cons, List.forall_mem_nil, Bool.not_true, Bool.not_false, Bool.not_eq_true, Nat.reduceLT, forall_const, implies_true, and_assoc, true_or, or_true, List.not_mem_nil, false_implies, Int.natCast_inj, not_true_eq_false, not_false_eq_true, and_false, false_and, po, map_fr_inj, fr_inj, shP, eqP, eqP0, sh0, shF, eqF, List.length_map, n4, n5, sp_over_by, e1, atI_back hm, ixN_nat hA3, set_fr]
    have ed : divN l m (i + 1) = (addN (divN l m i).1 A (-(at0 (divN l m i).1 (A + m.length - 1) / at0 m (m.length - 1))) m m.length, (divN l m i).2.set A (at0 (divN l m i).1 (A + m.length - 1) / at0 m (m.length - 1))) := by simp only [divN, hA]
    refine ⟨sz_sm (y1 _) h3, (hb_smL (h2.mono (Nat.le_refl _)) ?_) _, lead, ⟨_, rfl⟩, ?_⟩
    · have : 1 * (b + 1) ≤ (l.length + 1 - m.length) * (b + 1) := Nat.mul_le_mul_right _ (by omega)
      omega
    rw [ed]
    generalize at0 (divN l m i).1 (A + m.length - 1) / at0 m (m.length - 1) = c at *
    by_cases hc : c = 0
    · rw [decide_eq_true hc, if_neg (by decide)]
      refine ⟨.d (.int A), trivial, .d (fr c), trivial, _, d6, _, d7, _, d8, _, d9, ?_, rfl, rfl, rfl, rfl, rfl, rfl, rfl⟩
      rw [hc]
      have : (-(0 : Rat)) = 0 := by grind
      rw [this, addN_zero]
    · rw [decide_eq_false hc, if_pos (by decide)]
      refine ⟨rfl, fun j δ => ∃ s6 s7 s8 s9, dat s6 ∧ dat s7 ∧ dat s8 ∧ dat s9 ∧ δ = [.d (.tuple (l.map fr)), .d (.tuple (m.map fr)), .own ((addN (divN l m i).1 A (-c) m j).map fr), .own (((divN l m i).2.set A c).map fr), .d (.int A), .d (fr c), s6, s7, s8, s9],
        ⟨s6, s7, s8, s9, d6, d7, d8, d9, rfl⟩, fun j x δ hx h => ?_, fun δ h => ?_⟩
      · obtain ⟨hj, rfl⟩ := en_fr hx
        obtain ⟨s6, s7, s8, s9, d6, d7, d8, d9, rfl⟩ := h
        have n6 := dat_nio d6
        have n7 := dat_nio d7
        have n8 := dat_nio d8
        have n9 := dat_nio d9
        have hlen : A + j < (addN (divN l m i).1 A (-c) m j).length := by rw [addN_len]; omega
        have y3' := y3 j
        simp only [tdR, tdN, tdSq, tdE, tdIf, tdSet, tdF, tdRO, tdAsg, tdSub, tdAug, tdAugS, tdApp, tdPar, tdPar3, tdRaise, tV, tBo, tK, t2, t1, kI, kU, kEq, kEqS, kN, kIx, kST, kSL, kRv, kRvT, kCL, kCT, kRL, kRT, tCh, tTe, tNo, tAn, tOr', tAnV, DL.tOrV, kNo, tIfE, taC, tTp, tLs, tBi, kLen, kAbs, kMM, kInt, kTupc, kLisc, tSc, toN, toS, tOf, gNm, gNl, gCs, gTu, kIsi, kMn, kMx, kRp, tFz, tiS, tiO, tiR1, tiR2, tiRd, tiE, tCal, tCalB, startD, DL.startB, noIo_eq, nio_d, nio_un, nio_own, asD_d, asD_own, asD_io, CT, CNz, tYesD, ex0, tdFor, tdLc, wipeD, isDat_eq, dat_d, dat_un, Owns, setO, List.map_cons, List.map_nil, List.cons_append, List.nil_append, List.length_cons, List.length_nil, List.replicate, List.replicate_succ, List.replicate_zero, List.getElem?_cons_zero, List.getElem?_cons_succ, List.set_cons_zero, List.set_cons_succ, Option.some.injEq, SV.d.injEq, SV.own.injEq, SV.io.injEq, PyData.int.injEq, PyData.str.injEq, PyData.bool.injEq, PyData.tuple.injEq, PyData.list.injEq, exists_eq_left', exists_eq_left, exists_eq_right, exists_eq_right', exists_and_left, true_and, and_true, if_true, if_false, id, reduceCtorEq, false_or, or_false, exists_false, List.cons.injEq, and_self, SV.d.injEq, Nat.reduceAdd, Nat.reduceSub, ite_true, ite_false, decide_eq_true_eq, Bool.false_eq_true, exists_const, decide_true, decide_false, List.forall_mem_cons, List.forall_mem_nil, Bool.not_true, Bool.not_false, Bool.not_eq_true, Nat.reduceLT, forall_const, implies_true, and_assoc, true_or, or_true, List.not_mem_nil, false_implies, Int.natCast_inj, not_true_eq_false, not_false_eq_true, and_false, false_and, po, map_fr_inj, fr_inj, shP, eqP, eqP0, sh0, shF, eqF, List.length_map, n6, n7, sp_times]
        refine ⟨sz_sm y2 h3, (hb_smL h2 ?_) j, ?_⟩
        · have : 1 * (b + 1) ≤ (l.length + 1 - m.length) * (b + 1) := Nat.mul_le_mul_right _ (by omega)
          omega
        generalize hp : c * at0 m j = P at *
        have eP : fr P = .tuple [.int P.num, .int (P.den : Int)] := rfl
        rw [eP]
        simp only [tdR, tdN, tdSq, tdE, tdIf, tdSet, tdF, tdRO, tdAsg, tdSub, tdAug, tdAugS, tdApp, tdPar, tdPar3, tdRaise, tV, tBo, tK, t2, t1, kI, kU, kEq, kEqS, kN, kIx, kST, kSL, kRv, kRvT, kCL, kCT, kRL, kRT, tCh, tTe, tNo, tAn, tOr', tAnV, DL.tOrV, kNo, tIfE, taC, tTp, tLs, tBi, kLen, kAbs, kMM, kInt, kTupc, kLisc, tSc, toN, toS, tOf, gNm, gNl, gCs, gTu, kIsi, kMn, kMx, kRp, tFz, tiS, tiO, tiR1, tiR2, tiRd, tiE, tCal, tCalB, startD, DL.startB, noIo_eq, nio_d, nio_un, nio_own, asD_d, asD_own, asD_io, CT, CNz, tYesD, ex0, tdFor, tdLc, wipeD, isDat_eq, dat_d, dat_un, Owns, setO, List.map_cons, List.map_nil, List.cons_append, List.nil_append, List.length_cons, List.length_nil, List.replicate, List.replicate_succ, List.replicate_zero, List.getElem?_cons_zero, List.getElem?_cons_succ, List.set_cons_zero, List.set_cons_succ, Option.some.injEq, SV.d.injEq, SV.own.injEq, SV.io.injEq, PyData.int.injEq, PyData.str.injEq, PyData.bool.injEq, PyData.tuple.injEq, PyData.list.injEq, exists_eq_left', exists_eq_left, exists_eq_right, exists_eq_right', exists_and_left, true_and, and_true, if_true, if_false, id, reduceCtorEq, false_or, or_false, exists_false, List.cons.injEq, and_self, SV.d.injEq, Nat.reduceAdd, Nat.reduceSub, ite_true, ite_false, decide_eq_true_eq, Bool.false_eq_true, exists_const, decide_true, decide_false, List.forall_mem_cons, List.forall_mem_nil, Bool.not_true, Bool.not_false, Bool.not_eq_true, Nat.reduceLT, forall_const, implies_true, and_assoc, true_or, or_true, List.not_mem_nil, false_implies, Int.natCast_inj, not_true_eq_false, not_false_eq_true, and_false, false_and, po, map_fr_inj, fr_inj, shP, eqP, eqP0, sh0, shF, eqF, List.length_map, n8, n9, atI_fr2 hlen, ixN_2 hlen, sp_plus, fr_neg_inj]
        refine ⟨by rw [sizeLine_eq]; decide, sz_sm (y4 j (by omega) _) h3, sm_neg (sz_sm y3' h3), ⟨_, rfl⟩, .d (.int j), trivial, .d (fr (at0 m j)), trivial, .d (.int P.num), trivial, .d (.int P.den), trivial, ?_, rfl, rfl, rfl, rfl⟩
        rw [set_fr, ← hp]
        have : -(c * at0 m j) = -c * at0 m j := by grind
        rw [this]; rfl
      · obtain ⟨s6, s7, s8, s9, d6, d7, d8, d9, rfl⟩ := h
        simp only [tdR, tdN, tdSq, tdE, tdIf, tdSet, tdF, tdRO, tdAsg, tdSub, tdAug, tdAugS, tdApp, tdPar, tdPar3, tdRaise, tV, tBo, tK, t2, t1, kI, kU, kEq, kEqS, kN, kIx, kST, kSL, kRv, kRvT, kCL, kCT, kRL, kRT, tCh, tTe, tNo, tAn, tOr', tAnV, DL.tOrV, kNo, tIfE, taC, tTp, tLs, tBi, kLen, kAbs, kMM, kInt, kTupc, kLisc, tSc, toN, toS, tOf, gNm, gNl, gCs, gTu, kIsi, kMn, kMx, kRp, tFz, tiS, tiO, tiR1, tiR2, tiRd, tiE, tCal, tCalB, startD, DL.startB, noIo_eq, nio_d, nio_un, nio_own, asD_d, asD_own, asD_io, CT, CNz, tYesD, ex0, tdFor, tdLc, wipeD, isDat_eq, dat_d, dat_un, Owns, setO, List.map_cons, List.map_nil, List.cons_append, List.nil_append, List.length_cons, List.length_nil, List.replicate, List.replicate_succ, List.replicate_zero, List.getElem?_cons_zero, List.getElem?_cons_succ, List.set_cons_zero, List.set_cons_succ, Option.some.injEq, SV.d.injEq, SV.own.injEq, SV.io.injEq, PyData.int.injEq, PyData.str.injEq, PyData.bool.injEq, PyData.tuple.injEq, PyData.list.injEq, exists_eq_left', exists_eq_left, exists_eq_right, exists_eq_right', exists_and_left, true_and, and_true, if_true, if_false, id, reduceCtorEq, false_or, or_false, exists_false, List.cons.injEq, and_self, SV.d.injEq, Nat.reduceAdd, Nat.reduceSub, ite_true, ite_false, decide_eq_true_eq, Bool.false_eq_true, exists_const, decide_true, decide_false, List.forall_mem_cons, List.forall_mem_nil, Bool.not_true, Bool.not_false, Bool.not_eq_true, Nat.reduceLT, forall_const, implies_true, and_assoc, true_or, or_true, List.not_mem_nil, false_implies, Int.natCast_inj, not_true_eq_false, not_false_eq_true, and_false, false_and, po, map_fr_inj, fr_inj, shP, eqP, eqP0, sh0, shF, eqF, List.length_map, enD_len]
        exact ⟨.d (.int A), trivial, .d (fr c), trivial, _, d6, _, d7, _, d8, _, d9, rfl, rfl, rfl, rfl, rfl, rfl⟩
  · obtain ⟨s4, s5, s6, s7, s8, s9, d4, d5, d6, d7, d8, d9, rfl⟩ := h
    simp only [tdR, tdN, tdSq, tdE, tdIf, tdSet, tdF, tdRO, tdAsg, tdSub, tdAug, tdAugS, tdApp, tdPar, tdPar3, tdRaise, tV, tBo, tK, t2, t1, kI, kU, kEq, kEqS, kN, kIx, kST, kSL, kRv, kRvT, kCL, kCT, kRL, kRT, tCh, tTe, tNo, tAn, tOr', tAnV, DL.tOrV, kNo, tIfE, taC, tTp, tLs, tBi, kLen, kAbs, kMM, kInt, kTupc, kLisc, tSc, toN, toS, tOf, gNm, gNl, gCs, gTu, kIsi, kMn, kMx, kRp, tFz, tiS, tiO, tiR1, tiR2, tiRd, tiE, tCal, tCalB, startD, DL.startB, noIo_eq, nio_d, nio_un, nio_own, asD_d, asD_own, asD_io, CT, CNz, tYesD, ex0, tdFor, tdLc, wipeD, isDat_eq, dat_d, dat_un, Owns, setO, List.map_cons, List.map_nil, List.cons_append, List.nil_append, List.length_cons, List.length_nil, List.replicate, List.replicate_succ, List.replicate_zero, List.getElem?_cons_zero, List.getElem?_cons_succ, List.set_cons_zero, List.set_cons_succ, Option.some.injEq, SV.d.injEq, SV.own.injEq, SV.io.injEq, PyData.int.injEq, PyData.str.injEq, PyData.bool.injEq, PyData.tuple.injEq, PyData.list.injEq, exists_eq_left', exists_eq_left, exists_eq_right, exists_eq_right', exists_and_left, true_and, and_true, if_true, if_false, id, reduceCtorEq, false_or, or_false, exists_false, List.cons.injEq, and_self, SV.d.injEq, Nat.reduceAdd, Nat.reduceSub, ite_true, ite_false, decide_eq_true_eq, Bool.false_eq_true, exists_const, decide_true, decide_false, List.forall_mem_cons, List.forall_mem_nil, Bool.not_true, Bool.not_false, Bool.not_eq_true, Nat.reduceLT, forall_const, implies_true, and_assoc, true_or, or_true, List.not_mem_nil, false_implies, Int.natCast_inj, not_true_eq_false, not_false_eq_true, and_false, false_and, po, map_fr_inj, fr_inj, shP, eqP, eqP0, sh0, shF, eqF, List.length_map, rngD_len, sp_trimmed]
    exact ⟨by rw [sizeLine_eq]; decide, q⟩
end
end K70
namespace K70
open PySem PySem.Spec L2 DL
open PyProof.Rows hiding St

section
variable {w : World} {K : PySem.W.Frag} {mg : Str → Option Value} {base : Heap} {CN : Addr}

open PM
def sp_with_unit : SpD := fun ds Q _ => ∃ (l : List Rat) (h : Nat), ds = [po l] ∧ Tr l ∧ Hb h l ∧ h ≤ 60000000 ∧ l.length ≤ 1000 ∧ Q (.d (po (unit l)))
def sp_common : SpD := fun ds Q _ => ∃ (l m : List Rat) (h : Nat), ds = [po l, po m] ∧ Tr l ∧ Tr m ∧ Hb h l ∧ Hb h m ∧ (h + 1) * wt l.length m.length ≤ 60000000 ∧ l.length ≤ 1000 ∧ m.length ≤ 1000 ∧ Q (.d (po (com m.length l m)))
def sp_value_at : SpD := fun ds Q _ => ∃ (l : List Rat) (c : Rat), ds = [po l, fr c] ∧ SmL l ∧ Sm c ∧ (∀ i, Sm (ev (l.drop i) c) ∧ Sm (ev (l.drop i) c * c)) ∧ Q (.d (fr (ev l c)))
def sp_derived : SpD := fun ds Q _ => ∃ (l : List Rat), ds = [po l] ∧ SmL l ∧ l.length ≤ 1000 ∧ Q (.d (po (der l)))
def sp_turned : SpD := fun ds Q _ => ∃ (l : List Rat), ds = [po l] ∧ Q (.d (po (trim l.reverse)))
def sp_lowest : SpD := fun ds Q _ => ∃ (l : List Rat) (k : Nat), ds = [po l] ∧ l.length ≤ 1000 ∧ k < l.length ∧ at0 l k ≠ 0 ∧ (∀ j, j < k → at0 l j = 0) ∧ Q (.d (.int k))
theorem fr_int (i : Int) : PyData.tuple [.int i, .int 1] = fr (i : Rat) := rfl
theorem tup_fr (i : Int) (q : Rat) : (PyData.tuple [.int i, .int 1] = fr q) = ((i : Rat) = q) := by rw [fr_int]; exact propext fr_inj
theorem sc_with_unit : FnScope ["poly"] ["poly"] (defScope s_with_unit) := ⟨rfl, rfl, rfl, by decide +kernel, rfl, by decide +kernel, by decide +kernel⟩
theorem ok_with_unit (T : Txt K mg CN) (hS : base.NoSeer) : FnD pw w K mg base "with_unit" 42 ["poly"] sp_with_unit := by
  have F_over_by := ok_over_by (w := w) T hS
  have F_scaled := ok_scaled (w := w) T hS
  refine okD (k := 41) T.f_with_unit sc_with_unit (fun _ _ _ _ _ _ us hl => match us, hl with | [_], _ => rfl) fun f cdv A outer s H E hr => ?_
  have hu := hr.units
  refine ⟨_, (done1 (dret (dif (dteq hu (DE.b (dv 0)) (DE.b (dtup danil))) (dtup danil) (dcall F_scaled (hr.mono (by decide)) (dacons (dv 0) (dacons (dcall F_over_by (hr.mono (by decide)) (dacons (dcon T.c_UNIT) (dacons (dix (DE.b (dv 0)) (DE.b (dneg (DE.b dint)))) danil))) danil)))))), fun ds Q X h hl => ?_⟩
  obtain ⟨l, a, rfl, tl, h1, h2, h3, q⟩ := h
  simp only [tdR, tdN, tdSq, tdE, tdIf, tdSet, tdF, tdRO, tdAsg, tdSub, tdAug, tdAugS, tdApp, tdPar, tdPar3, tdRaise, tV, tBo, tK, t2, t1, kI, kU, kEq, kEqS, kN, kIx, kST, kSL, kRv, kRvT, kCL, kCT, kRL, kRT, tCh, tTe, tNo, tAn, tOr', tAnV, DL.tOrV, kNo, tIfE, taC, tTp, tLs, tBi, kLen, kAbs, kMM, kInt, kTupc, kLisc, tSc, toN, toS, tOf, gNm, gNl, gCs, gTu, kIsi, kMn, kMx, kRp, tFz, tiS, tiO, tiR1, tiR2, tiRd, tiE, tCal, tCalB, startD, DL.startB, noIo_eq, nio_d, nio_un, nio_own, asD_d, asD_own, asD_io, CT, CNz, tYesD, ex0, tdFor, tdLc, wipeD, isDat_eq, dat_d, dat_un, Owns, setO, List.map_cons, List.map_nil, List.cons_append, List.nil_append, List.length_cons, List.length_nil, List.replicate, List.replicate_succ, List.replicate_zero, List.getElem?_cons_zero, List.getElem?_cons_succ, List.set_cons_zero, List.set_cons_succ, Option.some.injEq, SV.d.injEq, SV.own.injEq, SV.io.injEq, PyData.int.injEq, PyData.str.injEq, PyData.bool.injEq, PyData.tuple.injEq, PyData.list.injEq, exists_eq_left', exists_eq_left, exists_eq_right, exists_eq_right', exists_and_left, true_and, and_true, if_true, if_false, id, reduceCtorEq, false_or, or_false, exists_false, List.cons.injEq, and_self, SV.d.injEq, Nat.reduceAdd, Nat.reduceSub, ite_true, ite_false, decide_eq_true_eq, Bool.false_eq_true, exists_const, decide_true, decide_false, List.forall_mem_cons, List.forall_mem_nil, Bool.not_true, Bool.not_false, Bool.not_eq_true, Nat.reduceLT, forall_const, implies_true, and_assoc, true_or, or_true, List.not_mem_nil, false_implies, Int.natCast_inj, not_true_eq_false, not_false_eq_true, and_false, false_and, po, map_fr_inj, fr_inj, shP, eqP, eqP0, sh0, shF, eqF, List.length_map]
  refine ⟨Nat.zero_le _, ?_⟩
  by_cases hl : l = []
  · rw [if_pos hl]; subst hl; exact ⟨Nat.zero_le _, q⟩
  · rw [if_neg hl, atI_back hl]
    have lead : at0 l (l.length - 1) ≠ 0 := by rw [at0_last hl]; exact tl.last hl
    have iv := (unit_sz tl hl h1).1
    simp only [tdR, tdN, tdSq, tdE, tdIf, tdSet, tdF, tdRO, tdAsg, tdSub, tdAug, tdAugS, tdApp, tdPar, tdPar3, tdRaise, tV, tBo, tK, t2, t1, kI, kU, kEq, kEqS, kN, kIx, kST, kSL, kRv, kRvT, kCL, kCT, kRL, kRT, tCh, tTe, tNo, tAn, tOr', tAnV, DL.tOrV, kNo, tIfE, taC, tTp, tLs, tBi, kLen, kAbs, kMM, kInt, kTupc, kLisc, tSc, toN, toS, tOf, gNm, gNl, gCs, gTu, kIsi, kMn, kMx, kRp, tFz, tiS, tiO, tiR1, tiR2, tiRd, tiE, tCal, tCalB, startD, DL.startB, noIo_eq, nio_d, nio_un, nio_own, asD_d, asD_own, asD_io, CT, CNz, tYesD, ex0, tdFor, tdLc, wipeD, isDat_eq, dat_d, dat_un, Owns, setO, List.map_cons, List.map_nil, List.cons_append, List.nil_append, List.length_cons, List.length_nil, List.replicate, List.replicate_succ, List.replicate_zero, List.getElem?_cons_zero, List.getElem?_cons_succ, List.set_cons_zero, List.set_cons_succ, Option.some.injEq, SV.d.injEq, SV.own.injEq, SV.io.injEq, PyData.int.injEq, PyData.str.injEq, PyData.bool.injEq, PyData.tuple.injEq, PyData.list.injEq, exists_eq_left', exists_eq_left, exists_eq_right, exists_eq_right', exists_and_left, true_and, and_true, if_true, if_false, id, reduceCtorEq, false_or, or_false, exists_false, List.cons.injEq, and_self, SV.d.injEq, Nat.reduceAdd, Nat.reduceSub, ite_true, ite_false, decide_eq_true_eq, Bool.false_eq_true, exists_const, decide_true, decide_false, List.forall_mem_cons, List.forall_mem_nil, Bool.not_true, Bool.not_false, Bool.not_eq_true, Nat.reduceLT, forall_const, implies_true, and_assoc, true_or, or_true, List.not_mem_nil, false_implies, Int.natCast_inj, not_true_eq_false, not_false_eq_true, and_false, false_and, po, map_fr_inj, fr_inj, shP, eqP, eqP0, sh0, shF, eqF, List.length_map, sp_over_by, sp_scaled]
    refine ⟨sm_one, hb_smL h1 h2 _, lead, hb_smL h1 h2, sz_sm iv h2, h3, ?_⟩
    have e : (1 / at0 l (l.length - 1)) = inv l := rfl
    rw [e, if_neg (inv_ne tl hl)]
    exact q
theorem sc_common : FnScope ["one", "other"] ["one", "other"] (defScope s_common) := ⟨rfl, rfl, rfl, by decide +kernel, rfl, by decide +kernel, by decide +kernel⟩
theorem ok_common (T : Txt K mg CN) (hS : base.NoSeer) : FnD pw w K mg base "common" 43 ["one", "other"] sp_common := by
  have F_divided := ok_divided (w := w) T hS
  have F_with_unit := ok_with_unit (w := w) T hS
  refine okD (k := 42) T.f_common sc_common (fun _ _ _ _ _ _ us hl => match us, hl with | [_, _], _ => rfl) fun f cdv A outer s H E hr => ?_
  have hu := hr.units
  refine ⟨_, (dcons (dwhile (passes_of rfl) (dtne hu (DE.b (dv 1)) (DE.b (dtup danil))) (done1 (dpar 0 1 rfl sc_common.nd (dv 1) (dcall F_with_unit (hr.mono (by decide)) (dacons (dix (DE.b (dcall F_divided (hr.mono (by decide)) (dacons (dv 0) (dacons (dv 1) danil)))) (DE.b dint)) danil)))))
      (done1 (dret (dcall F_with_unit (hr.mono (by decide)) (dacons (dv 0) danil))))), fun ds Q X h hl => ?_⟩
  obtain ⟨l, m, a, rfl, tl, tm, h1, h2, h3, h4, h5, q⟩ := h
  simp only [tdR, tdN, tdSq, tdE, tdIf, tdSet, tdF, tdRO, tdAsg, tdSub, tdAug, tdAugS, tdApp, tdPar, tdPar3, tdRaise, tV, tBo, tK, t2, t1, kI, kU, kEq, kEqS, kN, kIx, kST, kSL, kRv, kRvT, kCL, kCT, kRL, kRT, tCh, tTe, tNo, tAn, tOr', tAnV, DL.tOrV, kNo, tIfE, taC, tTp, tLs, tBi, kLen, kAbs, kMM, kInt, kTupc, kLisc, tSc, toN, toS, tOf, gNm, gNl, gCs, gTu, kIsi, kMn, kMx, kRp, tFz, tiS, tiO, tiR1, tiR2, tiRd, tiE, tCal, tCalB, startD, DL.startB, noIo_eq, nio_d, nio_un, nio_own, asD_d, asD_own, asD_io, CT, CNz, tYesD, ex0, tdFor, tdLc, wipeD, isDat_eq, dat_d, dat_un, Owns, setO, List.map_cons, List.map_nil, List.cons_append, List.nil_append, List.length_cons, List.length_nil, List.replicate, List.replicate_succ, List.replicate_zero, List.getElem?_cons_zero, List.getElem?_cons_succ, List.set_cons_zero, List.set_cons_succ, Option.some.injEq, SV.d.injEq, SV.own.injEq, SV.io.injEq, PyData.int.injEq, PyData.str.injEq, PyData.bool.injEq, PyData.tuple.injEq, PyData.list.injEq, exists_eq_left', exists_eq_left, exists_eq_right, exists_eq_right', exists_and_left, true_and, and_true, if_true, if_false, id, reduceCtorEq, false_or, or_false, exists_false, List.cons.injEq, and_self, SV.d.injEq, Nat.reduceAdd, Nat.reduceSub, ite_true, ite_false, decide_eq_true_eq, Bool.false_eq_true, exists_const, decide_true, decide_false, List.forall_mem_cons, List.forall_mem_nil, Bool.not_true, Bool.not_false, Bool.not_eq_true, Nat.reduceLT, forall_const, implies_true, and_assoc, true_or, or_true, List.not_mem_nil, false_implies, Int.natCast_inj, not_true_eq_false, not_false_eq_true, and_false, false_and, po, map_fr_inj, fr_inj, shP, eqP, eqP0, sh0, shF, eqF, List.length_map]
  refine ⟨fun k δ => ∃ l' m' : List Rat, δ = [.d (.tuple (l'.map fr)), .d (.tuple (m'.map fr))] ∧ k = m'.length ∧ Tr l' ∧ Tr m' ∧ l'.length ≤ 1000 ∧ m'.length ≤ 1000 ∧ com m'.length l' m' = com m.length l m ∧ ∃ h', Hb h' l' ∧ Hb h' m' ∧ (h' + 1) * wt l'.length m'.length ≤ 60000000, ⟨_, l, m, rfl, rfl, tl, tm, h4, h5, rfl, a, h1, h2, h3⟩, fun k δ h => ?_⟩
  obtain ⟨l', m', rfl, rfl, tl, tm, h4, h5, e, b, h1, h2, h3⟩ := h
  simp only [tdR, tdN, tdSq, tdE, tdIf, tdSet, tdF, tdRO, tdAsg, tdSub, tdAug, tdAugS, tdApp, tdPar, tdPar3, tdRaise, tV, tBo, tK, t2, t1, kI, kU, kEq, kEqS, kN, kIx, kST, kSL, kRv, kRvT, kCL, kCT, kRL, kRT, tCh, tTe, tNo, tAn, tOr', tAnV, DL.tOrV, kNo, tIfE, taC, tTp, tLs, tBi, kLen, kAbs, kMM, kInt, kTupc, kLisc, tSc, toN, toS, tOf, gNm, gNl, gCs, gTu, kIsi, kMn, kMx, kRp, tFz, tiS, tiO, tiR1, tiR2, tiRd, tiE, tCal, tCalB, startD, DL.startB, noIo_eq, nio_d, nio_un, nio_own, asD_d, asD_own, asD_io, CT, CNz, tYesD, ex0, tdFor, tdLc, wipeD, isDat_eq, dat_d, dat_un, Owns, setO, List.map_cons, List.map_nil, List.cons_append, List.nil_append, List.length_cons, List.length_nil, List.replicate, List.replicate_succ, List.replicate_zero, List.getElem?_cons_zero, List.getElem?_cons_succ, List.set_cons_zero, List.set_cons_succ, Option.some.injEq, SV.d.injEq, SV.own.injEq, SV.io.injEq, PyData.int.injEq, PyData.str.injEq, PyData.bool.injEq, PyData.tuple.injEq, PyData.list.injEq, exists_eq_left', exists_eq_left, exists_eq_right, exists_eq_right', exists_and_left, true_and, and_true, if_true, if_false, id, reduceCtorEq, false_or, or_false, exists_false, List.cons.injEq, and_self, SV.d.injEq, Nat.reduceAdd, Nat.reduceSub, ite_true, ite_false, decide_eq_true_eq, Bool.false_eq_true, exists_const, decide_true, decide_false, List.forall_mem_cons, List.forall_mem_nil, Bool.not_true, Bool.not_false, Bool.not_eq_true, Nat.reduceLT, forall_const, implies_true, and_assoc, true_or, or_true, List.not_mem_nil, false_implies, Int.natCast_inj, not_true_eq_false, not_false_eq_true, and_false, false_and, po, map_fr_inj, fr_inj, shP, eqP, eqP0, sh0, shF, eqF, List.length_map]
  by_cases hm : m' = []
  · subst hm
    rw [decide_eq_true rfl, if_neg (by decide)]
    simp only [sp_with_unit, po, map_fr_inj, fr_inj, shP, eqP, eqP0, sh0, shF, eqF, List.length_map]
    have : b ≤ 60000000 := by
      have := Nat.mul_le_mul_left (b + 1) (wt_pos l'.length ([] : List Rat).length)
      omega
    refine ⟨Nat.zero_le _, l', b, rfl, tl, h1, this, h4, ?_⟩
    rw [← com_stop, e]; exact q
  · rw [decide_eq_false hm, if_pos (by decide)]
    have lr := (div_ok (l := l') tm hm).2
    have ws := wt_step (a := l'.length) (b := m'.length) (c := (rem l' m').length) (h := b) lr
    have w0 := wt_pos m'.length (rem l' m').length
    have big : b + (l'.length + 1 - m'.length) * (b + 1) + 1 ≤ 60000000 := by
      have := Nat.mul_le_mul_left (b + (l'.length + 1 - m'.length) * (b + 1) + 1) w0
      omega
    have rz := rem_sz tm hm h1 h2
    simp only [sp_divided, po, map_fr_inj, fr_inj, shP, eqP, eqP0, sh0, shF, eqF, List.length_map, List.map_cons, List.map_nil, List.cons_append, List.nil_append, List.length_cons, List.length_nil, List.replicate, List.replicate_succ, List.replicate_zero, List.getElem?_cons_zero, List.getElem?_cons_succ, List.set_cons_zero, List.set_cons_succ, Option.some.injEq, SV.d.injEq, SV.own.injEq, SV.io.injEq, PyData.int.injEq, PyData.str.injEq, PyData.bool.injEq, PyData.tuple.injEq, PyData.list.injEq, exists_eq_left', exists_eq_left, exists_eq_right, exists_eq_right', exists_and_left, true_and, and_true, if_true, if_false, id, reduceCtorEq, false_or, or_false, exists_false, List.cons.injEq, and_self, SV.d.injEq, Nat.reduceAdd, Nat.reduceSub, ite_true, ite_false, decide_eq_true_eq, Bool.false_eq_true, exists_const, decide_true, decide_false, List.forall_mem_cons, List.forall_mem_nil, Bool.not_true, Bool.not_false, Bool.not_eq_true, Nat.reduceLT, forall_const, implies_true, and_assoc, true_or, or_true, List.not_mem_nil, false_implies, Int.natCast_inj, not_true_eq_false, not_false_eq_true, and_false, false_and]
    refine ⟨Nat.zero_le _, fun z => absurd z hm, b, b, fun _ => ⟨tm, h1, h2, by omega, h4, h5, ?_⟩⟩
    simp only [tdR, tdN, tdSq, tdE, tdIf, tdSet, tdF, tdRO, tdAsg, tdSub, tdAug, tdAugS, tdApp, tdPar, tdPar3, tdRaise, tV, tBo, tK, t2, t1, kI, kU, kEq, kEqS, kN, kIx, kST, kSL, kRv, kRvT, kCL, kCT, kRL, kRT, tCh, tTe, tNo, tAn, tOr', tAnV, DL.tOrV, kNo, tIfE, taC, tTp, tLs, tBi, kLen, kAbs, kMM, kInt, kTupc, kLisc, tSc, toN, toS, tOf, gNm, gNl, gCs, gTu, kIsi, kMn, kMx, kRp, tFz, tiS, tiO, tiR1, tiR2, tiRd, tiE, tCal, tCalB, startD, DL.startB, noIo_eq, nio_d, nio_un, nio_own, asD_d, asD_own, asD_io, CT, CNz, tYesD, ex0, tdFor, tdLc, wipeD, isDat_eq, dat_d, dat_un, Owns, setO, List.map_cons, List.map_nil, List.cons_append, List.nil_append, List.length_cons, List.length_nil, List.replicate, List.replicate_succ, List.replicate_zero, List.getElem?_cons_zero, List.getElem?_cons_succ, List.set_cons_zero, List.set_cons_succ, Option.some.injEq, SV.d.injEq, SV.own.injEq, SV.io.injEq, PyData.int.injEq, PyData.str.injEq, PyData.bool.injEq, PyData.tuple.injEq, PyData.list.injEq, exists_eq_left', exists_eq_left, exists_eq_right, exists_eq_right', exists_and_left, true_and, and_true, if_true, if_false, id, reduceCtorEq, false_or, or_false, exists_false, List.cons.injEq, and_self, SV.d.injEq, Nat.reduceAdd, Nat.reduceSub, ite_true, ite_false, decide_eq_true_eq, Bool.false_eq_true, exists_const, decide_true, decide_false, List.forall_mem_cons, List.forall_mem_nil, Bool.not_true, Bool.not_false, Bool.not_eq_true, Nat.reduceLT, forall_const, implies_true, and_assoc, true_or, or_true, List.not_mem_nil, false_implies, Int.natCast_inj, not_true_eq_false, not_false_eq_true, and_false, false_and, po, map_fr_inj, fr_inj, shP, eqP, eqP0, sh0, shF, eqF, List.length_map, at1_, sp_with_unit]
    refine ⟨rem_tr, _, rz, by omega, by omega, (unit (rem l' m')).length, by rw [unit_len]; exact lr, rfl, tm, unit_tr rem_tr, h5, by rw [unit_len]; omega, ?_, _, h2.mono (by omega), unit_hb rem_tr rz, ?_⟩
    · rw [← com_step tm hm]; exact e
    · rw [unit_len]; exact Nat.le_trans ws h3
theorem cut_drop1 (xs : List D) : DL.cutD xs (some 1) none = xs.drop 1 := by
  unfold DL.cutD
  have e0 : HT.sIx xs.length 0 (some 1) = min 1 xs.length := by
    unfold HT.sIx
    simp only
    rw [if_neg (by omega)]
    omega
  have e : HT.sIx xs.length xs.length none = xs.length := rfl
  rw [e, e0]
  cases xs with
  | nil => rfl
  | cons a l =>
    rw [List.length_cons, show min 1 (l.length + 1) = 1 by omega, List.drop_succ_cons, List.drop_zero, show l.length + 1 - 1 = l.length by omega, List.take_length]
theorem rev_get {l : List Rat} {i : Nat} {x : D} (h : (l.map fr).reverse[i]? = some x) : i < l.length ∧ x = fr (at0 l (l.length - 1 - i)) := by
  have hi : i < l.length := by
    have := lt_of_get h
    simpa using this
  rw [List.getElem?_reverse (by rw [List.length_map]; exact hi), List.length_map, List.getElem?_map, List.getElem?_eq_getElem (by omega)] at h
  refine ⟨hi, ?_⟩
  unfold at0
  rw [List.getElem?_eq_getElem (by omega)]
  exact (Option.some.inj h).symm
theorem ev_drop {l : List Rat} {i : Nat} (h : i < l.length) (c : Rat) : ev (l.drop i) c = at0 l i + c * ev (l.drop (i + 1)) c := by
  rw [List.drop_eq_getElem_cons h, ev]
  unfold at0
  rw [List.getElem?_eq_getElem h]; rfl
def nzs (l : List Rat) (i : Nat) : List Nat := (List.range i).filter fun j => decide (at0 l j ≠ 0)
theorem nzs_succ (l : List Rat) (i : Nat) : nzs l (i + 1) = nzs l i ++ if at0 l i = 0 then [] else [i] := by
  unfold nzs
  rw [List.range_succ, List.filter_append]
  congr 1
  by_cases h : at0 l i = 0
  · rw [if_pos h, List.filter_cons, if_neg (by simp [h])]; rfl
  · rw [if_neg h, List.filter_cons, if_pos (by simp [h])]; rfl
theorem nzs_len (l : List Rat) (i : Nat) : (nzs l i).length ≤ i := by
  unfold nzs
  refine Nat.le_trans (List.length_filter_le _ _) ?_
  rw [List.length_range]; exact Nat.le_refl _
theorem nzs_head {l : List Rat} {k : Nat} (h3 : at0 l k ≠ 0) (h4 : ∀ j, j < k → at0 l j = 0) : ∀ n, k < n → ∃ r, nzs l n = k :: r := by
  have z : ∀ i, i ≤ k → nzs l i = [] := by
    intro i
    induction i with
    | zero => intro _; rfl
    | succ i ih => intro hi; rw [nzs_succ, ih (by omega), if_pos (h4 i (by omega))]; rfl
  intro n hn
  induction n with
  | zero => omega
  | succ n ih =>
    rw [nzs_succ]
    by_cases e : n = k
    · subst e; rw [z n (Nat.le_refl _), if_neg h3]; exact ⟨[], rfl⟩
    · obtain ⟨r, hr⟩ := ih (by omega)
      rw [hr]; exact ⟨_, rfl⟩
theorem canI : ∀ l : List Nat, PyData.canLayAll0 (l.map fun (i : Nat) => PyData.int (i : Int)) = true
  | [] => rfl
  | a :: l => by rw [List.map_cons, PyData.canLayAll0, canI l]; rfl
theorem depI : ∀ l : List Nat, PyData.depthAll (l.map fun (i : Nat) => PyData.int (i : Int)) = 0
  | [] => by simp [PyData.depthAll]
  | a :: l => by rw [List.map_cons, PyData.depthAll, depI l]; rfl
theorem shLI (l : List Nat) : SeqAt.shaped (.list (l.map fun (i : Nat) => PyData.int (i : Int))) = true := by
  unfold SeqAt.shaped
  rw [Bool.and_eq_true]
  refine ⟨canI l, decide_eq_true ?_⟩
  show PyData.depthAll _ + 1 ≤ 64
  rw [depI]; decide
theorem sc_value_at : FnScope ["poly", "fraction", "found", "one"] ["poly", "fraction"] (defScope s_value_at) := ⟨rfl, rfl, rfl, by decide +kernel, rfl, by decide +kernel, by decide +kernel⟩
theorem ok_value_at (T : Txt K mg CN) (hS : base.NoSeer) : FnD pw w K mg base "value_at" 41 ["poly", "fraction"] sp_value_at := by
  have F_plus := ok_plus (w := w) T hS
  have F_times := ok_times (w := w) T hS
  refine okD (k := 40) T.f_value_at sc_value_at (fun _ _ _ _ _ _ us hl => match us, hl with | [_, _], _ => rfl) fun f cdv A outer s H E hr => ?_
  refine ⟨_, (dcons (dset 2 sc_value_at.nd (dcon T.c_NIL))
      (dcons (dfor (passes_of rfl) rfl (diS (drevT (DE.b (dv 0)))) (dgn 3 sc_value_at.nd) (done1 (dset 2 sc_value_at.nd (dcall F_plus (hr.mono (by decide)) (dacons (dcall F_times (hr.mono (by decide)) (dacons (dv 2) (dacons (dv 1) danil))) (dacons (dv 3) danil))))))
      (done1 (dret (dv 2))))), fun ds Q X h hl => ?_⟩
  obtain ⟨l, c, rfl, h1, h2, h3, q⟩ := h
  simp only [tdR, tdN, tdSq, tdE, tdIf, tdSet, tdF, tdRO, tdAsg, tdSub, tdAug, tdAugS, tdApp, tdPar, tdPar3, tdRaise, tV, tBo, tK, t2, t1, kI, kU, kEq, kEqS, kN, kIx, kST, kSL, kRv, kRvT, kCL, kCT, kRL, kRT, tCh, tTe, tNo, tAn, tOr', tAnV, DL.tOrV, kNo, tIfE, taC, tTp, tLs, tBi, kLen, kAbs, kMM, kInt, kTupc, kLisc, tSc, toN, toS, tOf, gNm, gNl, gCs, gTu, kIsi, kMn, kMx, kRp, tFz, tiS, tiO, tiR1, tiR2, tiRd, tiE, tCal, tCalB, startD, DL.startB, noIo_eq, nio_d, nio_un, nio_own, asD_d, asD_own, asD_io, CT, CNz, tYesD, ex0, tdFor, tdLc, wipeD, isDat_eq, dat_d, dat_un, Owns, setO, List.map_cons, List.map_nil, List.cons_append, List.nil_append, List.length_cons, List.length_nil, List.replicate, List.replicate_succ, List.replicate_zero, List.getElem?_cons_zero, List.getElem?_cons_succ, List.set_cons_zero, List.set_cons_succ, Option.some.injEq, SV.d.injEq, SV.own.injEq, SV.io.injEq, PyData.int.injEq, PyData.str.injEq, PyData.bool.injEq, PyData.tuple.injEq, PyData.list.injEq, exists_eq_left', exists_eq_left, exists_eq_right, exists_eq_right', exists_and_left, true_and, and_true, if_true, if_false, id, reduceCtorEq, false_or, or_false, exists_false, List.cons.injEq, and_self, SV.d.injEq, Nat.reduceAdd, Nat.reduceSub, ite_true, ite_false, decide_eq_true_eq, Bool.false_eq_true, exists_const, decide_true, decide_false, List.forall_mem_cons, List.forall_mem_nil, Bool.not_true, Bool.not_false, Bool.not_eq_true, Nat.reduceLT, forall_const, implies_true, and_assoc, true_or, or_true, List.not_mem_nil, false_implies, Int.natCast_inj, not_true_eq_false, not_false_eq_true, and_false, false_and, po, map_fr_inj, fr_inj, shP, eqP, eqP0, sh0, shF, eqF, List.length_map]
  refine ⟨rfl, fun i δ => ∃ s3, dat s3 ∧ δ = [.d (.tuple (l.map fr)), .d (fr c), .d (fr (ev (l.drop (l.length - i)) c)), s3], ⟨.un, trivial, by rw [Nat.sub_zero, List.drop_length]; rfl⟩, fun i x δ hx h => ?_, fun δ h => ?_⟩
  · obtain ⟨hi, rfl⟩ := rev_get hx
    obtain ⟨s3, d3, rfl⟩ := h
    have n3 := dat_nio d3
    simp only [tdR, tdN, tdSq, tdE, tdIf, tdSet, tdF, tdRO, tdAsg, tdSub, tdAug, tdAugS, tdApp, tdPar, tdPar3, tdRaise, tV, tBo, tK, t2, t1, kI, kU, kEq, kEqS, kN, kIx, kST, kSL, kRv, kRvT, kCL, kCT, kRL, kRT, tCh, tTe, tNo, tAn, tOr', tAnV, DL.tOrV, kNo, tIfE, taC, tTp, tLs, tBi, kLen, kAbs, kMM, kInt, kTupc, kLisc, tSc, toN, toS, tOf, gNm, gNl, gCs, gTu, kIsi, kMn, kMx, kRp, tFz, tiS, tiO, tiR1, tiR2, tiRd, tiE, tCal, tCalB, startD, DL.startB, noIo_eq, nio_d, nio_un, nio_own, asD_d, asD_own, asD_io, CT, CNz, tYesD, ex0, tdFor, tdLc, wipeD, isDat_eq, dat_d, dat_un, Owns, setO, List.map_cons, List.map_nil, List.cons_append, List.nil_append, List.length_cons, List.length_nil, List.replicate, List.replicate_succ, List.replicate_zero, List.getElem?_cons_zero, List.getElem?_cons_succ, List.set_cons_zero, List.set_cons_succ, Option.some.injEq, SV.d.injEq, SV.own.injEq, SV.io.injEq, PyData.int.injEq, PyData.str.injEq, PyData.bool.injEq, PyData.tuple.injEq, PyData.list.injEq, exists_eq_left', exists_eq_left, exists_eq_right, exists_eq_right', exists_and_left, true_and, and_true, if_true, if_false, id, reduceCtorEq, false_or, or_false, exists_false, List.cons.injEq, and_self, SV.d.injEq, Nat.reduceAdd, Nat.reduceSub, ite_true, ite_false, decide_eq_true_eq, Bool.false_eq_true, exists_const, decide_true, decide_false, List.forall_mem_cons, List.forall_mem_nil, Bool.not_true, Bool.not_false, Bool.not_eq_true, Nat.reduceLT, forall_const, implies_true, and_assoc, true_or, or_true, List.not_mem_nil, false_implies, Int.natCast_inj, not_true_eq_false, not_false_eq_true, and_false, false_and, po, map_fr_inj, fr_inj, shP, eqP, eqP0, sh0, shF, eqF, List.length_map, n3, sp_times, sp_plus]
    have e := ev_drop (l := l) (i := l.length - 1 - i) (by omega) c
    have e1 : l.length - 1 - i + 1 = l.length - i := by omega
    have e2 : l.length - (i + 1) = l.length - 1 - i := by omega
    rw [e1] at e
    refine ⟨(h3 _).1, h2, (h3 _).2, h1 _, .d (fr (at0 l (l.length - 1 - i))), trivial, ?_, rfl⟩
    rw [e2, e]; grind
  · obtain ⟨s3, d3, rfl⟩ := h
    simp only [tdR, tdN, tdSq, tdE, tdIf, tdSet, tdF, tdRO, tdAsg, tdSub, tdAug, tdAugS, tdApp, tdPar, tdPar3, tdRaise, tV, tBo, tK, t2, t1, kI, kU, kEq, kEqS, kN, kIx, kST, kSL, kRv, kRvT, kCL, kCT, kRL, kRT, tCh, tTe, tNo, tAn, tOr', tAnV, DL.tOrV, kNo, tIfE, taC, tTp, tLs, tBi, kLen, kAbs, kMM, kInt, kTupc, kLisc, tSc, toN, toS, tOf, gNm, gNl, gCs, gTu, kIsi, kMn, kMx, kRp, tFz, tiS, tiO, tiR1, tiR2, tiRd, tiE, tCal, tCalB, startD, DL.startB, noIo_eq, nio_d, nio_un, nio_own, asD_d, asD_own, asD_io, CT, CNz, tYesD, ex0, tdFor, tdLc, wipeD, isDat_eq, dat_d, dat_un, Owns, setO, List.map_cons, List.map_nil, List.cons_append, List.nil_append, List.length_cons, List.length_nil, List.replicate, List.replicate_succ, List.replicate_zero, List.getElem?_cons_zero, List.getElem?_cons_succ, List.set_cons_zero, List.set_cons_succ, Option.some.injEq, SV.d.injEq, SV.own.injEq, SV.io.injEq, PyData.int.injEq, PyData.str.injEq, PyData.bool.injEq, PyData.tuple.injEq, PyData.list.injEq, exists_eq_left', exists_eq_left, exists_eq_right, exists_eq_right', exists_and_left, true_and, and_true, if_true, if_false, id, reduceCtorEq, false_or, or_false, exists_false, List.cons.injEq, and_self, SV.d.injEq, Nat.reduceAdd, Nat.reduceSub, ite_true, ite_false, decide_eq_true_eq, Bool.false_eq_true, exists_const, decide_true, decide_false, List.forall_mem_cons, List.forall_mem_nil, Bool.not_true, Bool.not_false, Bool.not_eq_true, Nat.reduceLT, forall_const, implies_true, and_assoc, true_or, or_true, List.not_mem_nil, false_implies, Int.natCast_inj, not_true_eq_false, not_false_eq_true, and_false, false_and, po, map_fr_inj, fr_inj, shP, eqP, eqP0, sh0, shF, eqF, List.length_map, List.length_reverse, Nat.sub_self, List.drop_zero]
    exact q
theorem sc_derived : FnScope ["poly", "power", "one"] ["poly"] (defScope s_derived) := ⟨rfl, rfl, rfl, by decide +kernel, rfl, by decide +kernel, by decide +kernel⟩
theorem ok_derived (T : Txt K mg CN) (hS : base.NoSeer) : FnD pw w K mg base "derived" 41 ["poly"] sp_derived := by
  have F_times := ok_times (w := w) T hS
  have F_trimmed := ok_trimmed (w := w) T hS
  refine okD (k := 40) T.f_derived sc_derived (fun _ _ _ _ _ _ us hl => match us, hl with | [_], _ => rfl) fun f cdv A outer s H E hr => ?_
  refine ⟨_, (done1 (dret (dcall F_trimmed (hr.mono (by decide)) (dacons (dslL (DE.b (dlc (own := [("power", 1), ("one", 2)]) rfl sc_derived.nd (diE (by rfl) T.b_enumerate (dab1 (DE.b (dv 0)))) (blkOk_by (by kernel_rfl)) (by decide) (fun _ _ _ _ _ => (dgtup (n := 2) rfl (dgcons (dgn 1 sc_derived.nd) (dgcons (dgn 2 sc_derived.nd) dgnil)))) (fun _ _ _ _ _ => (dptN)) (fun _ _ _ _ _ => (dcall F_times (hr.mono (by decide)) (dacons (dtup (dacons (dv 1) (dacons dint danil))) (dacons (dv 2) danil)))))) (dos (DE.b dint)) don) danil)))), fun ds Q X h hl => ?_⟩
  obtain ⟨l, rfl, h1, h2, q⟩ := h
  simp only [tdR, tdN, tdSq, tdE, tdIf, tdSet, tdF, tdRO, tdAsg, tdSub, tdAug, tdAugS, tdApp, tdPar, tdPar3, tdRaise, tV, tBo, tK, t2, t1, kI, kU, kEq, kEqS, kN, kIx, kST, kSL, kRv, kRvT, kCL, kCT, kRL, kRT, tCh, tTe, tNo, tAn, tOr', tAnV, DL.tOrV, kNo, tIfE, taC, tTp, tLs, tBi, kLen, kAbs, kMM, kInt, kTupc, kLisc, tSc, toN, toS, tOf, gNm, gNl, gCs, gTu, kIsi, kMn, kMx, kRp, tFz, tiS, tiO, tiR1, tiR2, tiRd, tiE, tCal, tCalB, startD, DL.startB, noIo_eq, nio_d, nio_un, nio_own, asD_d, asD_own, asD_io, CT, CNz, tYesD, ex0, tdFor, tdLc, wipeD, isDat_eq, dat_d, dat_un, Owns, setO, List.map_cons, List.map_nil, List.cons_append, List.nil_append, List.length_cons, List.length_nil, List.replicate, List.replicate_succ, List.replicate_zero, List.getElem?_cons_zero, List.getElem?_cons_succ, List.set_cons_zero, List.set_cons_succ, Option.some.injEq, SV.d.injEq, SV.own.injEq, SV.io.injEq, PyData.int.injEq, PyData.str.injEq, PyData.bool.injEq, PyData.tuple.injEq, PyData.list.injEq, exists_eq_left', exists_eq_left, exists_eq_right, exists_eq_right', exists_and_left, true_and, and_true, if_true, if_false, id, reduceCtorEq, false_or, or_false, exists_false, List.cons.injEq, and_self, SV.d.injEq, Nat.reduceAdd, Nat.reduceSub, ite_true, ite_false, decide_eq_true_eq, Bool.false_eq_true, exists_const, decide_true, decide_false, List.forall_mem_cons, List.forall_mem_nil, Bool.not_true, Bool.not_false, Bool.not_eq_true, Nat.reduceLT, forall_const, implies_true, and_assoc, true_or, or_true, List.not_mem_nil, false_implies, Int.natCast_inj, not_true_eq_false, not_false_eq_true, and_false, false_and, po, map_fr_inj, fr_inj, shP, eqP, eqP0, sh0, shF, eqF, List.length_map]
  refine lcb (fun i => (List.range i).map fun i => fr (((i : Nat) : Rat) * at0 l i)) (by simp only [tdR, tdN, tdSq, tdE, tdIf, tdSet, tdF, tdRO, tdAsg, tdSub, tdAug, tdAugS, tdApp, tdPar, tdPar3, tdRaise, tV, tBo, tK, t2, t1, kI, kU, kEq, kEqS, kN, kIx, kST, kSL, kRv, kRvT, kCL, kCT, kRL, kRT, tCh, tTe, tNo, tAn, tOr', tAnV, DL.tOrV, kNo, tIfE, taC, tTp, tLs, tBi, kLen, kAbs, kMM, kInt, kTupc, kLisc, tSc, toN, toS, tOf, gNm, gNl, gCs, gTu, kIsi, kMn, kMx, kRp, tFz, tiS, tiO, tiR1, tiR2, tiRd, tiE, tCal, tCalB, startD, DL.startB, noIo_eq, nio_d, nio_un, nio_own, asD_d, asD_own, asD_io, CT, CNz, tYesD, ex0, tdFor, tdLc, wipeD, isDat_eq, dat_d, dat_un, Owns, setO, List.map_cons, List.map_nil, List.cons_append, List.nil_append, List.length_cons, List.length_nil, List.replicate, List.replicate_succ, List.replicate_zero, List.getElem?_cons_zero, List.getElem?_cons_succ, List.set_cons_zero, List.set_cons_succ, Option.some.injEq, SV.d.injEq, SV.own.injEq, SV.io.injEq, PyData.int.injEq, PyData.str.injEq, PyData.bool.injEq, PyData.tuple.injEq, PyData.list.injEq, exists_eq_left', exists_eq_left, exists_eq_right, exists_eq_right', exists_and_left, true_and, and_true, if_true, if_false, id, reduceCtorEq, false_or, or_false, exists_false, List.cons.injEq, and_self, SV.d.injEq, Nat.reduceAdd, Nat.reduceSub, ite_true, ite_false, decide_eq_true_eq, Bool.false_eq_true, exists_const, decide_true, decide_false, List.forall_mem_cons, List.forall_mem_nil, Bool.not_true, Bool.not_false, Bool.not_eq_true, Nat.reduceLT, forall_const, implies_true, and_assoc, true_or, or_true, List.not_mem_nil, false_implies, Int.natCast_inj, not_true_eq_false, not_false_eq_true, and_false, false_and]) (fun _ e => nomatch e) rfl (fun i x hx => ?_) ?_
  · obtain ⟨hi, rfl⟩ := en_fr hx
    simp only [tdR, tdN, tdSq, tdE, tdIf, tdSet, tdF, tdRO, tdAsg, tdSub, tdAug, tdAugS, tdApp, tdPar, tdPar3, tdRaise, tV, tBo, tK, t2, t1, kI, kU, kEq, kEqS, kN, kIx, kST, kSL, kRv, kRvT, kCL, kCT, kRL, kRT, tCh, tTe, tNo, tAn, tOr', tAnV, DL.tOrV, kNo, tIfE, taC, tTp, tLs, tBi, kLen, kAbs, kMM, kInt, kTupc, kLisc, tSc, toN, toS, tOf, gNm, gNl, gCs, gTu, kIsi, kMn, kMx, kRp, tFz, tiS, tiO, tiR1, tiR2, tiRd, tiE, tCal, tCalB, startD, DL.startB, noIo_eq, nio_d, nio_un, nio_own, asD_d, asD_own, asD_io, CT, CNz, tYesD, ex0, tdFor, tdLc, wipeD, isDat_eq, dat_d, dat_un, Owns, setO, List.map_cons, List.map_nil, List.cons_append, List.nil_append, List.length_cons, List.length_nil, List.replicate, List.replicate_succ, List.replicate_zero, List.getElem?_cons_zero, List.getElem?_cons_succ, List.set_cons_zero, List.set_cons_succ, Option.some.injEq, SV.d.injEq, SV.own.injEq, SV.io.injEq, PyData.int.injEq, PyData.str.injEq, PyData.bool.injEq, PyData.tuple.injEq, PyData.list.injEq, exists_eq_left', exists_eq_left, exists_eq_right, exists_eq_right', exists_and_left, true_and, and_true, if_true, if_false, id, reduceCtorEq, false_or, or_false, exists_false, List.cons.injEq, and_self, SV.d.injEq, Nat.reduceAdd, Nat.reduceSub, ite_true, ite_false, decide_eq_true_eq, Bool.false_eq_true, exists_const, decide_true, decide_false, List.forall_mem_cons, List.forall_mem_nil, Bool.not_true, Bool.not_false, Bool.not_eq_true, Nat.reduceLT, forall_const, implies_true, and_assoc, true_or, or_true, List.not_mem_nil, false_implies, Int.natCast_inj, not_true_eq_false, not_false_eq_true, and_false, false_and, po, map_fr_inj, fr_inj, shP, eqP, eqP0, sh0, shF, eqF, List.length_map, sp_times, tup_fr, Rat.intCast_natCast]
    refine ⟨by rw [sizeLine_eq]; decide, ?_, h1 i, lt_size (by rw [List.length_range]; omega), (rng_succ _ _).symm⟩
    refine sm_int (i := (i : Int)) (Nat.le_trans (log2_mono (show i ≤ 1000 by omega)) (by decide))
  · simp only [tdR, tdN, tdSq, tdE, tdIf, tdSet, tdF, tdRO, tdAsg, tdSub, tdAug, tdAugS, tdApp, tdPar, tdPar3, tdRaise, tV, tBo, tK, t2, t1, kI, kU, kEq, kEqS, kN, kIx, kST, kSL, kRv, kRvT, kCL, kCT, kRL, kRT, tCh, tTe, tNo, tAn, tOr', tAnV, DL.tOrV, kNo, tIfE, taC, tTp, tLs, tBi, kLen, kAbs, kMM, kInt, kTupc, kLisc, tSc, toN, toS, tOf, gNm, gNl, gCs, gTu, kIsi, kMn, kMx, kRp, tFz, tiS, tiO, tiR1, tiR2, tiRd, tiE, tCal, tCalB, startD, DL.startB, noIo_eq, nio_d, nio_un, nio_own, asD_d, asD_own, asD_io, CT, CNz, tYesD, ex0, tdFor, tdLc, wipeD, isDat_eq, dat_d, dat_un, Owns, setO, List.map_cons, List.map_nil, List.cons_append, List.nil_append, List.length_cons, List.length_nil, List.replicate, List.replicate_succ, List.replicate_zero, List.getElem?_cons_zero, List.getElem?_cons_succ, List.set_cons_zero, List.set_cons_succ, Option.some.injEq, SV.d.injEq, SV.own.injEq, SV.io.injEq, PyData.int.injEq, PyData.str.injEq, PyData.bool.injEq, PyData.tuple.injEq, PyData.list.injEq, exists_eq_left', exists_eq_left, exists_eq_right, exists_eq_right', exists_and_left, true_and, and_true, if_true, if_false, id, reduceCtorEq, false_or, or_false, exists_false, List.cons.injEq, and_self, SV.d.injEq, Nat.reduceAdd, Nat.reduceSub, ite_true, ite_false, decide_eq_true_eq, Bool.false_eq_true, exists_const, decide_true, decide_false, List.forall_mem_cons, List.forall_mem_nil, Bool.not_true, Bool.not_false, Bool.not_eq_true, Nat.reduceLT, forall_const, implies_true, and_assoc, true_or, or_true, List.not_mem_nil, false_implies, Int.natCast_inj, not_true_eq_false, not_false_eq_true, and_false, false_and, po, map_fr_inj, fr_inj, shP, eqP, eqP0, sh0, shF, eqF, List.length_map, enD_len, sp_trimmed, cut_drop1]
    refine ⟨((List.range l.length).map fun (i : Nat) => ((i : Nat) : Rat) * at0 l i).drop 1, ?_, q⟩
    rw [List.map_drop, List.map_map]; rfl
theorem sc_turned : FnScope ["poly"] ["poly"] (defScope s_turned) := ⟨rfl, rfl, rfl, by decide +kernel, rfl, by decide +kernel, by decide +kernel⟩
theorem ok_turned (T : Txt K mg CN) (hS : base.NoSeer) : FnD pw w K mg base "turned" 39 ["poly"] sp_turned := by
  have F_trimmed := ok_trimmed (w := w) T hS
  refine okD (k := 38) T.f_turned sc_turned (fun _ _ _ _ _ _ us hl => match us, hl with | [_], _ => rfl) fun f cdv A outer s H E hr => ?_
  refine ⟨_, (done1 (dret (dcall F_trimmed (hr.mono (by decide)) (dacons (dlisc (by rfl) T.b_list (dab1 (DE.b (drevT (DE.b (dv 0)))))) danil)))), fun ds Q X h hl => ?_⟩
  obtain ⟨l, rfl, q⟩ := h
  simp only [tdR, tdN, tdSq, tdE, tdIf, tdSet, tdF, tdRO, tdAsg, tdSub, tdAug, tdAugS, tdApp, tdPar, tdPar3, tdRaise, tV, tBo, tK, t2, t1, kI, kU, kEq, kEqS, kN, kIx, kST, kSL, kRv, kRvT, kCL, kCT, kRL, kRT, tCh, tTe, tNo, tAn, tOr', tAnV, DL.tOrV, kNo, tIfE, taC, tTp, tLs, tBi, kLen, kAbs, kMM, kInt, kTupc, kLisc, tSc, toN, toS, tOf, gNm, gNl, gCs, gTu, kIsi, kMn, kMx, kRp, tFz, tiS, tiO, tiR1, tiR2, tiRd, tiE, tCal, tCalB, startD, DL.startB, noIo_eq, nio_d, nio_un, nio_own, asD_d, asD_own, asD_io, CT, CNz, tYesD, ex0, tdFor, tdLc, wipeD, isDat_eq, dat_d, dat_un, Owns, setO, List.map_cons, List.map_nil, List.cons_append, List.nil_append, List.length_cons, List.length_nil, List.replicate, List.replicate_succ, List.replicate_zero, List.getElem?_cons_zero, List.getElem?_cons_succ, List.set_cons_zero, List.set_cons_succ, Option.some.injEq, SV.d.injEq, SV.own.injEq, SV.io.injEq, PyData.int.injEq, PyData.str.injEq, PyData.bool.injEq, PyData.tuple.injEq, PyData.list.injEq, exists_eq_left', exists_eq_left, exists_eq_right, exists_eq_right', exists_and_left, true_and, and_true, if_true, if_false, id, reduceCtorEq, false_or, or_false, exists_false, List.cons.injEq, and_self, SV.d.injEq, Nat.reduceAdd, Nat.reduceSub, ite_true, ite_false, decide_eq_true_eq, Bool.false_eq_true, exists_const, decide_true, decide_false, List.forall_mem_cons, List.forall_mem_nil, Bool.not_true, Bool.not_false, Bool.not_eq_true, Nat.reduceLT, forall_const, implies_true, and_assoc, true_or, or_true, List.not_mem_nil, false_implies, Int.natCast_inj, not_true_eq_false, not_false_eq_true, and_false, false_and, po, map_fr_inj, fr_inj, shP, eqP, eqP0, sh0, shF, eqF, List.length_map, sp_trimmed]
  exact ⟨l.reverse, (List.map_reverse ..).symm, q⟩
theorem sc_lowest : FnScope ["poly", "powers", "power", "one"] ["poly"] (defScope s_lowest) := ⟨rfl, rfl, rfl, by decide +kernel, rfl, by decide +kernel, by decide +kernel⟩
theorem ok_lowest (T : Txt K mg CN) (hS : base.NoSeer) : FnD pw w K mg base "lowest" 38 ["poly"] sp_lowest := by
  refine okD (k := 37) T.f_lowest sc_lowest (fun _ _ _ _ _ _ us hl => match us, hl with | [_], _ => rfl) fun f cdv A outer s H E hr => ?_
  have hu := hr.units
  refine ⟨_, (dcons (dsetLc 1 (own := [("power", 2), ("one", 3)]) rfl sc_lowest.nd (diE (by rfl) T.b_enumerate (dab1 (DE.b (dv 0)))) (blkOk_by (by kernel_rfl)) (by decide) (fun _ _ _ _ _ => (dgtup (n := 2) rfl (dgcons (dgn 2 sc_lowest.nd) (dgcons (dgn 3 sc_lowest.nd) dgnil)))) (fun _ _ _ _ _ => (dpt1 (dtne hu (DE.b (dv 3)) (DE.b (dcon T.c_NIL))))) (fun _ _ _ _ _ => (dv 2)) (by rfl))
      (dcons (dsif (dteq hu (db 1) (DE.b (dlst danil))) (done1 (draise' rfl T.e_Nothing)) dnil)
      (done1 (dret (dix (db 1) (DE.b dint)))))), fun ds Q X h hl => ?_⟩
  obtain ⟨l, k, rfl, h1, h2, h3, h4, q⟩ := h
  simp only [tdR, tdN, tdSq, tdE, tdIf, tdSet, tdF, tdRO, tdAsg, tdSub, tdAug, tdAugS, tdApp, tdPar, tdPar3, tdRaise, tV, tBo, tK, t2, t1, kI, kU, kEq, kEqS, kN, kIx, kST, kSL, kRv, kRvT, kCL, kCT, kRL, kRT, tCh, tTe, tNo, tAn, tOr', tAnV, DL.tOrV, kNo, tIfE, taC, tTp, tLs, tBi, kLen, kAbs, kMM, kInt, kTupc, kLisc, tSc, toN, toS, tOf, gNm, gNl, gCs, gTu, kIsi, kMn, kMx, kRp, tFz, tiS, tiO, tiR1, tiR2, tiRd, tiE, tCal, tCalB, startD, DL.startB, noIo_eq, nio_d, nio_un, nio_own, asD_d, asD_own, asD_io, CT, CNz, tYesD, ex0, tdFor, tdLc, wipeD, isDat_eq, dat_d, dat_un, Owns, setO, List.map_cons, List.map_nil, List.cons_append, List.nil_append, List.length_cons, List.length_nil, List.replicate, List.replicate_succ, List.replicate_zero, List.getElem?_cons_zero, List.getElem?_cons_succ, List.set_cons_zero, List.set_cons_succ, Option.some.injEq, SV.d.injEq, SV.own.injEq, SV.io.injEq, PyData.int.injEq, PyData.str.injEq, PyData.bool.injEq, PyData.tuple.injEq, PyData.list.injEq, exists_eq_left', exists_eq_left, exists_eq_right, exists_eq_right', exists_and_left, true_and, and_true, if_true, if_false, id, reduceCtorEq, false_or, or_false, exists_false, List.cons.injEq, and_self, SV.d.injEq, Nat.reduceAdd, Nat.reduceSub, ite_true, ite_false, decide_eq_true_eq, Bool.false_eq_true, exists_const, decide_true, decide_false, List.forall_mem_cons, List.forall_mem_nil, Bool.not_true, Bool.not_false, Bool.not_eq_true, Nat.reduceLT, forall_const, implies_true, and_assoc, true_or, or_true, List.not_mem_nil, false_implies, Int.natCast_inj, not_true_eq_false, not_false_eq_true, and_false, false_and, po, map_fr_inj, fr_inj, shP, eqP, eqP0, sh0, shF, eqF, List.length_map]
  refine lcb (fun i => (nzs l i).map fun (i : Nat) => PyData.int (i : Int)) (by simp only [tdR, tdN, tdSq, tdE, tdIf, tdSet, tdF, tdRO, tdAsg, tdSub, tdAug, tdAugS, tdApp, tdPar, tdPar3, tdRaise, tV, tBo, tK, t2, t1, kI, kU, kEq, kEqS, kN, kIx, kST, kSL, kRv, kRvT, kCL, kCT, kRL, kRT, tCh, tTe, tNo, tAn, tOr', tAnV, DL.tOrV, kNo, tIfE, taC, tTp, tLs, tBi, kLen, kAbs, kMM, kInt, kTupc, kLisc, tSc, toN, toS, tOf, gNm, gNl, gCs, gTu, kIsi, kMn, kMx, kRp, tFz, tiS, tiO, tiR1, tiR2, tiRd, tiE, tCal, tCalB, startD, DL.startB, noIo_eq, nio_d, nio_un, nio_own, asD_d, asD_own, asD_io, CT, CNz, tYesD, ex0, tdFor, tdLc, wipeD, isDat_eq, dat_d, dat_un, Owns, setO, List.map_cons, List.map_nil, List.cons_append, List.nil_append, List.length_cons, List.length_nil, List.replicate, List.replicate_succ, List.replicate_zero, List.getElem?_cons_zero, List.getElem?_cons_succ, List.set_cons_zero, List.set_cons_succ, Option.some.injEq, SV.d.injEq, SV.own.injEq, SV.io.injEq, PyData.int.injEq, PyData.str.injEq, PyData.bool.injEq, PyData.tuple.injEq, PyData.list.injEq, exists_eq_left', exists_eq_left, exists_eq_right, exists_eq_right', exists_and_left, true_and, and_true, if_true, if_false, id, reduceCtorEq, false_or, or_false, exists_false, List.cons.injEq, and_self, SV.d.injEq, Nat.reduceAdd, Nat.reduceSub, ite_true, ite_false, decide_eq_true_eq, Bool.false_eq_true, exists_const, decide_true, decide_false, List.forall_mem_cons, List.forall_mem_nil, Bool.not_true, Bool.not_false, Bool.not_eq_true, Nat.reduceLT, forall_const, implies_true, and_assoc, true_or, or_true, List.not_mem_nil, false_implies, Int.natCast_inj, not_true_eq_false, not_false_eq_true, and_false, false_and]) (fun _ e => nomatch e) rfl (fun i x hx => ?_) ?_
  · obtain ⟨hi, rfl⟩ := en_fr hx
    simp only [tdR, tdN, tdSq, tdE, tdIf, tdSet, tdF, tdRO, tdAsg, tdSub, tdAug, tdAugS, tdApp, tdPar, tdPar3, tdRaise, tV, tBo, tK, t2, t1, kI, kU, kEq, kEqS, kN, kIx, kST, kSL, kRv, kRvT, kCL, kCT, kRL, kRT, tCh, tTe, tNo, tAn, tOr', tAnV, DL.tOrV, kNo, tIfE, taC, tTp, tLs, tBi, kLen, kAbs, kMM, kInt, kTupc, kLisc, tSc, toN, toS, tOf, gNm, gNl, gCs, gTu, kIsi, kMn, kMx, kRp, tFz, tiS, tiO, tiR1, tiR2, tiRd, tiE, tCal, tCalB, startD, DL.startB, noIo_eq, nio_d, nio_un, nio_own, asD_d, asD_own, asD_io, CT, CNz, tYesD, ex0, tdFor, tdLc, wipeD, isDat_eq, dat_d, dat_un, Owns, setO, List.map_cons, List.map_nil, List.cons_append, List.nil_append, List.length_cons, List.length_nil, List.replicate, List.replicate_succ, List.replicate_zero, List.getElem?_cons_zero, List.getElem?_cons_succ, List.set_cons_zero, List.set_cons_succ, Option.some.injEq, SV.d.injEq, SV.own.injEq, SV.io.injEq, PyData.int.injEq, PyData.str.injEq, PyData.bool.injEq, PyData.tuple.injEq, PyData.list.injEq, exists_eq_left', exists_eq_left, exists_eq_right, exists_eq_right', exists_and_left, true_and, and_true, if_true, if_false, id, reduceCtorEq, false_or, or_false, exists_false, List.cons.injEq, and_self, SV.d.injEq, Nat.reduceAdd, Nat.reduceSub, ite_true, ite_false, decide_eq_true_eq, Bool.false_eq_true, exists_const, decide_true, decide_false, List.forall_mem_cons, List.forall_mem_nil, Bool.not_true, Bool.not_false, Bool.not_eq_true, Nat.reduceLT, forall_const, implies_true, and_assoc, true_or, or_true, List.not_mem_nil, false_implies, Int.natCast_inj, not_true_eq_false, not_false_eq_true, and_false, false_and, po, map_fr_inj, fr_inj, shP, eqP, eqP0, sh0, shF, eqF, List.length_map]
    rw [nzs_succ]
    by_cases e : at0 l i = 0
    · rw [decide_eq_true e, if_neg (by decide), if_pos e, List.append_nil]
    · rw [decide_eq_false e, if_pos (by decide), if_neg e, List.map_append]
      exact ⟨lt_size (Nat.le_trans (nzs_len l i) (by omega)), rfl⟩
  · obtain ⟨r, hr⟩ := nzs_head h3 h4 l.length h2
    simp only [tdR, tdN, tdSq, tdE, tdIf, tdSet, tdF, tdRO, tdAsg, tdSub, tdAug, tdAugS, tdApp, tdPar, tdPar3, tdRaise, tV, tBo, tK, t2, t1, kI, kU, kEq, kEqS, kN, kIx, kST, kSL, kRv, kRvT, kCL, kCT, kRL, kRT, tCh, tTe, tNo, tAn, tOr', tAnV, DL.tOrV, kNo, tIfE, taC, tTp, tLs, tBi, kLen, kAbs, kMM, kInt, kTupc, kLisc, tSc, toN, toS, tOf, gNm, gNl, gCs, gTu, kIsi, kMn, kMx, kRp, tFz, tiS, tiO, tiR1, tiR2, tiRd, tiE, tCal, tCalB, startD, DL.startB, noIo_eq, nio_d, nio_un, nio_own, asD_d, asD_own, asD_io, CT, CNz, tYesD, ex0, tdFor, tdLc, wipeD, isDat_eq, dat_d, dat_un, Owns, setO, List.map_cons, List.map_nil, List.cons_append, List.nil_append, List.length_cons, List.length_nil, List.replicate, List.replicate_succ, List.replicate_zero, List.getElem?_cons_zero, List.getElem?_cons_succ, List.set_cons_zero, List.set_cons_succ, Option.some.injEq, SV.d.injEq, SV.own.injEq, SV.io.injEq, PyData.int.injEq, PyData.str.injEq, PyData.bool.injEq, PyData.tuple.injEq, PyData.list.injEq, exists_eq_left', exists_eq_left, exists_eq_right, exists_eq_right', exists_and_left, true_and, and_true, if_true, if_false, id, reduceCtorEq, false_or, or_false, exists_false, List.cons.injEq, and_self, SV.d.injEq, Nat.reduceAdd, Nat.reduceSub, ite_true, ite_false, decide_eq_true_eq, Bool.false_eq_true, exists_const, decide_true, decide_false, List.forall_mem_cons, List.forall_mem_nil, Bool.not_true, Bool.not_false, Bool.not_eq_true, Nat.reduceLT, forall_const, implies_true, and_assoc, true_or, or_true, List.not_mem_nil, false_implies, Int.natCast_inj, not_true_eq_false, not_false_eq_true, and_false, false_and, po, map_fr_inj, fr_inj, shP, eqP, eqP0, sh0, shF, eqF, List.length_map, enD_len, shLI]
    rw [hr]
    simp only [tdR, tdN, tdSq, tdE, tdIf, tdSet, tdF, tdRO, tdAsg, tdSub, tdAug, tdAugS, tdApp, tdPar, tdPar3, tdRaise, tV, tBo, tK, t2, t1, kI, kU, kEq, kEqS, kN, kIx, kST, kSL, kRv, kRvT, kCL, kCT, kRL, kRT, tCh, tTe, tNo, tAn, tOr', tAnV, DL.tOrV, kNo, tIfE, taC, tTp, tLs, tBi, kLen, kAbs, kMM, kInt, kTupc, kLisc, tSc, toN, toS, tOf, gNm, gNl, gCs, gTu, kIsi, kMn, kMx, kRp, tFz, tiS, tiO, tiR1, tiR2, tiRd, tiE, tCal, tCalB, startD, DL.startB, noIo_eq, nio_d, nio_un, nio_own, asD_d, asD_own, asD_io, CT, CNz, tYesD, ex0, tdFor, tdLc, wipeD, isDat_eq, dat_d, dat_un, Owns, setO, List.map_cons, List.map_nil, List.cons_append, List.nil_append, List.length_cons, List.length_nil, List.replicate, List.replicate_succ, List.replicate_zero, List.getElem?_cons_zero, List.getElem?_cons_succ, List.set_cons_zero, List.set_cons_succ, Option.some.injEq, SV.d.injEq, SV.own.injEq, SV.io.injEq, PyData.int.injEq, PyData.str.injEq, PyData.bool.injEq, PyData.tuple.injEq, PyData.list.injEq, exists_eq_left', exists_eq_left, exists_eq_right, exists_eq_right', exists_and_left, true_and, and_true, if_true, if_false, id, reduceCtorEq, false_or, or_false, exists_false, List.cons.injEq, and_self, SV.d.injEq, Nat.reduceAdd, Nat.reduceSub, ite_true, ite_false, decide_eq_true_eq, Bool.false_eq_true, exists_const, decide_true, decide_false, List.forall_mem_cons, List.forall_mem_nil, Bool.not_true, Bool.not_false, Bool.not_eq_true, Nat.reduceLT, forall_const, implies_true, and_assoc, true_or, or_true, List.not_mem_nil, false_implies, Int.natCast_inj, not_true_eq_false, not_false_eq_true, and_false, false_and]
    refine ⟨Nat.zero_le _, rfl, ?_⟩
    rw [if_neg (by simp [PyData.eqv, PyData.eqvAll])]
    refine ⟨_, ?_, q⟩
    unfold atI
    rw [show ixN (PyData.int (k : Int) :: List.map (fun (i : Nat) => PyData.int (i : Int)) r).length 0 = some 0 from ixN_nat (i := 0) (by simp)]
    rfl
def sqf (l : List Rat) : List Rat := unit (quo l (com (der l).length l (der l)))
def sp_squarefree : SpD := fun ds Q _ => ∃ (l : List Rat) (h k : Nat), ds = [po l] ∧ l ≠ [] ∧ Tr l ∧ Hb h l ∧ l.length ≤ 64 ∧ (h + 7) * wt l.length (der l).length ≤ 60000000 ∧ Hb k (com (der l).length l (der l)) ∧
  h + (l.length + 1 - (com (der l).length l (der l)).length) * (k + 1) ≤ 60000000 ∧ Q (.d (po (sqf l)))
theorem sc_squarefree : FnScope ["poly"] ["poly"] (defScope s_squarefree) := ⟨rfl, rfl, rfl, by decide +kernel, rfl, by decide +kernel, by decide +kernel⟩
theorem ok_squarefree (T : Txt K mg CN) (hS : base.NoSeer) : FnD pw w K mg base "squarefree" 44 ["poly"] sp_squarefree := by
  have F_common := ok_common (w := w) T hS
  have F_derived := ok_derived (w := w) T hS
  have F_divided := ok_divided (w := w) T hS
  have F_with_unit := ok_with_unit (w := w) T hS
  refine okD (k := 43) T.f_squarefree sc_squarefree (fun _ _ _ _ _ _ us hl => match us, hl with | [_], _ => rfl) fun f cdv A outer s H E hr => ?_
  have hu := hr.units
  refine ⟨_, (dcons (dsif (dteq hu (DE.b (dv 0)) (DE.b (dtup danil))) (done1 (dret (dtup danil))) dnil)
      (done1 (dret (dcall F_with_unit (hr.mono (by decide)) (dacons (dix (DE.b (dcall F_divided (hr.mono (by decide)) (dacons (dv 0) (dacons (dcall F_common (hr.mono (by decide)) (dacons (dv 0) (dacons (dcall F_derived (hr.mono (by decide)) (dacons (dv 0) danil)) danil))) danil)))) (DE.b dint)) danil))))), fun ds Q X h hl => ?_⟩
  obtain ⟨l, a, b, rfl, hl, tl, h1, h2, h3, h4, h5, q⟩ := h
  have dl := der_len l
  have c0 := com_ok (der l).length l (der l) tl (der_tr l) (Nat.le_refl _)
  obtain ⟨gn, _⟩ := c0.2.2 (.inl hl)
  have lb : a ≤ 60000000 := by omega
  simp only [tdR, tdN, tdSq, tdE, tdIf, tdSet, tdF, tdRO, tdAsg, tdSub, tdAug, tdAugS, tdApp, tdPar, tdPar3, tdRaise, tV, tBo, tK, t2, t1, kI, kU, kEq, kEqS, kN, kIx, kST, kSL, kRv, kRvT, kCL, kCT, kRL, kRT, tCh, tTe, tNo, tAn, tOr', tAnV, DL.tOrV, kNo, tIfE, taC, tTp, tLs, tBi, kLen, kAbs, kMM, kInt, kTupc, kLisc, tSc, toN, toS, tOf, gNm, gNl, gCs, gTu, kIsi, kMn, kMx, kRp, tFz, tiS, tiO, tiR1, tiR2, tiRd, tiE, tCal, tCalB, startD, DL.startB, noIo_eq, nio_d, nio_un, nio_own, asD_d, asD_own, asD_io, CT, CNz, tYesD, ex0, tdFor, tdLc, wipeD, isDat_eq, dat_d, dat_un, Owns, setO, List.map_cons, List.map_nil, List.cons_append, List.nil_append, List.length_cons, List.length_nil, List.replicate, List.replicate_succ, List.replicate_zero, List.getElem?_cons_zero, List.getElem?_cons_succ, List.set_cons_zero, List.set_cons_succ, Option.some.injEq, SV.d.injEq, SV.own.injEq, SV.io.injEq, PyData.int.injEq, PyData.str.injEq, PyData.bool.injEq, PyData.tuple.injEq, PyData.list.injEq, exists_eq_left', exists_eq_left, exists_eq_right, exists_eq_right', exists_and_left, true_and, and_true, if_true, if_false, id, reduceCtorEq, false_or, or_false, exists_false, List.cons.injEq, and_self, SV.d.injEq, Nat.reduceAdd, Nat.reduceSub, ite_true, ite_false, decide_eq_true_eq, Bool.false_eq_true, exists_const, decide_true, decide_false, List.forall_mem_cons, List.forall_mem_nil, Bool.not_true, Bool.not_false, Bool.not_eq_true, Nat.reduceLT, forall_const, implies_true, and_assoc, true_or, or_true, List.not_mem_nil, false_implies, Int.natCast_inj, not_true_eq_false, not_false_eq_true, and_false, false_and, po, map_fr_inj, fr_inj, shP, eqP, eqP0, sh0, shF, eqF, List.length_map]
  refine ⟨Nat.zero_le _, ?_⟩
  rw [if_neg hl]
  simp only [sp_derived, sp_common, po, map_fr_inj, fr_inj, shP, eqP, eqP0, sh0, shF, eqF, List.length_map]
  refine ⟨l, rfl, hb_smL h1 lb, by omega, l, der l, a + 6, rfl, tl, der_tr l, h1.mono (by omega), der_hb h1 h2, h3, by omega, by omega, ?_⟩
  simp only [tdR, tdN, tdSq, tdE, tdIf, tdSet, tdF, tdRO, tdAsg, tdSub, tdAug, tdAugS, tdApp, tdPar, tdPar3, tdRaise, tV, tBo, tK, t2, t1, kI, kU, kEq, kEqS, kN, kIx, kST, kSL, kRv, kRvT, kCL, kCT, kRL, kRT, tCh, tTe, tNo, tAn, tOr', tAnV, DL.tOrV, kNo, tIfE, taC, tTp, tLs, tBi, kLen, kAbs, kMM, kInt, kTupc, kLisc, tSc, toN, toS, tOf, gNm, gNl, gCs, gTu, kIsi, kMn, kMx, kRp, tFz, tiS, tiO, tiR1, tiR2, tiRd, tiE, tCal, tCalB, startD, DL.startB, noIo_eq, nio_d, nio_un, nio_own, asD_d, asD_own, asD_io, CT, CNz, tYesD, ex0, tdFor, tdLc, wipeD, isDat_eq, dat_d, dat_un, Owns, setO, List.map_cons, List.map_nil, List.cons_append, List.nil_append, List.length_cons, List.length_nil, List.replicate, List.replicate_succ, List.replicate_zero, List.getElem?_cons_zero, List.getElem?_cons_succ, List.set_cons_zero, List.set_cons_succ, Option.some.injEq, SV.d.injEq, SV.own.injEq, SV.io.injEq, PyData.int.injEq, PyData.str.injEq, PyData.bool.injEq, PyData.tuple.injEq, PyData.list.injEq, exists_eq_left', exists_eq_left, exists_eq_right, exists_eq_right', exists_and_left, true_and, and_true, if_true, if_false, id, reduceCtorEq, false_or, or_false, exists_false, List.cons.injEq, and_self, SV.d.injEq, Nat.reduceAdd, Nat.reduceSub, ite_true, ite_false, decide_eq_true_eq, Bool.false_eq_true, exists_const, decide_true, decide_false, List.forall_mem_cons, List.forall_mem_nil, Bool.not_true, Bool.not_false, Bool.not_eq_true, Nat.reduceLT, forall_const, implies_true, and_assoc, true_or, or_true, List.not_mem_nil, false_implies, Int.natCast_inj, not_true_eq_false, not_false_eq_true, and_false, false_and, po, map_fr_inj, fr_inj, shP, eqP, eqP0, sh0, shF, eqF, List.length_map, sp_divided]
  have gl : (com (der l).length l (der l)).length ≤ l.length := by
    have := c0.1.l.len (ne_of tl hl)
    rw [len_tr c0.2.1, len_tr tl] at this
    exact this
  refine ⟨fun z => absurd z gn, a, b, fun _ => ⟨c0.2.1, h1, h4, h5, by omega, by omega, ?_⟩⟩
  simp only [at0_, sp_with_unit, List.map_cons, List.map_nil, List.cons_append, List.nil_append, List.length_cons, List.length_nil, List.replicate, List.replicate_succ, List.replicate_zero, List.getElem?_cons_zero, List.getElem?_cons_succ, List.set_cons_zero, List.set_cons_succ, Option.some.injEq, SV.d.injEq, SV.own.injEq, SV.io.injEq, PyData.int.injEq, PyData.str.injEq, PyData.bool.injEq, PyData.tuple.injEq, PyData.list.injEq, exists_eq_left', exists_eq_left, exists_eq_right, exists_eq_right', exists_and_left, true_and, and_true, if_true, if_false, id, reduceCtorEq, false_or, or_false, exists_false, List.cons.injEq, and_self, SV.d.injEq, Nat.reduceAdd, Nat.reduceSub, ite_true, ite_false, decide_eq_true_eq, Bool.false_eq_true, exists_const, decide_true, decide_false, List.forall_mem_cons, List.forall_mem_nil, Bool.not_true, Bool.not_false, Bool.not_eq_true, Nat.reduceLT, forall_const, implies_true, and_assoc, true_or, or_true, List.not_mem_nil, false_implies, Int.natCast_inj, not_true_eq_false, not_false_eq_true, and_false, false_and, po, map_fr_inj, fr_inj, shP, eqP, eqP0, sh0, shF, eqF, List.length_map]
  have ql : (quo l (com (der l).length l (der l))).length ≤ 1000 := by
    unfold quo
    refine Nat.le_trans (trim_len _) ?_
    rw [(divN_len _).2]; omega
  exact ⟨quo_tr, _, (div_sz c0.2.1 gn gl h1 h4).2.1, h5, ql, q⟩
end
end K70
namespace K70
open PySem PySem.Spec L2 DL
open PyProof.Rows hiding St

section
variable {w : World} {K : PySem.W.Frag} {mg : Str → Option Value} {base : Heap} {CN : Addr}

open PM
def li (xs : List Int) : D := .list (xs.map .int)
def ca (xs : List Int) : List Rat := xs.map fun (i : Int) => (i : Rat)
def BagOk (n : Nat) (bag : List D) : Prop := ∃ (b0 b1 b2 : Int) (cs : List Int), bag = [.int b0, .int b1, .int b2, .list (cs.map .int)] ∧ 0 ≤ b0 ∧ 0 ≤ b1 ∧ b1 < 2147483647 ∧ 0 ≤ b2 ∧ b2 ≤ n ∧ cs.length ≤ 64 ∧ ∀ c ∈ cs, 0 ≤ c
theorem BagOk.mono {m n : Nat} {bag : List D} (h : BagOk m bag) (e : m ≤ n) : BagOk n bag := by
  obtain ⟨b0, b1, b2, cs, h1, h2, h3, h4, h5, h6, h7⟩ := h
  exact ⟨b0, b1, b2, cs, h1, h2, h3, h4, h5, by omega, h7⟩
def sp__law_take : SpB := fun bag ds Q => ∃ (n : Nat) (many : Int), BagOk n bag ∧ n ≤ 1000000 ∧ ds = [.int many] ∧ 0 < many ∧ ∀ v bag', 0 ≤ v → v < many → BagOk (n + 1) bag' → Q (.int v) bag'
def sp__law_alike : SpD := fun ds Q _ => ∃ x ys, ds = [x, x] ∧ (x = .list ys ∨ x = .tuple ys) ∧ ShowOk x ∧ SeqAt.shaped x = true ∧ PyData.eqv x x = true ∧ Q (.d (.bool true))
def sp__law_gcd : SpD := fun ds Q _ => ∃ a b : Int, ds = [.int a, .int b] ∧ Q (.d (.int (Int.gcd a b)))
def sp__law_fraction : SpD := fun ds Q _ => ∃ a b : Int, ds = [.int a, .int b] ∧ a.natAbs.log2 < 133000000 ∧ b.natAbs.log2 < 133000000 ∧ b ≠ 0 ∧ Q (.d (fr (Rat.divInt a b)))
def sp__law_trim : SpD := fun ds Q _ => ∃ xs : List Int, ds = [li xs] ∧ ∀ ys : List Int, ca ys = trim (ca xs) → (∀ y ∈ ys, y ∈ xs) → Q (.d (li ys))
theorem sc__law_gcd : FnScope ["one", "other"] ["one", "other"] (defScope s__law_gcd) := ⟨rfl, rfl, rfl, by decide +kernel, rfl, by decide +kernel, by decide +kernel⟩
theorem ok__law_gcd (T : Txt K mg CN) (hS : base.NoSeer) : FnD pw w K mg base "_law_gcd" 38 ["one", "other"] sp__law_gcd := by
  refine okD (k := 37) T.f__law_gcd sc__law_gcd (fun _ _ _ _ _ _ us hl => match us, hl with | [_, _], _ => rfl) fun f cdv A outer s H E hr => ?_
  refine ⟨_, (dcons (dpar 0 1 rfl sc__law_gcd.nd (dabs (by rfl) T.b_abs (dab1 (DE.b (dv 0)))) (dabs (by rfl) T.b_abs (dab1 (DE.b (dv 1)))))
      (dcons (dwhile (passes_of rfl) (dtgt (DE.b (dv 1)) (DE.b dint)) (done1 (dpar 0 1 rfl sc__law_gcd.nd (dv 1) (dmod (DE.b (dv 0)) (DE.b (dv 1))))))
      (done1 (dret (dv 0))))), fun ds Q X h hl => ?_⟩
  obtain ⟨a, b, rfl, q⟩ := h
  simp only [tdR, tdN, tdSq, tdE, tdIf, tdSet, tdF, tdRO, tdAsg, tdSub, tdAug, tdAugS, tdApp, tdPar, tdPar3, tdRaise, tV, tBo, tK, t2, t1, kI, kU, kEq, kEqS, kN, kIx, kST, kSL, kRv, kRvT, kCL, kCT, kRL, kRT, tCh, tTe, tNo, tAn, tOr', tAnV, DL.tOrV, kNo, tIfE, taC, tTp, tLs, tBi, kLen, kAbs, kMM, kInt, kTupc, kLisc, tSc, toN, toS, tOf, gNm, gNl, gCs, gTu, kIsi, kMn, kMx, kRp, tFz, tiS, tiO, tiR1, tiR2, tiRd, tiE, tCal, tCalB, startD, DL.startB, noIo_eq, nio_d, nio_un, nio_own, asD_d, asD_own, asD_io, CT, CNz, tYesD, ex0, tdFor, tdLc, wipeD, isDat_eq, dat_d, dat_un, Owns, setO, List.map_cons, List.map_nil, List.cons_append, List.nil_append, List.length_cons, List.length_nil, List.replicate, List.replicate_succ, List.replicate_zero, List.getElem?_cons_zero, List.getElem?_cons_succ, List.set_cons_zero, List.set_cons_succ, Option.some.injEq, SV.d.injEq, SV.own.injEq, SV.io.injEq, PyData.int.injEq, PyData.str.injEq, PyData.bool.injEq, PyData.tuple.injEq, PyData.list.injEq, exists_eq_left', exists_eq_left, exists_eq_right, exists_eq_right', exists_and_left, true_and, and_true, if_true, if_false, id, reduceCtorEq, false_or, or_false, exists_false, List.cons.injEq, and_self, SV.d.injEq, Nat.reduceAdd, Nat.reduceSub, ite_true, ite_false, decide_eq_true_eq, Bool.false_eq_true, exists_const, decide_true, decide_false, List.forall_mem_cons, List.forall_mem_nil, Bool.not_true, Bool.not_false, Bool.not_eq_true, Nat.reduceLT, forall_const, implies_true, and_assoc, true_or, or_true, List.not_mem_nil, false_implies, Int.natCast_inj, not_true_eq_false, not_false_eq_true, and_false, false_and, abs_if]
  refine ⟨fun m δ => ∃ x y : Nat, δ = [.d (.int x), .d (.int y)] ∧ m = y ∧ Nat.gcd x y = Int.gcd a b, ⟨_, a.natAbs, b.natAbs, rfl, rfl, rfl⟩, fun m δ h => ?_⟩
  obtain ⟨x, y, rfl, rfl, hg⟩ := h
  simp only [tdR, tdN, tdSq, tdE, tdIf, tdSet, tdF, tdRO, tdAsg, tdSub, tdAug, tdAugS, tdApp, tdPar, tdPar3, tdRaise, tV, tBo, tK, t2, t1, kI, kU, kEq, kEqS, kN, kIx, kST, kSL, kRv, kRvT, kCL, kCT, kRL, kRT, tCh, tTe, tNo, tAn, tOr', tAnV, DL.tOrV, kNo, tIfE, taC, tTp, tLs, tBi, kLen, kAbs, kMM, kInt, kTupc, kLisc, tSc, toN, toS, tOf, gNm, gNl, gCs, gTu, kIsi, kMn, kMx, kRp, tFz, tiS, tiO, tiR1, tiR2, tiRd, tiE, tCal, tCalB, startD, DL.startB, noIo_eq, nio_d, nio_un, nio_own, asD_d, asD_own, asD_io, CT, CNz, tYesD, ex0, tdFor, tdLc, wipeD, isDat_eq, dat_d, dat_un, Owns, setO, List.map_cons, List.map_nil, List.cons_append, List.nil_append, List.length_cons, List.length_nil, List.replicate, List.replicate_succ, List.replicate_zero, List.getElem?_cons_zero, List.getElem?_cons_succ, List.set_cons_zero, List.set_cons_succ, Option.some.injEq, SV.d.injEq, SV.own.injEq, SV.io.injEq, PyData.int.injEq, PyData.str.injEq, PyData.bool.injEq, PyData.tuple.injEq, PyData.list.injEq, exists_eq_left', exists_eq_left, exists_eq_right, exists_eq_right', exists_and_left, true_and, and_true, if_true, if_false, id, reduceCtorEq, false_or, or_false, exists_false, List.cons.injEq, and_self, SV.d.injEq, Nat.reduceAdd, Nat.reduceSub, ite_true, ite_false, decide_eq_true_eq, Bool.false_eq_true, exists_const, decide_true, decide_false, List.forall_mem_cons, List.forall_mem_nil, Bool.not_true, Bool.not_false, Bool.not_eq_true, Nat.reduceLT, forall_const, implies_true, and_assoc, true_or, or_true, List.not_mem_nil, false_implies, Int.natCast_inj, not_true_eq_false, not_false_eq_true, and_false, false_and, shI, eqI]
  by_cases hy : m = 0
  · subst hy
    rw [if_neg (by decide)]
    rw [Nat.gcd_zero_right] at hg
    rw [hg]; exact q
  · rw [if_pos (by omega)]
    refine ⟨by omega, x % m, Nat.mod_lt _ (by omega), x % m, ?_, rfl, ?_⟩
    · rw [Int.fmod_eq_emod_of_nonneg _ (by omega)]; rfl
    · rw [gcd_step, hg]
theorem sc__law_fraction : FnScope ["over", "under", "shared", "sign"] ["over", "under"] (defScope s__law_fraction) := ⟨rfl, rfl, rfl, by decide +kernel, rfl, by decide +kernel, by decide +kernel⟩
theorem ok__law_fraction (T : Txt K mg CN) (hS : base.NoSeer) : FnD pw w K mg base "_law_fraction" 39 ["over", "under"] sp__law_fraction := by
  have F__law_gcd := ok__law_gcd (w := w) T hS
  refine okD (k := 38) T.f__law_fraction sc__law_fraction (fun _ _ _ _ _ _ us hl => match us, hl with | [_, _], _ => rfl) fun f cdv A outer s H E hr => ?_
  have hP := plroom (X := cxOf (L2.CX pw w) pw w K mg base ["over", "under", "shared", "sign"] "_law_fraction" (defScope s__law_fraction) f cdv A outer s H E) hS rfl rfl rfl rfl rfl rfl hr (by decide)
  refine ⟨_, (dcons (dset 2 sc__law_fraction.nd (dcall F__law_gcd (hr.mono (by decide)) (dacons (dv 0) (dacons (dv 1) danil))))
      (dcons (dset 3 sc__law_fraction.nd (dif (dtlt (DE.b (dv 1)) (DE.b dint)) (dneg (DE.b dint)) dint))
      (done1 (dret (dtup (dacons (dfdivL hP (DE.b (dmul (DE.b (dv 3)) (DE.b (dv 0)))) (DE.b (dv 2))) (dacons (dfdivL hP (DE.b (dmul (DE.b (dv 3)) (DE.b (dv 1)))) (DE.b (dv 2))) danil))))))), fun ds Q X h hl => ?_⟩
  obtain ⟨a, b, rfl, ha, hb, hn, q⟩ := h
  simp only [tdR, tdN, tdSq, tdE, tdIf, tdSet, tdF, tdRO, tdAsg, tdSub, tdAug, tdAugS, tdApp, tdPar, tdPar3, tdRaise, tV, tBo, tK, t2, t1, kI, kU, kEq, kEqS, kN, kIx, kST, kSL, kRv, kRvT, kCL, kCT, kRL, kRT, tCh, tTe, tNo, tAn, tOr', tAnV, DL.tOrV, kNo, tIfE, taC, tTp, tLs, tBi, kLen, kAbs, kMM, kInt, kTupc, kLisc, tSc, toN, toS, tOf, gNm, gNl, gCs, gTu, kIsi, kMn, kMx, kRp, tFz, tiS, tiO, tiR1, tiR2, tiRd, tiE, tCal, tCalB, startD, DL.startB, noIo_eq, nio_d, nio_un, nio_own, asD_d, asD_own, asD_io, CT, CNz, tYesD, ex0, tdFor, tdLc, wipeD, isDat_eq, dat_d, dat_un, Owns, setO, List.map_cons, List.map_nil, List.cons_append, List.nil_append, List.length_cons, List.length_nil, List.replicate, List.replicate_succ, List.replicate_zero, List.getElem?_cons_zero, List.getElem?_cons_succ, List.set_cons_zero, List.set_cons_succ, Option.some.injEq, SV.d.injEq, SV.own.injEq, SV.io.injEq, PyData.int.injEq, PyData.str.injEq, PyData.bool.injEq, PyData.tuple.injEq, PyData.list.injEq, exists_eq_left', exists_eq_left, exists_eq_right, exists_eq_right', exists_and_left, true_and, and_true, if_true, if_false, id, reduceCtorEq, false_or, or_false, exists_false, List.cons.injEq, and_self, SV.d.injEq, Nat.reduceAdd, Nat.reduceSub, ite_true, ite_false, decide_eq_true_eq, Bool.false_eq_true, exists_const, decide_true, decide_false, List.forall_mem_cons, List.forall_mem_nil, Bool.not_true, Bool.not_false, Bool.not_eq_true, Nat.reduceLT, forall_const, implies_true, and_assoc, true_or, or_true, List.not_mem_nil, false_implies, Int.natCast_inj, not_true_eq_false, not_false_eq_true, and_false, false_and, sp__law_gcd, shI, eqI]
  have e1 := made_num a b hn
  have e2 := made_den a b hn
  have c1 := cmu_sgn (b := b) ha
  have c2 := cmu_sgn (b := b) hb
  have g := gcd_ne a b hn
  by_cases h : b < 0
  · have h' : ¬ 0 < b := by omega
    rw [if_neg h'] at e1 e2 c1 c2
    rw [if_pos h]
    refine ⟨c1, g, c2, g, by rw [sizeLine_eq]; decide, ?_⟩
    rw [e1, e2]; exact q
  · have h' : 0 < b := by omega
    rw [if_pos h'] at e1 e2 c1 c2
    rw [if_neg h]
    refine ⟨c1, g, c2, g, by rw [sizeLine_eq]; decide, ?_⟩
    rw [e1, e2]; exact q
def hd (cs : List Int) (k : Int) : Int := (cs.drop k.toNat).head?.getD 0
theorem hd_nn {cs : List Int} {k : Int} (h : ∀ c ∈ cs, 0 ≤ c) : 0 ≤ hd cs k := by
  unfold hd
  cases e : cs.drop k.toNat with
  | nil => exact Int.le_refl _
  | cons a l =>
    have : a ∈ cs := List.mem_of_mem_drop (by rw [e]; exact List.mem_cons_self)
    exact h a this
theorem cells_at {cs : List Int} {k : Int} (h : 0 ≤ k) : atI (DL.cutD (cs.map PyData.int) (some k) none ++ [PyData.int 0]) 0 = some (.int (hd cs k)) := by
  have e : DL.cutD (cs.map PyData.int) (some k) none = (cs.map PyData.int).drop k.toNat := by
    unfold DL.cutD
    have e1 : HT.sIx (cs.map PyData.int).length (cs.map PyData.int).length none = (cs.map PyData.int).length := rfl
    have e0 : HT.sIx (cs.map PyData.int).length 0 (some k) = min k.toNat (cs.map PyData.int).length := by
      unfold HT.sIx
      simp only
      rw [if_neg (by omega)]
    rw [e1, e0]
    by_cases hk : k.toNat ≤ (cs.map PyData.int).length
    · rw [Nat.min_eq_left hk, List.take_of_length_le (by rw [List.length_drop]; omega)]
    · rw [Nat.min_eq_right (by omega), List.drop_length, List.drop_eq_nil_of_le (by omega), List.take_nil]
  rw [e]
  unfold hd
  rw [← List.map_drop]
  cases cs.drop k.toNat with
  | nil => rfl
  | cons a l =>
    unfold atI
    rw [show ixN ((a :: l).map PyData.int ++ [PyData.int 0]).length 0 = some 0 from ixN_nat (i := 0) (by simp)]
    rfl
theorem cut_len {cs : List Int} {k : Int} (h : 0 ≤ k) : (DL.cutD (cs.map PyData.int) (some k) none).length ≤ cs.length := by
  unfold DL.cutD
  rw [List.length_take, List.length_drop, List.length_map]; omega
theorem at4_0 {a b c d : D} : atI [a, b, c, d] 0 = some a := rfl
theorem at4_1 {a b c d : D} : atI [a, b, c, d] 1 = some b := rfl
theorem at4_2 {a b c d : D} : atI [a, b, c, d] 2 = some c := rfl
theorem at4_3 {a b c d : D} : atI [a, b, c, d] 3 = some d := rfl
theorem ix4_0 : ixN 4 0 = some 0 := rfl
theorem ix4_1 : ixN 4 1 = some 1 := rfl
theorem sq_gen {t u : TDS} {ex : Ex} {D : DEnds} {δ : List SV} (h : ∀ R : List SV → Prop, (∀ δ', u ex D δ' → R δ') → t ex { D with nx := R } δ) : tdSq t u ex D δ := h _ fun _ x => x
theorem if_gen {c : TDT} {t u : TDS} {ex : Ex} {D : DEnds} {δ : List SV} (h : ∀ Rt Ru : List SV → Prop, (∀ δ', t ex D δ' → Rt δ') → (∀ δ', u ex D δ' → Ru δ') → c ex δ fun k δ1 => if k = true then Rt δ1 else Ru δ1) : tdIf c t u ex D δ := h _ _ (fun _ x => x) fun _ x => x
theorem cmu_lt {a b : Int} (h : a.natAbs < 2 ^ 64) (g : b.natAbs < 2 ^ 64) : CMu a b := by
  have l : ∀ n : Nat, n < 2 ^ 64 → n.log2 ≤ 64 := fun n hn => by
    by_cases e : n = 0
    · subst e; decide
    · exact Nat.le_of_lt ((Nat.log2_lt e).mpr hn)
  have := l _ h
  have := l _ g
  unfold CMu; omega
theorem fm_bd (a : Int) {b : Int} (h : 0 < b) : 0 ≤ a.fmod b ∧ a.fmod b < b := ⟨Int.fmod_nonneg_of_pos a h, Int.fmod_lt_of_pos a h⟩
theorem fd_nn {a b : Int} (ha : 0 ≤ a) (h : 0 < b) : 0 ≤ a.fdiv b := by rw [Int.fdiv_eq_ediv_of_nonneg _ (by omega)]; exact Int.ediv_nonneg ha (by omega)
theorem sc__law_take : FnScope ["bag", "many", "cell", "stirred", "value", "begin", "second"] ["bag", "many"] (defScope s__law_take) := ⟨rfl, rfl, rfl, by decide +kernel, rfl, by decide +kernel, by decide +kernel⟩
theorem ok__law_take (T : Txt K mg CN) (hS : base.NoSeer) : FnB pw w K mg base "_law_take" 38 ["bag", "many"] sp__law_take := by
  refine okB (k := 37) T.f__law_take sc__law_take (fun _ _ _ _ _ _ us hl => match us, hl with | [_, _], _ => rfl) (by decide) fun f cdv A outer s H E hr => ?_
  have hu := hr.units
  have hP := plroom (X := cxOf (L2.CX pw w) pw w K mg base ["bag", "many", "cell", "stirred", "value", "begin", "second"] "_law_take" (defScope s__law_take) f cdv A outer s H E) hS rfl rfl rfl rfl rfl rfl hr (by decide)
  refine ⟨_, (dcons (dsif (dteq hu (DE.b (dix (db 0) (DE.b dint))) (DE.b dint)) (dcons (dset 2 sc__law_take.nd (dix (DE.b (dcatL (DE.b (dslL (DE.b (dix (db 0) (DE.b dint))) (dos (DE.b (dix (db 0) (DE.b dint)))) don)) (DE.b (dlst (dacons dint danil))))) (DE.b dint)))
      (dcons (daugS 0 (k := 2) (DE.b dint))
      (dcons (dsif (dtge (DE.b (dv 2)) (DE.b (dpow (DE.b dint) (DE.b dint)))) (done1 (dsub_ 0 (dv 2) (DE.b dint))) dnil)
      (dcons (dset 3 sc__law_take.nd (dadd (DE.b (dadd (DE.b (dmul (DE.b (dix (db 0) (DE.b dint))) (DE.b dint))) (DE.b (dmod (DE.b (dintc (by rfl) T.b_int (dab1 (DE.b (dv 2))))) (DE.b dint))))) (DE.b (dmul (DE.b dint) (DE.b (dix (db 0) (DE.b dint)))))))
      (done1 (dsub_ 0 (dmod (DE.b (dintc (by rfl) T.b_int (dab1 (DE.b (dv 3))))) (DE.b dint)) (DE.b dint))))))) dnil)
      (dcons (dsif (dtgt (DE.b (dix (db 0) (DE.b dint))) (DE.b dint)) (dcons (dset 4 sc__law_take.nd (dmod (DE.b (dintc (by rfl) T.b_int (dab1 (DE.b (dix (db 0) (DE.b dint)))))) (DE.b (dv 1))))
      (dcons (dsub_ 0 (dfdivL hP (DE.b (dintc (by rfl) T.b_int (dab1 (DE.b (dix (db 0) (DE.b dint)))))) (DE.b (dv 1))) (DE.b dint))
      (done1 (dret (dv 4))))) dnil)
      (dcons (dset 5 sc__law_take.nd (dmod (DE.b (dintc (by rfl) T.b_int (dab1 (DE.b (dmul (DE.b (dadd (DE.b (dix (db 0) (DE.b dint))) (DE.b dint))) (DE.b dint)))))) (DE.b dint)))
      (dcons (dset 6 sc__law_take.nd (dmod (DE.b (dintc (by rfl) T.b_int (dab1 (DE.b (dmul (DE.b (dmod (DE.b (dintc (by rfl) T.b_int (dab1 (DE.b (dmul (DE.b (dv 5)) (DE.b (dv 5))))))) (DE.b dint))) (DE.b dint)))))) (DE.b dint)))
      (done1 (dret (dmod (DE.b (dintc (by rfl) T.b_int (dab1 (DE.b (dfdivL hP (DE.b (dv 6)) (DE.b dint)))))) (DE.b (dv 1))))))))), fun bag ds Q h hl => ?_⟩
  obtain ⟨n, many, ⟨b0, b1, b2, cs, rfl, g0, g1, g1', g2, g2', gl, gc⟩, hn, rfl, hm, q⟩ := h
  have hcl := cut_len (cs := cs) g2
  have hcn := hd_nn (cs := cs) (k := b2) gc
  refine sq_gen fun R hR => ?_
  have tl : ∀ (b0 b1 b2 : Int) (s2 s3 : SV), 0 ≤ b0 → 0 ≤ b1 → b1 < 2147483647 → 0 ≤ b2 → b2 ≤ n + 1 → R [.io [.int b0, .int b1, .int b2, .list (cs.map .int)], .d (.int many), s2, s3, .un, .un, .un] := by
    intro b0 b1 b2 s2 s3 g0 g1 g1' g2 g2'
    refine hR _ (sq_gen fun R2 hR2 => if_gen fun Rt Ru ht hu => ?_)
    simp only [tdR, tdN, tdSq, tdE, tdIf, tdSet, tdF, tdRO, tdAsg, tdSub, tdAug, tdAugS, tdApp, tdPar, tdPar3, tdRaise, tV, tBo, tK, t2, t1, kI, kU, kEq, kEqS, kN, kIx, kST, kSL, kRv, kRvT, kCL, kCT, kRL, kRT, tCh, tTe, tNo, tAn, tOr', tAnV, DL.tOrV, kNo, tIfE, taC, tTp, tLs, tBi, kLen, kAbs, kMM, kInt, kTupc, kLisc, tSc, toN, toS, tOf, gNm, gNl, gCs, gTu, kIsi, kMn, kMx, kRp, tFz, tiS, tiO, tiR1, tiR2, tiRd, tiE, tCal, tCalB, startD, DL.startB, noIo_eq, nio_d, nio_un, nio_own, asD_d, asD_own, asD_io, CT, CNz, tYesD, ex0, tdFor, tdLc, wipeD, isDat_eq, dat_d, dat_un, Owns, setO, List.map_cons, List.map_nil, List.cons_append, List.nil_append, List.length_cons, List.length_nil, List.replicate, List.replicate_succ, List.replicate_zero, List.getElem?_cons_zero, List.getElem?_cons_succ, List.set_cons_zero, List.set_cons_succ, Option.some.injEq, SV.d.injEq, SV.own.injEq, SV.io.injEq, PyData.int.injEq, PyData.str.injEq, PyData.bool.injEq, PyData.tuple.injEq, PyData.list.injEq, exists_eq_left', exists_eq_left, exists_eq_right, exists_eq_right', exists_and_left, true_and, and_true, if_true, if_false, id, reduceCtorEq, false_or, or_false, exists_false, List.cons.injEq, and_self, SV.d.injEq, Nat.reduceAdd, Nat.reduceSub, ite_true, ite_false, decide_eq_true_eq, Bool.false_eq_true, exists_const, decide_true, decide_false, List.forall_mem_cons, List.forall_mem_nil, Bool.not_true, Bool.not_false, Bool.not_eq_true, Nat.reduceLT, forall_const, implies_true, and_assoc, true_or, or_true, List.not_mem_nil, false_implies, Int.natCast_inj, not_true_eq_false, not_false_eq_true, and_false, false_and, at4_0, at4_1, at4_2, at4_3, ix4_0, ix4_1, shI, eqI]
    by_cases hb : 0 < b0
    · rw [if_pos hb]
      refine ht _ ?_
      obtain ⟨f1, f2⟩ := fm_bd b0 hm
      simp only [tdR, tdN, tdSq, tdE, tdIf, tdSet, tdF, tdRO, tdAsg, tdSub, tdAug, tdAugS, tdApp, tdPar, tdPar3, tdRaise, tV, tBo, tK, t2, t1, kI, kU, kEq, kEqS, kN, kIx, kST, kSL, kRv, kRvT, kCL, kCT, kRL, kRT, tCh, tTe, tNo, tAn, tOr', tAnV, DL.tOrV, kNo, tIfE, taC, tTp, tLs, tBi, kLen, kAbs, kMM, kInt, kTupc, kLisc, tSc, toN, toS, tOf, gNm, gNl, gCs, gTu, kIsi, kMn, kMx, kRp, tFz, tiS, tiO, tiR1, tiR2, tiRd, tiE, tCal, tCalB, startD, DL.startB, noIo_eq, nio_d, nio_un, nio_own, asD_d, asD_own, asD_io, CT, CNz, tYesD, ex0, tdFor, tdLc, wipeD, isDat_eq, dat_d, dat_un, Owns, setO, List.map_cons, List.map_nil, List.cons_append, List.nil_append, List.length_cons, List.length_nil, List.replicate, List.replicate_succ, List.replicate_zero, List.getElem?_cons_zero, List.getElem?_cons_succ, List.set_cons_zero, List.set_cons_succ, Option.some.injEq, SV.d.injEq, SV.own.injEq, SV.io.injEq, PyData.int.injEq, PyData.str.injEq, PyData.bool.injEq, PyData.tuple.injEq, PyData.list.injEq, exists_eq_left', exists_eq_left, exists_eq_right, exists_eq_right', exists_and_left, true_and, and_true, if_true, if_false, id, reduceCtorEq, false_or, or_false, exists_false, List.cons.injEq, and_self, SV.d.injEq, Nat.reduceAdd, Nat.reduceSub, ite_true, ite_false, decide_eq_true_eq, Bool.false_eq_true, exists_const, decide_true, decide_false, List.forall_mem_cons, List.forall_mem_nil, Bool.not_true, Bool.not_false, Bool.not_eq_true, Nat.reduceLT, forall_const, implies_true, and_assoc, true_or, or_true, List.not_mem_nil, false_implies, Int.natCast_inj, not_true_eq_false, not_false_eq_true, and_false, false_and, at4_0, at4_1, at4_2, at4_3, ix4_0, ix4_1, shI, eqI]
      exact ⟨by omega, by omega, ⟨_, rfl⟩, q _ _ f1 f2 ⟨_, _, _, cs, rfl, fd_nn g0 hm, g1, g1', g2, by omega, gl, gc⟩⟩
    · rw [if_neg hb]
      refine hu _ (hR2 _ (sq_gen fun R3 hR3 => ?_))
      simp only [tdR, tdN, tdSq, tdE, tdIf, tdSet, tdF, tdRO, tdAsg, tdSub, tdAug, tdAugS, tdApp, tdPar, tdPar3, tdRaise, tV, tBo, tK, t2, t1, kI, kU, kEq, kEqS, kN, kIx, kST, kSL, kRv, kRvT, kCL, kCT, kRL, kRT, tCh, tTe, tNo, tAn, tOr', tAnV, DL.tOrV, kNo, tIfE, taC, tTp, tLs, tBi, kLen, kAbs, kMM, kInt, kTupc, kLisc, tSc, toN, toS, tOf, gNm, gNl, gCs, gTu, kIsi, kMn, kMx, kRp, tFz, tiS, tiO, tiR1, tiR2, tiRd, tiE, tCal, tCalB, startD, DL.startB, noIo_eq, nio_d, nio_un, nio_own, asD_d, asD_own, asD_io, CT, CNz, tYesD, ex0, tdFor, tdLc, wipeD, isDat_eq, dat_d, dat_un, Owns, setO, List.map_cons, List.map_nil, List.cons_append, List.nil_append, List.length_cons, List.length_nil, List.replicate, List.replicate_succ, List.replicate_zero, List.getElem?_cons_zero, List.getElem?_cons_succ, List.set_cons_zero, List.set_cons_succ, Option.some.injEq, SV.d.injEq, SV.own.injEq, SV.io.injEq, PyData.int.injEq, PyData.str.injEq, PyData.bool.injEq, PyData.tuple.injEq, PyData.list.injEq, exists_eq_left', exists_eq_left, exists_eq_right, exists_eq_right', exists_and_left, true_and, and_true, if_true, if_false, id, reduceCtorEq, false_or, or_false, exists_false, List.cons.injEq, and_self, SV.d.injEq, Nat.reduceAdd, Nat.reduceSub, ite_true, ite_false, decide_eq_true_eq, Bool.false_eq_true, exists_const, decide_true, decide_false, List.forall_mem_cons, List.forall_mem_nil, Bool.not_true, Bool.not_false, Bool.not_eq_true, Nat.reduceLT, forall_const, implies_true, and_assoc, true_or, or_true, List.not_mem_nil, false_implies, Int.natCast_inj, not_true_eq_false, not_false_eq_true, and_false, false_and, at4_0, at4_1, at4_2, at4_3, ix4_0, ix4_1, shI, eqI]
      refine ⟨cmu_lt (by omega) (by decide), by decide, ?_⟩
      obtain ⟨f1, f2⟩ := fm_bd ((b1 + 1) * 39373) (b := 1000000007) (by decide)
      generalize ((b1 + 1) * 39373).fmod 1000000007 = bg at *
      refine hR3 _ (sq_gen fun R4 hR4 => ?_)
      simp only [tdR, tdN, tdSq, tdE, tdIf, tdSet, tdF, tdRO, tdAsg, tdSub, tdAug, tdAugS, tdApp, tdPar, tdPar3, tdRaise, tV, tBo, tK, t2, t1, kI, kU, kEq, kEqS, kN, kIx, kST, kSL, kRv, kRvT, kCL, kCT, kRL, kRT, tCh, tTe, tNo, tAn, tOr', tAnV, DL.tOrV, kNo, tIfE, taC, tTp, tLs, tBi, kLen, kAbs, kMM, kInt, kTupc, kLisc, tSc, toN, toS, tOf, gNm, gNl, gCs, gTu, kIsi, kMn, kMx, kRp, tFz, tiS, tiO, tiR1, tiR2, tiRd, tiE, tCal, tCalB, startD, DL.startB, noIo_eq, nio_d, nio_un, nio_own, asD_d, asD_own, asD_io, CT, CNz, tYesD, ex0, tdFor, tdLc, wipeD, isDat_eq, dat_d, dat_un, Owns, setO, List.map_cons, List.map_nil, List.cons_append, List.nil_append, List.length_cons, List.length_nil, List.replicate, List.replicate_succ, List.replicate_zero, List.getElem?_cons_zero, List.getElem?_cons_succ, List.set_cons_zero, List.set_cons_succ, Option.some.injEq, SV.d.injEq, SV.own.injEq, SV.io.injEq, PyData.int.injEq, PyData.str.injEq, PyData.bool.injEq, PyData.tuple.injEq, PyData.list.injEq, exists_eq_left', exists_eq_left, exists_eq_right, exists_eq_right', exists_and_left, true_and, and_true, if_true, if_false, id, reduceCtorEq, false_or, or_false, exists_false, List.cons.injEq, and_self, SV.d.injEq, Nat.reduceAdd, Nat.reduceSub, ite_true, ite_false, decide_eq_true_eq, Bool.false_eq_true, exists_const, decide_true, decide_false, List.forall_mem_cons, List.forall_mem_nil, Bool.not_true, Bool.not_false, Bool.not_eq_true, Nat.reduceLT, forall_const, implies_true, and_assoc, true_or, or_true, List.not_mem_nil, false_implies, Int.natCast_inj, not_true_eq_false, not_false_eq_true, and_false, false_and, at4_0, at4_1, at4_2, at4_3, ix4_0, ix4_1, shI, eqI]
      obtain ⟨f3, f4⟩ := fm_bd (bg * bg) (b := 998244353) (by decide)
      refine ⟨cmu_lt (by omega) (by omega), by decide, ?_⟩
      generalize (bg * bg).fmod 998244353 = sc at *
      refine ⟨cmu_lt (by omega) (by decide), by decide, ?_⟩
      refine hR4 _ ?_
      simp only [tdR, tdN, tdSq, tdE, tdIf, tdSet, tdF, tdRO, tdAsg, tdSub, tdAug, tdAugS, tdApp, tdPar, tdPar3, tdRaise, tV, tBo, tK, t2, t1, kI, kU, kEq, kEqS, kN, kIx, kST, kSL, kRv, kRvT, kCL, kCT, kRL, kRT, tCh, tTe, tNo, tAn, tOr', tAnV, DL.tOrV, kNo, tIfE, taC, tTp, tLs, tBi, kLen, kAbs, kMM, kInt, kTupc, kLisc, tSc, toN, toS, tOf, gNm, gNl, gCs, gTu, kIsi, kMn, kMx, kRp, tFz, tiS, tiO, tiR1, tiR2, tiRd, tiE, tCal, tCalB, startD, DL.startB, noIo_eq, nio_d, nio_un, nio_own, asD_d, asD_own, asD_io, CT, CNz, tYesD, ex0, tdFor, tdLc, wipeD, isDat_eq, dat_d, dat_un, Owns, setO, List.map_cons, List.map_nil, List.cons_append, List.nil_append, List.length_cons, List.length_nil, List.replicate, List.replicate_succ, List.replicate_zero, List.getElem?_cons_zero, List.getElem?_cons_succ, List.set_cons_zero, List.set_cons_succ, Option.some.injEq, SV.d.injEq, SV.own.injEq, SV.io.injEq, PyData.int.injEq, PyData.str.injEq, PyData.bool.injEq, PyData.tuple.injEq, PyData.list.injEq, exists_eq_left', exists_eq_left, exists_eq_right, exists_eq_right', exists_and_left, true_and, and_true, if_true, if_false, id, reduceCtorEq, false_or, or_false, exists_false, List.cons.injEq, and_self, SV.d.injEq, Nat.reduceAdd, Nat.reduceSub, ite_true, ite_false, decide_eq_true_eq, Bool.false_eq_true, exists_const, decide_true, decide_false, List.forall_mem_cons, List.forall_mem_nil, Bool.not_true, Bool.not_false, Bool.not_eq_true, Nat.reduceLT, forall_const, implies_true, and_assoc, true_or, or_true, List.not_mem_nil, false_implies, Int.natCast_inj, not_true_eq_false, not_false_eq_true, and_false, false_and, at4_0, at4_1, at4_2, at4_3, ix4_0, ix4_1, shI, eqI]
      refine ⟨by decide, by omega, ?_⟩
      obtain ⟨f5, f6⟩ := fm_bd (Int.fdiv ((sc * 30011).fmod 998244353) 7) hm
      exact q _ _ f5 f6 ⟨_, _, _, cs, rfl, g0, g1, g1', g2, by omega, gl, gc⟩
  refine if_gen fun Rt Ru ht hu => ?_
  simp only [tdR, tdN, tdSq, tdE, tdIf, tdSet, tdF, tdRO, tdAsg, tdSub, tdAug, tdAugS, tdApp, tdPar, tdPar3, tdRaise, tV, tBo, tK, t2, t1, kI, kU, kEq, kEqS, kN, kIx, kST, kSL, kRv, kRvT, kCL, kCT, kRL, kRT, tCh, tTe, tNo, tAn, tOr', tAnV, DL.tOrV, kNo, tIfE, taC, tTp, tLs, tBi, kLen, kAbs, kMM, kInt, kTupc, kLisc, tSc, toN, toS, tOf, gNm, gNl, gCs, gTu, kIsi, kMn, kMx, kRp, tFz, tiS, tiO, tiR1, tiR2, tiRd, tiE, tCal, tCalB, startD, DL.startB, noIo_eq, nio_d, nio_un, nio_own, asD_d, asD_own, asD_io, CT, CNz, tYesD, ex0, tdFor, tdLc, wipeD, isDat_eq, dat_d, dat_un, Owns, setO, List.map_cons, List.map_nil, List.cons_append, List.nil_append, List.length_cons, List.length_nil, List.replicate, List.replicate_succ, List.replicate_zero, List.getElem?_cons_zero, List.getElem?_cons_succ, List.set_cons_zero, List.set_cons_succ, Option.some.injEq, SV.d.injEq, SV.own.injEq, SV.io.injEq, PyData.int.injEq, PyData.str.injEq, PyData.bool.injEq, PyData.tuple.injEq, PyData.list.injEq, exists_eq_left', exists_eq_left, exists_eq_right, exists_eq_right', exists_and_left, true_and, and_true, if_true, if_false, id, reduceCtorEq, false_or, or_false, exists_false, List.cons.injEq, and_self, SV.d.injEq, Nat.reduceAdd, Nat.reduceSub, ite_true, ite_false, decide_eq_true_eq, Bool.false_eq_true, exists_const, decide_true, decide_false, List.forall_mem_cons, List.forall_mem_nil, Bool.not_true, Bool.not_false, Bool.not_eq_true, Nat.reduceLT, forall_const, implies_true, and_assoc, true_or, or_true, List.not_mem_nil, false_implies, Int.natCast_inj, not_true_eq_false, not_false_eq_true, and_false, false_and, at4_0, at4_1, at4_2, at4_3, ix4_0, ix4_1, shI, eqI]
  by_cases hb : b0 = 0
  · subst hb
    rw [if_pos (by decide)]
    refine ht _ (sq_gen fun R1 h1 => ?_)
    simp only [tdR, tdN, tdSq, tdE, tdIf, tdSet, tdF, tdRO, tdAsg, tdSub, tdAug, tdAugS, tdApp, tdPar, tdPar3, tdRaise, tV, tBo, tK, t2, t1, kI, kU, kEq, kEqS, kN, kIx, kST, kSL, kRv, kRvT, kCL, kCT, kRL, kRT, tCh, tTe, tNo, tAn, tOr', tAnV, DL.tOrV, kNo, tIfE, taC, tTp, tLs, tBi, kLen, kAbs, kMM, kInt, kTupc, kLisc, tSc, toN, toS, tOf, gNm, gNl, gCs, gTu, kIsi, kMn, kMx, kRp, tFz, tiS, tiO, tiR1, tiR2, tiRd, tiE, tCal, tCalB, startD, DL.startB, noIo_eq, nio_d, nio_un, nio_own, asD_d, asD_own, asD_io, CT, CNz, tYesD, ex0, tdFor, tdLc, wipeD, isDat_eq, dat_d, dat_un, Owns, setO, List.map_cons, List.map_nil, List.cons_append, List.nil_append, List.length_cons, List.length_nil, List.replicate, List.replicate_succ, List.replicate_zero, List.getElem?_cons_zero, List.getElem?_cons_succ, List.set_cons_zero, List.set_cons_succ, Option.some.injEq, SV.d.injEq, SV.own.injEq, SV.io.injEq, PyData.int.injEq, PyData.str.injEq, PyData.bool.injEq, PyData.tuple.injEq, PyData.list.injEq, exists_eq_left', exists_eq_left, exists_eq_right, exists_eq_right', exists_and_left, true_and, and_true, if_true, if_false, id, reduceCtorEq, false_or, or_false, exists_false, List.cons.injEq, and_self, SV.d.injEq, Nat.reduceAdd, Nat.reduceSub, ite_true, ite_false, decide_eq_true_eq, Bool.false_eq_true, exists_const, decide_true, decide_false, List.forall_mem_cons, List.forall_mem_nil, Bool.not_true, Bool.not_false, Bool.not_eq_true, Nat.reduceLT, forall_const, implies_true, and_assoc, true_or, or_true, List.not_mem_nil, false_implies, Int.natCast_inj, not_true_eq_false, not_false_eq_true, and_false, false_and, at4_0, at4_1, at4_2, at4_3, ix4_0, ix4_1, shI, eqI, cells_at g2]
    refine ⟨by rw [sizeLine_eq]; decide, by rw [sizeLine_eq]; omega, h1 _ (sq_gen fun R2 h2 => ?_)⟩
    simp only [tdR, tdN, tdSq, tdE, tdIf, tdSet, tdF, tdRO, tdAsg, tdSub, tdAug, tdAugS, tdApp, tdPar, tdPar3, tdRaise, tV, tBo, tK, t2, t1, kI, kU, kEq, kEqS, kN, kIx, kST, kSL, kRv, kRvT, kCL, kCT, kRL, kRT, tCh, tTe, tNo, tAn, tOr', tAnV, DL.tOrV, kNo, tIfE, taC, tTp, tLs, tBi, kLen, kAbs, kMM, kInt, kTupc, kLisc, tSc, toN, toS, tOf, gNm, gNl, gCs, gTu, kIsi, kMn, kMx, kRp, tFz, tiS, tiO, tiR1, tiR2, tiRd, tiE, tCal, tCalB, startD, DL.startB, noIo_eq, nio_d, nio_un, nio_own, asD_d, asD_own, asD_io, CT, CNz, tYesD, ex0, tdFor, tdLc, wipeD, isDat_eq, dat_d, dat_un, Owns, setO, List.map_cons, List.map_nil, List.cons_append, List.nil_append, List.length_cons, List.length_nil, List.replicate, List.replicate_succ, List.replicate_zero, List.getElem?_cons_zero, List.getElem?_cons_succ, List.set_cons_zero, List.set_cons_succ, Option.some.injEq, SV.d.injEq, SV.own.injEq, SV.io.injEq, PyData.int.injEq, PyData.str.injEq, PyData.bool.injEq, PyData.tuple.injEq, PyData.list.injEq, exists_eq_left', exists_eq_left, exists_eq_right, exists_eq_right', exists_and_left, true_and, and_true, if_true, if_false, id, reduceCtorEq, false_or, or_false, exists_false, List.cons.injEq, and_self, SV.d.injEq, Nat.reduceAdd, Nat.reduceSub, ite_true, ite_false, decide_eq_true_eq, Bool.false_eq_true, exists_const, decide_true, decide_false, List.forall_mem_cons, List.forall_mem_nil, Bool.not_true, Bool.not_false, Bool.not_eq_true, Nat.reduceLT, forall_const, implies_true, and_assoc, true_or, or_true, List.not_mem_nil, false_implies, Int.natCast_inj, not_true_eq_false, not_false_eq_true, and_false, false_and, at4_0, at4_1, at4_2, at4_3, ix4_0, ix4_1, shI, eqI]
    refine h2 _ (sq_gen fun R3 h3 => ?_)
    have go : ∀ b0 : Int, 0 ≤ b0 → R3 [.io [.int b0, .int b1, .int (b2 + 1), .list (cs.map .int)], .d (.int many), .d (.int (hd cs b2)), .un, .un, .un, .un] := by
      intro b0 g0
      refine h3 _ (sq_gen fun R4 h4 => ?_)
      simp only [tdR, tdN, tdSq, tdE, tdIf, tdSet, tdF, tdRO, tdAsg, tdSub, tdAug, tdAugS, tdApp, tdPar, tdPar3, tdRaise, tV, tBo, tK, t2, t1, kI, kU, kEq, kEqS, kN, kIx, kST, kSL, kRv, kRvT, kCL, kCT, kRL, kRT, tCh, tTe, tNo, tAn, tOr', tAnV, DL.tOrV, kNo, tIfE, taC, tTp, tLs, tBi, kLen, kAbs, kMM, kInt, kTupc, kLisc, tSc, toN, toS, tOf, gNm, gNl, gCs, gTu, kIsi, kMn, kMx, kRp, tFz, tiS, tiO, tiR1, tiR2, tiRd, tiE, tCal, tCalB, startD, DL.startB, noIo_eq, nio_d, nio_un, nio_own, asD_d, asD_own, asD_io, CT, CNz, tYesD, ex0, tdFor, tdLc, wipeD, isDat_eq, dat_d, dat_un, Owns, setO, List.map_cons, List.map_nil, List.cons_append, List.nil_append, List.length_cons, List.length_nil, List.replicate, List.replicate_succ, List.replicate_zero, List.getElem?_cons_zero, List.getElem?_cons_succ, List.set_cons_zero, List.set_cons_succ, Option.some.injEq, SV.d.injEq, SV.own.injEq, SV.io.injEq, PyData.int.injEq, PyData.str.injEq, PyData.bool.injEq, PyData.tuple.injEq, PyData.list.injEq, exists_eq_left', exists_eq_left, exists_eq_right, exists_eq_right', exists_and_left, true_and, and_true, if_true, if_false, id, reduceCtorEq, false_or, or_false, exists_false, List.cons.injEq, and_self, SV.d.injEq, Nat.reduceAdd, Nat.reduceSub, ite_true, ite_false, decide_eq_true_eq, Bool.false_eq_true, exists_const, decide_true, decide_false, List.forall_mem_cons, List.forall_mem_nil, Bool.not_true, Bool.not_false, Bool.not_eq_true, Nat.reduceLT, forall_const, implies_true, and_assoc, true_or, or_true, List.not_mem_nil, false_implies, Int.natCast_inj, not_true_eq_false, not_false_eq_true, and_false, false_and, at4_0, at4_1, at4_2, at4_3, ix4_0, ix4_1, shI, eqI]
      refine ⟨cmu_lt (by omega) (by decide), by decide, cmu_lt (by decide) (by omega), h4 _ ?_⟩
      simp only [tdR, tdN, tdSq, tdE, tdIf, tdSet, tdF, tdRO, tdAsg, tdSub, tdAug, tdAugS, tdApp, tdPar, tdPar3, tdRaise, tV, tBo, tK, t2, t1, kI, kU, kEq, kEqS, kN, kIx, kST, kSL, kRv, kRvT, kCL, kCT, kRL, kRT, tCh, tTe, tNo, tAn, tOr', tAnV, DL.tOrV, kNo, tIfE, taC, tTp, tLs, tBi, kLen, kAbs, kMM, kInt, kTupc, kLisc, tSc, toN, toS, tOf, gNm, gNl, gCs, gTu, kIsi, kMn, kMx, kRp, tFz, tiS, tiO, tiR1, tiR2, tiRd, tiE, tCal, tCalB, startD, DL.startB, noIo_eq, nio_d, nio_un, nio_own, asD_d, asD_own, asD_io, CT, CNz, tYesD, ex0, tdFor, tdLc, wipeD, isDat_eq, dat_d, dat_un, Owns, setO, List.map_cons, List.map_nil, List.cons_append, List.nil_append, List.length_cons, List.length_nil, List.replicate, List.replicate_succ, List.replicate_zero, List.getElem?_cons_zero, List.getElem?_cons_succ, List.set_cons_zero, List.set_cons_succ, Option.some.injEq, SV.d.injEq, SV.own.injEq, SV.io.injEq, PyData.int.injEq, PyData.str.injEq, PyData.bool.injEq, PyData.tuple.injEq, PyData.list.injEq, exists_eq_left', exists_eq_left, exists_eq_right, exists_eq_right', exists_and_left, true_and, and_true, if_true, if_false, id, reduceCtorEq, false_or, or_false, exists_false, List.cons.injEq, and_self, SV.d.injEq, Nat.reduceAdd, Nat.reduceSub, ite_true, ite_false, decide_eq_true_eq, Bool.false_eq_true, exists_const, decide_true, decide_false, List.forall_mem_cons, List.forall_mem_nil, Bool.not_true, Bool.not_false, Bool.not_eq_true, Nat.reduceLT, forall_const, implies_true, and_assoc, true_or, or_true, List.not_mem_nil, false_implies, Int.natCast_inj, not_true_eq_false, not_false_eq_true, and_false, false_and, at4_0, at4_1, at4_2, at4_3, ix4_0, ix4_1, shI, eqI]
      refine ⟨by decide, ⟨_, rfl⟩, ?_⟩
      obtain ⟨f1, f2⟩ := fm_bd (b1 * 48271 + (hd cs b2).fmod 2147483647 + 7919 * (b2 + 1)) (b := 2147483647) (by decide)
      exact tl _ _ _ _ _ g0 f1 f2 (by omega) (by omega)
    refine if_gen fun Rt Ru ht hu => ?_
    simp only [tdR, tdN, tdSq, tdE, tdIf, tdSet, tdF, tdRO, tdAsg, tdSub, tdAug, tdAugS, tdApp, tdPar, tdPar3, tdRaise, tV, tBo, tK, t2, t1, kI, kU, kEq, kEqS, kN, kIx, kST, kSL, kRv, kRvT, kCL, kCT, kRL, kRT, tCh, tTe, tNo, tAn, tOr', tAnV, DL.tOrV, kNo, tIfE, taC, tTp, tLs, tBi, kLen, kAbs, kMM, kInt, kTupc, kLisc, tSc, toN, toS, tOf, gNm, gNl, gCs, gTu, kIsi, kMn, kMx, kRp, tFz, tiS, tiO, tiR1, tiR2, tiRd, tiE, tCal, tCalB, startD, DL.startB, noIo_eq, nio_d, nio_un, nio_own, asD_d, asD_own, asD_io, CT, CNz, tYesD, ex0, tdFor, tdLc, wipeD, isDat_eq, dat_d, dat_un, Owns, setO, List.map_cons, List.map_nil, List.cons_append, List.nil_append, List.length_cons, List.length_nil, List.replicate, List.replicate_succ, List.replicate_zero, List.getElem?_cons_zero, List.getElem?_cons_succ, List.set_cons_zero, List.set_cons_succ, Option.some.injEq, SV.d.injEq, SV.own.injEq, SV.io.injEq, PyData.int.injEq, PyData.str.injEq, PyData.bool.injEq, PyData.tuple.injEq, PyData.list.injEq, exists_eq_left', exists_eq_left, exists_eq_right, exists_eq_right', exists_and_left, true_and, and_true, if_true, if_false, id, reduceCtorEq, false_or, or_false, exists_false, List.cons.injEq, and_self, SV.d.injEq, Nat.reduceAdd, Nat.reduceSub, ite_true, ite_false, decide_eq_true_eq, Bool.false_eq_true, exists_const, decide_true, decide_false, List.forall_mem_cons, List.forall_mem_nil, Bool.not_true, Bool.not_false, Bool.not_eq_true, Nat.reduceLT, forall_const, implies_true, and_assoc, true_or, or_true, List.not_mem_nil, false_implies, Int.natCast_inj, not_true_eq_false, not_false_eq_true, and_false, false_and, at4_0, at4_1, at4_2, at4_3, ix4_0, ix4_1, shI, eqI]
    refine ⟨⟨by decide, by decide, by decide⟩, ?_⟩
    split
    · refine ht _ ?_
      simp only [tdR, tdN, tdSq, tdE, tdIf, tdSet, tdF, tdRO, tdAsg, tdSub, tdAug, tdAugS, tdApp, tdPar, tdPar3, tdRaise, tV, tBo, tK, t2, t1, kI, kU, kEq, kEqS, kN, kIx, kST, kSL, kRv, kRvT, kCL, kCT, kRL, kRT, tCh, tTe, tNo, tAn, tOr', tAnV, DL.tOrV, kNo, tIfE, taC, tTp, tLs, tBi, kLen, kAbs, kMM, kInt, kTupc, kLisc, tSc, toN, toS, tOf, gNm, gNl, gCs, gTu, kIsi, kMn, kMx, kRp, tFz, tiS, tiO, tiR1, tiR2, tiRd, tiE, tCal, tCalB, startD, DL.startB, noIo_eq, nio_d, nio_un, nio_own, asD_d, asD_own, asD_io, CT, CNz, tYesD, ex0, tdFor, tdLc, wipeD, isDat_eq, dat_d, dat_un, Owns, setO, List.map_cons, List.map_nil, List.cons_append, List.nil_append, List.length_cons, List.length_nil, List.replicate, List.replicate_succ, List.replicate_zero, List.getElem?_cons_zero, List.getElem?_cons_succ, List.set_cons_zero, List.set_cons_succ, Option.some.injEq, SV.d.injEq, SV.own.injEq, SV.io.injEq, PyData.int.injEq, PyData.str.injEq, PyData.bool.injEq, PyData.tuple.injEq, PyData.list.injEq, exists_eq_left', exists_eq_left, exists_eq_right, exists_eq_right', exists_and_left, true_and, and_true, if_true, if_false, id, reduceCtorEq, false_or, or_false, exists_false, List.cons.injEq, and_self, SV.d.injEq, Nat.reduceAdd, Nat.reduceSub, ite_true, ite_false, decide_eq_true_eq, Bool.false_eq_true, exists_const, decide_true, decide_false, List.forall_mem_cons, List.forall_mem_nil, Bool.not_true, Bool.not_false, Bool.not_eq_true, Nat.reduceLT, forall_const, implies_true, and_assoc, true_or, or_true, List.not_mem_nil, false_implies, Int.natCast_inj, not_true_eq_false, not_false_eq_true, and_false, false_and, at4_0, at4_1, at4_2, at4_3, ix4_0, ix4_1, shI, eqI]
      exact ⟨⟨_, rfl⟩, go _ hcn⟩
    · exact hu _ (go 0 (Int.le_refl _))
  · have hb' : (b0 == 0) = false := by simp [hb]
    rw [hb', if_neg (by decide)]
    exact hu _ (tl _ _ _ _ _ g0 g1 g1' g2 (by omega))
end
end K70
namespace K70
open PySem PySem.Spec L2 DL
open PyProof.Rows hiding St

section
variable {w : World} {K : PySem.W.Frag} {mg : Str → Option Value} {base : Heap} {CN : Addr}

open PM
def iat (l : List Int) (i : Nat) : Int := l[i]?.getD 0
theorem map_int_inj {l m : List Int} : l.map PyData.int = m.map PyData.int ↔ l = m := ⟨fun h => by
  induction l generalizing m with
  | nil => cases m with
    | nil => rfl
    | cons b m => simp at h
  | cons a l ih => cases m with
    | nil => simp at h
    | cons b m =>
      simp only [List.map_cons, List.cons.injEq, PyData.int.injEq] at h
      rw [h.1, ih h.2], fun h => by rw [h]⟩
theorem canZ : ∀ l : List Int, PyData.canLayAll0 (l.map PyData.int) = true
  | [] => rfl
  | a :: l => by rw [List.map_cons, PyData.canLayAll0, canZ l]; rfl
theorem depZ : ∀ l : List Int, PyData.depthAll (l.map PyData.int) = 0
  | [] => by simp [PyData.depthAll]
  | a :: l => by rw [List.map_cons, PyData.depthAll, depZ l]; rfl
theorem shLZ (l : List Int) : SeqAt.shaped (.list (l.map PyData.int)) = true := by
  unfold SeqAt.shaped
  rw [Bool.and_eq_true]
  refine ⟨canZ l, decide_eq_true ?_⟩
  show PyData.depthAll _ + 1 ≤ 64
  rw [depZ]; decide
theorem shL0 : SeqAt.shaped (.list []) = true := rfl
theorem eqLZ (l : List Int) : PyData.eqv (.list (l.map PyData.int)) (.list []) = decide (l = []) := by
  cases l with
  | nil => rfl
  | cons a l => rw [PyData.eqv, List.map_cons, PyData.eqvAll]; simp
theorem get_int {l : List Int} {i : Nat} {x : D} (h : (l.map PyData.int)[i]? = some x) : i < l.length ∧ x = .int (iat l i) := by
  rw [List.getElem?_map] at h
  by_cases hi : i < l.length
  · unfold iat
    rw [List.getElem?_eq_getElem hi] at h ⊢
    exact ⟨hi, (Option.some.inj h).symm⟩
  · rw [List.getElem?_eq_none (by omega)] at h; cases h
theorem atI_int {l : List Int} {i : Nat} (h : i < l.length) : atI (l.map PyData.int) (i : Int) = some (.int (iat l i)) := by
  unfold atI
  rw [List.length_map, ixN_nat h]
  show (l.map PyData.int)[i]? = _
  rw [List.getElem?_map]; unfold iat
  rw [List.getElem?_eq_getElem h]; rfl
theorem atI_int2 {l : List Int} {i j : Nat} (h : i + j < l.length) : atI (l.map PyData.int) ((i : Int) + (j : Int)) = some (.int (iat l (i + j))) := by
  have e : (i : Int) + (j : Int) = ((i + j : Nat) : Int) := by omega
  rw [e]; exact atI_int h
theorem atI_intb {l : List Int} (h : l ≠ []) : atI (l.map PyData.int) (-1) = some (.int (l.getLast h)) := by
  have := List.length_pos_iff.mpr h
  unfold atI
  rw [List.length_map, ixN_back this]
  show (l.map PyData.int)[l.length - 1]? = _
  rw [List.getElem?_map, List.getElem?_eq_getElem (by omega), List.getLast_eq_getElem]; rfl
theorem cut_last (l : List Int) : DL.cutD (l.map PyData.int) none (some (-1)) = l.dropLast.map PyData.int := by
  unfold DL.cutD
  have e : HT.sIx (l.map PyData.int).length (l.map PyData.int).length (some (-1)) = l.length - 1 := by
    unfold HT.sIx
    simp only [List.length_map]
    rw [if_pos (by decide)]
    omega
  have e0 : HT.sIx (l.map PyData.int).length 0 none = 0 := rfl
  rw [e, e0, List.drop_zero, Nat.sub_zero, ← List.map_take, List.dropLast_eq_take]
theorem at0_ca (l : List Int) (i : Nat) : at0 (ca l) i = ((iat l i : Int) : Rat) := by
  unfold ca at0 iat
  rw [List.getElem?_map]
  cases l[i]? with
  | none => rfl
  | some a => rfl
theorem ca_len (l : List Int) : (ca l).length = l.length := by unfold ca; rw [List.length_map]
theorem cast_ne {a : Int} (h : a ≠ 0) : ((a : Int) : Rat) ≠ 0 := fun z => h (by exact_mod_cast z)
theorem ca_last {l : List Int} (h : l ≠ []) (k : ca l ≠ []) : (ca l).getLast k = ((l.getLast h : Int) : Rat) := by
  unfold ca at k ⊢
  rw [List.getLast_map]
theorem ca_nil {l : List Int} : ca l = [] ↔ l = [] := by unfold ca; exact List.map_eq_nil_iff
theorem tr_ca {l : List Int} (h : ∀ n : l ≠ [], l.getLast n ≠ 0) : Tr (ca l) := tr_of_last fun k => by
  have n : l ≠ [] := fun z => k (ca_nil.mpr z)
  rw [ca_last n k]
  exact cast_ne (h n)
theorem last_ca {l : List Int} (h : Tr (ca l)) (n : l ≠ []) : l.getLast n ≠ 0 := fun z => by
  have k : ca l ≠ [] := fun q => n (ca_nil.mp q)
  have := h.last k
  rw [ca_last n k, z] at this
  exact this rfl
theorem trim_drop {l : List Int} (n : l ≠ []) (h : l.getLast n = 0) : trim (ca l.dropLast) = trim (ca l) := by
  have pl := List.length_pos_iff.mpr n
  have e : ca l.dropLast = (ca l).take (l.length - 1) := by unfold ca; rw [List.dropLast_eq_take, List.map_take]
  have z : at0 (ca l) (l.length - 1) = 0 := by
    rw [at0_ca]
    unfold iat
    rw [List.getElem?_eq_getElem (by omega)]
    rw [List.getLast_eq_getElem] at h
    show ((l[l.length - 1] : Int) : Rat) = 0
    rw [h]; rfl
  rw [e, ← trim_take_succ z, show l.length - 1 + 1 = l.length by omega, List.take_of_length_le (by rw [ca_len]; omega)]
theorem sc__law_alike : FnScope ["found", "due"] ["found", "due"] (defScope s__law_alike) := ⟨rfl, rfl, rfl, by decide +kernel, rfl, by decide +kernel, by decide +kernel⟩
theorem ok__law_alike (T : Txt K mg CN) (hS : base.NoSeer) : FnDG pw w K mg base "_law_alike" 38 ["found", "due"] sp__law_alike := by
  refine okDG (k := 37) T.f__law_alike sc__law_alike (fun _ _ _ _ _ _ us hl => match us, hl with | [_, _], _ => rfl) fun f cdv A outer s H E hr hG => ?_
  have hu := hr.units
  have hu2 := hu2_of hr
  refine ⟨_, (done1 (dret (dandV (DE.b (deqS (DE.b (drepr hG hu2 (by rfl) T.b_repr (by decide +kernel) (dab1 (DE.b (dv 0))))) (DE.b (drepr hG hu2 (by rfl) T.b_repr (by decide +kernel) (dab1 (DE.b (dv 1))))))) (done' (deq hu (DE.b (dv 0)) (DE.b (dv 1))))))), fun ds Q X h hl => ?_⟩
  obtain ⟨x, ys, rfl, hx, ok, sx, ex, q⟩ := h
  simp only [tdR, tdN, tdSq, tdE, tdIf, tdSet, tdF, tdRO, tdAsg, tdSub, tdAug, tdAugS, tdApp, tdPar, tdPar3, tdRaise, tV, tBo, tK, t2, t1, kI, kU, kEq, kEqS, kN, kIx, kST, kSL, kRv, kRvT, kCL, kCT, kRL, kRT, tCh, tTe, tNo, tAn, tOr', tAnV, DL.tOrV, kNo, tIfE, taC, tTp, tLs, tBi, kLen, kAbs, kMM, kInt, kTupc, kLisc, tSc, toN, toS, tOf, gNm, gNl, gCs, gTu, kIsi, kMn, kMx, kRp, tFz, tiS, tiO, tiR1, tiR2, tiRd, tiE, tCal, tCalB, startD, DL.startB, noIo_eq, nio_d, nio_un, nio_own, asD_d, asD_own, asD_io, CT, CNz, tYesD, ex0, tdFor, tdLc, wipeD, isDat_eq, dat_d, dat_un, Owns, setO, List.map_cons, List.map_nil, List.cons_append, List.nil_append, List.length_cons, List.length_nil, List.replicate, List.replicate_succ, List.replicate_zero, List.getElem?_cons_zero, List.getElem?_cons_succ, List.set_cons_zero, List.set_cons_succ, Option.some.injEq, SV.d.injEq, SV.own.injEq, SV.io.injEq, PyData.int.injEq, PyData.str.injEq, PyData.bool.injEq, PyData.tuple.injEq, PyData.list.injEq, exists_eq_left', exists_eq_left, exists_eq_right, exists_eq_right', exists_and_left, true_and, and_true, if_true, if_false, id, reduceCtorEq, false_or, or_false, exists_false, List.cons.injEq, and_self, SV.d.injEq, Nat.reduceAdd, Nat.reduceSub, ite_true, ite_false, decide_eq_true_eq, Bool.false_eq_true, exists_const, decide_true, decide_false, List.forall_mem_cons, List.forall_mem_nil, Bool.not_true, Bool.not_false, Bool.not_eq_true, Nat.reduceLT, forall_const, implies_true, and_assoc, true_or, or_true, List.not_mem_nil, false_implies, Int.natCast_inj, not_true_eq_false, not_false_eq_true, and_false, false_and, sx, ex]
  exact ⟨ys, hx, ok, ys, hx, ok, q⟩
theorem sc__law_trim : FnScope ["poly"] ["poly"] (defScope s__law_trim) := ⟨rfl, rfl, rfl, by decide +kernel, rfl, by decide +kernel, by decide +kernel⟩
theorem ok__law_trim (T : Txt K mg CN) (hS : base.NoSeer) : FnD pw w K mg base "_law_trim" 38 ["poly"] sp__law_trim := by
  refine okD (k := 37) T.f__law_trim sc__law_trim (fun _ _ _ _ _ _ us hl => match us, hl with | [_], _ => rfl) fun f cdv A outer s H E hr => ?_
  have hu := hr.units
  refine ⟨_, (dcons (dwhile (passes_of rfl) (DW.t (dwand (dtne hu (DE.b (dv 0)) (DE.b (dlst danil))) (dwand1 (dteq hu (DE.b (dix (DE.b (dv 0)) (DE.b (dneg (DE.b dint))))) (DE.b dint))))) (done1 (dset 0 sc__law_trim.nd (DE.fz (dslL (DE.b (dv 0)) don (dos (DE.b (dneg (DE.b dint)))))))))
      (done1 (dret (dv 0)))), fun ds Q X h hl => ?_⟩
  obtain ⟨xs, rfl, q⟩ := h
  simp only [tdR, tdN, tdSq, tdE, tdIf, tdSet, tdF, tdRO, tdAsg, tdSub, tdAug, tdAugS, tdApp, tdPar, tdPar3, tdRaise, tV, tBo, tK, t2, t1, kI, kU, kEq, kEqS, kN, kIx, kST, kSL, kRv, kRvT, kCL, kCT, kRL, kRT, tCh, tTe, tNo, tAn, tOr', tAnV, DL.tOrV, kNo, tIfE, taC, tTp, tLs, tBi, kLen, kAbs, kMM, kInt, kTupc, kLisc, tSc, toN, toS, tOf, gNm, gNl, gCs, gTu, kIsi, kMn, kMx, kRp, tFz, tiS, tiO, tiR1, tiR2, tiRd, tiE, tCal, tCalB, startD, DL.startB, noIo_eq, nio_d, nio_un, nio_own, asD_d, asD_own, asD_io, CT, CNz, tYesD, ex0, tdFor, tdLc, wipeD, isDat_eq, dat_d, dat_un, Owns, setO, List.map_cons, List.map_nil, List.cons_append, List.nil_append, List.length_cons, List.length_nil, List.replicate, List.replicate_succ, List.replicate_zero, List.getElem?_cons_zero, List.getElem?_cons_succ, List.set_cons_zero, List.set_cons_succ, Option.some.injEq, SV.d.injEq, SV.own.injEq, SV.io.injEq, PyData.int.injEq, PyData.str.injEq, PyData.bool.injEq, PyData.tuple.injEq, PyData.list.injEq, exists_eq_left', exists_eq_left, exists_eq_right, exists_eq_right', exists_and_left, true_and, and_true, if_true, if_false, id, reduceCtorEq, false_or, or_false, exists_false, List.cons.injEq, and_self, SV.d.injEq, Nat.reduceAdd, Nat.reduceSub, ite_true, ite_false, decide_eq_true_eq, Bool.false_eq_true, exists_const, decide_true, decide_false, List.forall_mem_cons, List.forall_mem_nil, Bool.not_true, Bool.not_false, Bool.not_eq_true, Nat.reduceLT, forall_const, implies_true, and_assoc, true_or, or_true, List.not_mem_nil, false_implies, Int.natCast_inj, not_true_eq_false, not_false_eq_true, and_false, false_and, li]
  refine ⟨fun m δ => ∃ ys : List Int, δ = [.d (.list (ys.map .int))] ∧ m = ys.length ∧ (∀ y ∈ ys, y ∈ xs) ∧ trim (ca ys) = trim (ca xs), ⟨_, xs, rfl, rfl, fun _ h => h, rfl⟩, fun m δ h => ?_⟩
  obtain ⟨ys, rfl, rfl, hs, ht⟩ := h
  simp only [tdR, tdN, tdSq, tdE, tdIf, tdSet, tdF, tdRO, tdAsg, tdSub, tdAug, tdAugS, tdApp, tdPar, tdPar3, tdRaise, tV, tBo, tK, t2, t1, kI, kU, kEq, kEqS, kN, kIx, kST, kSL, kRv, kRvT, kCL, kCT, kRL, kRT, tCh, tTe, tNo, tAn, tOr', tAnV, DL.tOrV, kNo, tIfE, taC, tTp, tLs, tBi, kLen, kAbs, kMM, kInt, kTupc, kLisc, tSc, toN, toS, tOf, gNm, gNl, gCs, gTu, kIsi, kMn, kMx, kRp, tFz, tiS, tiO, tiR1, tiR2, tiRd, tiE, tCal, tCalB, startD, DL.startB, noIo_eq, nio_d, nio_un, nio_own, asD_d, asD_own, asD_io, CT, CNz, tYesD, ex0, tdFor, tdLc, wipeD, isDat_eq, dat_d, dat_un, Owns, setO, List.map_cons, List.map_nil, List.cons_append, List.nil_append, List.length_cons, List.length_nil, List.replicate, List.replicate_succ, List.replicate_zero, List.getElem?_cons_zero, List.getElem?_cons_succ, List.set_cons_zero, List.set_cons_succ, Option.some.injEq, SV.d.injEq, SV.own.injEq, SV.io.injEq, PyData.int.injEq, PyData.str.injEq, PyData.bool.injEq, PyData.tuple.injEq, PyData.list.injEq, exists_eq_left', exists_eq_left, exists_eq_right, exists_eq_right', exists_and_left, true_and, and_true, if_true, if_false, id, reduceCtorEq, false_or, or_false, exists_false, List.cons.injEq, and_self, SV.d.injEq, Nat.reduceAdd, Nat.reduceSub, ite_true, ite_false, decide_eq_true_eq, Bool.false_eq_true, exists_const, decide_true, decide_false, List.forall_mem_cons, List.forall_mem_nil, Bool.not_true, Bool.not_false, Bool.not_eq_true, Nat.reduceLT, forall_const, implies_true, and_assoc, true_or, or_true, List.not_mem_nil, false_implies, Int.natCast_inj, not_true_eq_false, not_false_eq_true, and_false, false_and, shLZ, shL0, eqLZ]
  refine ⟨Nat.zero_le _, ?_⟩
  by_cases hy : ys = []
  · subst hy
    rw [decide_eq_true rfl, if_neg (by decide)]
    exact q [] (by rw [← ht]; rfl) fun _ h => nomatch h
  · rw [decide_eq_false hy, if_pos (by decide), atI_intb hy]
    simp only [List.map_cons, List.map_nil, List.cons_append, List.nil_append, List.length_cons, List.length_nil, List.replicate, List.replicate_succ, List.replicate_zero, List.getElem?_cons_zero, List.getElem?_cons_succ, List.set_cons_zero, List.set_cons_succ, Option.some.injEq, SV.d.injEq, SV.own.injEq, SV.io.injEq, PyData.int.injEq, PyData.str.injEq, PyData.bool.injEq, PyData.tuple.injEq, PyData.list.injEq, exists_eq_left', exists_eq_left, exists_eq_right, exists_eq_right', exists_and_left, true_and, and_true, if_true, if_false, id, reduceCtorEq, false_or, or_false, exists_false, List.cons.injEq, and_self, SV.d.injEq, Nat.reduceAdd, Nat.reduceSub, ite_true, ite_false, decide_eq_true_eq, Bool.false_eq_true, exists_const, decide_true, decide_false, List.forall_mem_cons, List.forall_mem_nil, Bool.not_true, Bool.not_false, Bool.not_eq_true, Nat.reduceLT, forall_const, implies_true, and_assoc, true_or, or_true, List.not_mem_nil, false_implies, Int.natCast_inj, not_true_eq_false, not_false_eq_true, and_false, false_and, shI, eqI, cut_last, map_int_inj]
    by_cases hl : ys.getLast hy = 0
    · rw [if_pos (by simp [hl])]
      have := List.length_pos_iff.mpr hy
      exact ⟨ys.dropLast.length, by rw [List.length_dropLast]; omega, rfl, fun y h => hs y (List.mem_of_mem_take (by rw [← List.dropLast_eq_take]; exact h)), by rw [trim_drop hy hl, ht]⟩
    · rw [if_neg (by simp [hl])]
      have t : Tr (ca ys) := tr_ca fun _ => hl
      exact q ys (by rw [← ht]; exact t.symm) hs
def sp__law_padd : SpD := fun ds Q _ => ∃ xs zs : List Int, ds = [li xs, li zs] ∧ xs.length ≤ 1000 ∧ zs.length ≤ 1000 ∧ ∀ ys : List Int, ca ys = trim (addR (ca xs) (ca zs)) → Q (.d (li ys))
def sp__law_pneg : SpD := fun ds Q _ => ∃ xs : List Int, ds = [li xs] ∧ xs.length ≤ 1000 ∧ Q (.own ((xs.map fun x => -x).map .int))
def sp__law_poly : SpD := fun ds Q _ => ∃ xs : List Int, ds = [li xs] ∧ xs.length ≤ 1000 ∧ Q (.d (po (trim (ca xs))))
def sp__law_made : SpD := fun ds Q _ => ∃ xs : List Int, ds = [li xs] ∧ xs.length ≤ 1000 ∧ Tr (ca xs) ∧ (∀ x ∈ xs, x.natAbs < 1000) ∧ Q (.d (po (unit (ca xs))))
def sp__law_pmul : SpD := fun ds Q _ => ∃ xs zs : List Int, ds = [li xs, li zs] ∧ xs.length ≤ 60 ∧ zs.length ≤ 60 ∧ (∀ x ∈ xs, x.natAbs < 1000) ∧ (∀ x ∈ zs, x.natAbs < 1000) ∧ ∀ ys : List Int, ca ys = mulE (ca xs) (ca zs) → Q (.d (li ys))
def sp__law_ints : SpB := fun bag ds Q => ∃ (n m : Nat), BagOk n bag ∧ n + m + 1 ≤ 1000000 ∧ m ≤ 1000 ∧ ds = [.int m] ∧ ∀ (xs : List Int) bag', xs.length ≤ m → (∀ x ∈ xs, x.natAbs ≤ 3) → Tr (ca xs) → BagOk (n + m + 1) bag' → Q (li xs) bag'
theorem iat_out {l : List Int} {i : Nat} (h : l.length ≤ i) : iat l i = 0 := by unfold iat; rw [List.getElem?_eq_none h]; rfl
theorem iat_mem {l : List Int} {i : Nat} (h : i < l.length) : iat l i ∈ l := by unfold iat; rw [List.getElem?_eq_getElem h]; exact List.getElem_mem h
theorem succ_map {β : Type} (f : Int → β) {l : List Int} {i : Nat} (h : i < l.length) : (l.take (i + 1)).map f = (l.take i).map f ++ [f (iat l i)] := by
  rw [List.take_succ, List.map_append]
  unfold iat
  rw [List.getElem?_eq_getElem h]; rfl
theorem ca_addR (xs zs : List Int) : ca ((List.range (max xs.length zs.length)).map fun k => iat xs k + iat zs k) = addR (ca xs) (ca zs) := by
  unfold addR
  rw [ca_len, ca_len]
  unfold ca
  rw [List.map_map]
  refine List.map_congr_left fun k _ => ?_
  have e1 := at0_ca xs k
  have e2 := at0_ca zs k
  unfold ca at e1 e2
  rw [e1, e2]
  exact Rat.intCast_add _ _
def iup (f : List Int) (i : Nat) (c : Int) : List Int := f.set i (iat f i + c)
def iaddN (f : List Int) (k : Nat) (c : Int) (m : List Int) : Nat → List Int
  | 0 => f
  | j + 1 => iup (iaddN f k c m j) (k + j) (c * iat m j)
def imulN (l m : List Int) : Nat → List Int
  | 0 => List.replicate (l.length + m.length - 1) 0
  | i + 1 => iaddN (imulN l m i) i (iat l i) m m.length
theorem ca_iaddN (f : List Int) (k : Nat) (c : Int) (m : List Int) : ∀ j, ca (iaddN f k c m j) = addN (ca f) k (c : Rat) (ca m) j
  | 0 => rfl
  | j + 1 => by
    rw [iaddN, addN, ← ca_iaddN f k c m j]
    unfold iup up
    rw [at0_ca, at0_ca]
    unfold ca
    rw [List.map_set, Rat.intCast_add, Rat.intCast_mul]
theorem ca_imulN (l m : List Int) : ∀ i, ca (imulN l m i) = mulN (ca l) (ca m) i
  | 0 => by unfold imulN mulN; rw [ca_len, ca_len]; unfold ca; rw [List.map_replicate]; rfl
  | i + 1 => by rw [imulN, mulN, ca_iaddN, ca_imulN l m i, at0_ca, ca_len]
theorem imulN_len (l m : List Int) (i : Nat) : (imulN l m i).length = l.length + m.length - 1 := by rw [← ca_len, ca_imulN, mulN_len, ca_len, ca_len]
theorem iaddN_len (f : List Int) (k : Nat) (c : Int) (m : List Int) (j : Nat) : (iaddN f k c m j).length = f.length := by rw [← ca_len, ca_iaddN, addN_len, ca_len]
theorem mulN_nil {l m : List Rat} (h : l = [] ∨ m = []) : trim (mulN l m l.length) = [] := by
  refine trim_nil_of_zero _ fun x => ?_
  rcases h with h | h
  · subst h; exact ev_repl _ x
  · subst h
    have : ∀ i, mulN l [] i = List.replicate (l.length + ([] : List Rat).length - 1) 0 := by
      intro i
      induction i with
      | zero => rfl
      | succ i ih => rw [mulN, List.length_nil, addN, ih]; rfl
    rw [this]; exact ev_repl _ x
theorem mulE_eq (l m : List Rat) : mulE l m = trim (mulN l m l.length) := by
  unfold mulE
  by_cases h : l = [] ∨ m = []
  · rw [if_pos h, mulN_nil h]
  · rw [if_neg h]; rfl
theorem pm_if (a b : Nat) : (if (a : Int) + (b : Int) - 1 > 0 then (a : Int) + (b : Int) - 1 else 0) = ((a + b - 1 : Nat) : Int) := by split <;> omega
theorem reps_int (k : Nat) (c : Int) : reps k [PyData.int c] = (List.replicate k c).map PyData.int := by rw [reps_one, List.map_replicate]
theorem set_int (l : List Int) (i : Nat) (c : Int) : (l.map PyData.int).set i (.int c) = (l.set i c).map PyData.int := (List.map_set ..).symm
theorem sc__law_padd : FnScope ["one", "other", "many", "k"] ["one", "other"] (defScope s__law_padd) := ⟨rfl, rfl, rfl, by decide +kernel, rfl, by decide +kernel, by decide +kernel⟩
theorem ok__law_padd (T : Txt K mg CN) (hS : base.NoSeer) : FnD pw w K mg base "_law_padd" 39 ["one", "other"] sp__law_padd := by
  have F__law_trim := ok__law_trim (w := w) T hS
  refine okD (k := 38) T.f__law_padd sc__law_padd (fun _ _ _ _ _ _ us hl => match us, hl with | [_, _], _ => rfl) fun f cdv A outer s H E hr => ?_
  refine ⟨_, (dcons (dset 2 sc__law_padd.nd (dmax2 rfl (by rfl) T.b_max (dab2 (DE.b (dlen (by rfl) T.b_len (dab1 (DE.b (dv 0))))) (DE.b (dlen (by rfl) T.b_len (dab1 (DE.b (dv 1))))))))
      (done1 (dret (dcall F__law_trim (hr.mono (by decide)) (dacons (dlc (own := [("k", 3)]) rfl sc__law_padd.nd (diR1 (by rfl) T.b_range (dab1 (DE.b (dv 2)))) (blkOk_by (by kernel_rfl)) (by decide) (fun _ _ _ _ _ => (dgn 3 sc__law_padd.nd)) (fun _ _ _ _ _ => (dptN)) (fun _ _ _ _ _ => (dadd (DE.b (dif (dtlt (DE.b (dv 3)) (DE.b (dlen (by rfl) T.b_len (dab1 (DE.b (dv 0)))))) (dix (DE.b (dv 0)) (DE.b (dv 3))) dint)) (DE.b (dif (dtlt (DE.b (dv 3)) (DE.b (dlen (by rfl) T.b_len (dab1 (DE.b (dv 1)))))) (dix (DE.b (dv 1)) (DE.b (dv 3))) dint))))) danil))))), fun ds Q X h hl => ?_⟩
  obtain ⟨xs, zs, rfl, h1, h2, q⟩ := h
  simp only [tdR, tdN, tdSq, tdE, tdIf, tdSet, tdF, tdRO, tdAsg, tdSub, tdAug, tdAugS, tdApp, tdPar, tdPar3, tdRaise, tV, tBo, tK, t2, t1, kI, kU, kEq, kEqS, kN, kIx, kST, kSL, kRv, kRvT, kCL, kCT, kRL, kRT, tCh, tTe, tNo, tAn, tOr', tAnV, DL.tOrV, kNo, tIfE, taC, tTp, tLs, tBi, kLen, kAbs, kMM, kInt, kTupc, kLisc, tSc, toN, toS, tOf, gNm, gNl, gCs, gTu, kIsi, kMn, kMx, kRp, tFz, tiS, tiO, tiR1, tiR2, tiRd, tiE, tCal, tCalB, startD, DL.startB, noIo_eq, nio_d, nio_un, nio_own, asD_d, asD_own, asD_io, CT, CNz, tYesD, ex0, tdFor, tdLc, wipeD, isDat_eq, dat_d, dat_un, Owns, setO, List.map_cons, List.map_nil, List.cons_append, List.nil_append, List.length_cons, List.length_nil, List.replicate, List.replicate_succ, List.replicate_zero, List.getElem?_cons_zero, List.getElem?_cons_succ, List.set_cons_zero, List.set_cons_succ, Option.some.injEq, SV.d.injEq, SV.own.injEq, SV.io.injEq, PyData.int.injEq, PyData.str.injEq, PyData.bool.injEq, PyData.tuple.injEq, PyData.list.injEq, exists_eq_left', exists_eq_left, exists_eq_right, exists_eq_right', exists_and_left, true_and, and_true, if_true, if_false, id, reduceCtorEq, false_or, or_false, exists_false, List.cons.injEq, and_self, SV.d.injEq, Nat.reduceAdd, Nat.reduceSub, ite_true, ite_false, decide_eq_true_eq, Bool.false_eq_true, exists_const, decide_true, decide_false, List.forall_mem_cons, List.forall_mem_nil, Bool.not_true, Bool.not_false, Bool.not_eq_true, Nat.reduceLT, forall_const, implies_true, and_assoc, true_or, or_true, List.not_mem_nil, false_implies, Int.natCast_inj, not_true_eq_false, not_false_eq_true, and_false, false_and, li, List.length_map]
  rw [max_if]
  refine ⟨by omega, by omega, lcb (fun i => (List.range i).map fun k => PyData.int (iat xs k + iat zs k)) (by simp only [tdR, tdN, tdSq, tdE, tdIf, tdSet, tdF, tdRO, tdAsg, tdSub, tdAug, tdAugS, tdApp, tdPar, tdPar3, tdRaise, tV, tBo, tK, t2, t1, kI, kU, kEq, kEqS, kN, kIx, kST, kSL, kRv, kRvT, kCL, kCT, kRL, kRT, tCh, tTe, tNo, tAn, tOr', tAnV, DL.tOrV, kNo, tIfE, taC, tTp, tLs, tBi, kLen, kAbs, kMM, kInt, kTupc, kLisc, tSc, toN, toS, tOf, gNm, gNl, gCs, gTu, kIsi, kMn, kMx, kRp, tFz, tiS, tiO, tiR1, tiR2, tiRd, tiE, tCal, tCalB, startD, DL.startB, noIo_eq, nio_d, nio_un, nio_own, asD_d, asD_own, asD_io, CT, CNz, tYesD, ex0, tdFor, tdLc, wipeD, isDat_eq, dat_d, dat_un, Owns, setO, List.map_cons, List.map_nil, List.cons_append, List.nil_append, List.length_cons, List.length_nil, List.replicate, List.replicate_succ, List.replicate_zero, List.getElem?_cons_zero, List.getElem?_cons_succ, List.set_cons_zero, List.set_cons_succ, Option.some.injEq, SV.d.injEq, SV.own.injEq, SV.io.injEq, PyData.int.injEq, PyData.str.injEq, PyData.bool.injEq, PyData.tuple.injEq, PyData.list.injEq, exists_eq_left', exists_eq_left, exists_eq_right, exists_eq_right', exists_and_left, true_and, and_true, if_true, if_false, id, reduceCtorEq, false_or, or_false, exists_false, List.cons.injEq, and_self, SV.d.injEq, Nat.reduceAdd, Nat.reduceSub, ite_true, ite_false, decide_eq_true_eq, Bool.false_eq_true, exists_const, decide_true, decide_false, List.forall_mem_cons, List.forall_mem_nil, Bool.not_true, Bool.not_false, Bool.not_eq_true, Nat.reduceLT, forall_const, implies_true, and_assoc, true_or, or_true, List.not_mem_nil, false_implies, Int.natCast_inj, not_true_eq_false, not_false_eq_true, and_false, false_and]) (fun _ e => nomatch e) rfl (fun i x hx => ?_) ?_⟩
  · obtain ⟨hi, rfl⟩ := rngD_nat hx
    simp only [tdR, tdN, tdSq, tdE, tdIf, tdSet, tdF, tdRO, tdAsg, tdSub, tdAug, tdAugS, tdApp, tdPar, tdPar3, tdRaise, tV, tBo, tK, t2, t1, kI, kU, kEq, kEqS, kN, kIx, kST, kSL, kRv, kRvT, kCL, kCT, kRL, kRT, tCh, tTe, tNo, tAn, tOr', tAnV, DL.tOrV, kNo, tIfE, taC, tTp, tLs, tBi, kLen, kAbs, kMM, kInt, kTupc, kLisc, tSc, toN, toS, tOf, gNm, gNl, gCs, gTu, kIsi, kMn, kMx, kRp, tFz, tiS, tiO, tiR1, tiR2, tiRd, tiE, tCal, tCalB, startD, DL.startB, noIo_eq, nio_d, nio_un, nio_own, asD_d, asD_own, asD_io, CT, CNz, tYesD, ex0, tdFor, tdLc, wipeD, isDat_eq, dat_d, dat_un, Owns, setO, List.map_cons, List.map_nil, List.cons_append, List.nil_append, List.length_cons, List.length_nil, List.replicate, List.replicate_succ, List.replicate_zero, List.getElem?_cons_zero, List.getElem?_cons_succ, List.set_cons_zero, List.set_cons_succ, Option.some.injEq, SV.d.injEq, SV.own.injEq, SV.io.injEq, PyData.int.injEq, PyData.str.injEq, PyData.bool.injEq, PyData.tuple.injEq, PyData.list.injEq, exists_eq_left', exists_eq_left, exists_eq_right, exists_eq_right', exists_and_left, true_and, and_true, if_true, if_false, id, reduceCtorEq, false_or, or_false, exists_false, List.cons.injEq, and_self, SV.d.injEq, Nat.reduceAdd, Nat.reduceSub, ite_true, ite_false, decide_eq_true_eq, Bool.false_eq_true, exists_const, decide_true, decide_false, List.forall_mem_cons, List.forall_mem_nil, Bool.not_true, Bool.not_false, Bool.not_eq_true, Nat.reduceLT, forall_const, implies_true, and_assoc, true_or, or_true, List.not_mem_nil, false_implies, Int.natCast_inj, not_true_eq_false, not_false_eq_true, and_false, false_and, List.length_map]
    have lz : (List.range i).length < sizeLine := lt_size (by rw [List.length_range]; omega)
    by_cases e1 : i < xs.length <;> by_cases e2 : i < zs.length
    · rw [if_pos (by omega), atI_int e1]
      simp only [List.map_cons, List.map_nil, List.cons_append, List.nil_append, List.length_cons, List.length_nil, List.replicate, List.replicate_succ, List.replicate_zero, List.getElem?_cons_zero, List.getElem?_cons_succ, List.set_cons_zero, List.set_cons_succ, Option.some.injEq, SV.d.injEq, SV.own.injEq, SV.io.injEq, PyData.int.injEq, PyData.str.injEq, PyData.bool.injEq, PyData.tuple.injEq, PyData.list.injEq, exists_eq_left', exists_eq_left, exists_eq_right, exists_eq_right', exists_and_left, true_and, and_true, if_true, if_false, id, reduceCtorEq, false_or, or_false, exists_false, List.cons.injEq, and_self, SV.d.injEq, Nat.reduceAdd, Nat.reduceSub, ite_true, ite_false, decide_eq_true_eq, Bool.false_eq_true, exists_const, decide_true, decide_false, List.forall_mem_cons, List.forall_mem_nil, Bool.not_true, Bool.not_false, Bool.not_eq_true, Nat.reduceLT, forall_const, implies_true, and_assoc, true_or, or_true, List.not_mem_nil, false_implies, Int.natCast_inj, not_true_eq_false, not_false_eq_true, and_false, false_and]
      rw [if_pos (by omega), atI_int e2]
      simp only [List.map_cons, List.map_nil, List.cons_append, List.nil_append, List.length_cons, List.length_nil, List.replicate, List.replicate_succ, List.replicate_zero, List.getElem?_cons_zero, List.getElem?_cons_succ, List.set_cons_zero, List.set_cons_succ, Option.some.injEq, SV.d.injEq, SV.own.injEq, SV.io.injEq, PyData.int.injEq, PyData.str.injEq, PyData.bool.injEq, PyData.tuple.injEq, PyData.list.injEq, exists_eq_left', exists_eq_left, exists_eq_right, exists_eq_right', exists_and_left, true_and, and_true, if_true, if_false, id, reduceCtorEq, false_or, or_false, exists_false, List.cons.injEq, and_self, SV.d.injEq, Nat.reduceAdd, Nat.reduceSub, ite_true, ite_false, decide_eq_true_eq, Bool.false_eq_true, exists_const, decide_true, decide_false, List.forall_mem_cons, List.forall_mem_nil, Bool.not_true, Bool.not_false, Bool.not_eq_true, Nat.reduceLT, forall_const, implies_true, and_assoc, true_or, or_true, List.not_mem_nil, false_implies, Int.natCast_inj, not_true_eq_false, not_false_eq_true, and_false, false_and]
      exact ⟨lz, (rng_succ _ _).symm⟩
    · rw [if_pos (by omega), atI_int e1]
      simp only [List.map_cons, List.map_nil, List.cons_append, List.nil_append, List.length_cons, List.length_nil, List.replicate, List.replicate_succ, List.replicate_zero, List.getElem?_cons_zero, List.getElem?_cons_succ, List.set_cons_zero, List.set_cons_succ, Option.some.injEq, SV.d.injEq, SV.own.injEq, SV.io.injEq, PyData.int.injEq, PyData.str.injEq, PyData.bool.injEq, PyData.tuple.injEq, PyData.list.injEq, exists_eq_left', exists_eq_left, exists_eq_right, exists_eq_right', exists_and_left, true_and, and_true, if_true, if_false, id, reduceCtorEq, false_or, or_false, exists_false, List.cons.injEq, and_self, SV.d.injEq, Nat.reduceAdd, Nat.reduceSub, ite_true, ite_false, decide_eq_true_eq, Bool.false_eq_true, exists_const, decide_true, decide_false, List.forall_mem_cons, List.forall_mem_nil, Bool.not_true, Bool.not_false, Bool.not_eq_true, Nat.reduceLT, forall_const, implies_true, and_assoc, true_or, or_true, List.not_mem_nil, false_implies, Int.natCast_inj, not_true_eq_false, not_false_eq_true, and_false, false_and]
      rw [if_neg (by omega)]
      exact ⟨lz, by rw [rng_succ, iat_out (l := zs) (by omega)]⟩
    · rw [if_neg (by omega), if_pos (by omega), atI_int e2]
      simp only [List.map_cons, List.map_nil, List.cons_append, List.nil_append, List.length_cons, List.length_nil, List.replicate, List.replicate_succ, List.replicate_zero, List.getElem?_cons_zero, List.getElem?_cons_succ, List.set_cons_zero, List.set_cons_succ, Option.some.injEq, SV.d.injEq, SV.own.injEq, SV.io.injEq, PyData.int.injEq, PyData.str.injEq, PyData.bool.injEq, PyData.tuple.injEq, PyData.list.injEq, exists_eq_left', exists_eq_left, exists_eq_right, exists_eq_right', exists_and_left, true_and, and_true, if_true, if_false, id, reduceCtorEq, false_or, or_false, exists_false, List.cons.injEq, and_self, SV.d.injEq, Nat.reduceAdd, Nat.reduceSub, ite_true, ite_false, decide_eq_true_eq, Bool.false_eq_true, exists_const, decide_true, decide_false, List.forall_mem_cons, List.forall_mem_nil, Bool.not_true, Bool.not_false, Bool.not_eq_true, Nat.reduceLT, forall_const, implies_true, and_assoc, true_or, or_true, List.not_mem_nil, false_implies, Int.natCast_inj, not_true_eq_false, not_false_eq_true, and_false, false_and]
      exact ⟨lz, by rw [rng_succ, iat_out (l := xs) (by omega)]⟩
    · rw [if_neg (by omega), if_neg (by omega)]
      exact ⟨lz, by rw [rng_succ, iat_out (l := xs) (by omega), iat_out (l := zs) (by omega)]⟩
  · simp only [tdR, tdN, tdSq, tdE, tdIf, tdSet, tdF, tdRO, tdAsg, tdSub, tdAug, tdAugS, tdApp, tdPar, tdPar3, tdRaise, tV, tBo, tK, t2, t1, kI, kU, kEq, kEqS, kN, kIx, kST, kSL, kRv, kRvT, kCL, kCT, kRL, kRT, tCh, tTe, tNo, tAn, tOr', tAnV, DL.tOrV, kNo, tIfE, taC, tTp, tLs, tBi, kLen, kAbs, kMM, kInt, kTupc, kLisc, tSc, toN, toS, tOf, gNm, gNl, gCs, gTu, kIsi, kMn, kMx, kRp, tFz, tiS, tiO, tiR1, tiR2, tiRd, tiE, tCal, tCalB, startD, DL.startB, noIo_eq, nio_d, nio_un, nio_own, asD_d, asD_own, asD_io, CT, CNz, tYesD, ex0, tdFor, tdLc, wipeD, isDat_eq, dat_d, dat_un, Owns, setO, List.map_cons, List.map_nil, List.cons_append, List.nil_append, List.length_cons, List.length_nil, List.replicate, List.replicate_succ, List.replicate_zero, List.getElem?_cons_zero, List.getElem?_cons_succ, List.set_cons_zero, List.set_cons_succ, Option.some.injEq, SV.d.injEq, SV.own.injEq, SV.io.injEq, PyData.int.injEq, PyData.str.injEq, PyData.bool.injEq, PyData.tuple.injEq, PyData.list.injEq, exists_eq_left', exists_eq_left, exists_eq_right, exists_eq_right', exists_and_left, true_and, and_true, if_true, if_false, id, reduceCtorEq, false_or, or_false, exists_false, List.cons.injEq, and_self, SV.d.injEq, Nat.reduceAdd, Nat.reduceSub, ite_true, ite_false, decide_eq_true_eq, Bool.false_eq_true, exists_const, decide_true, decide_false, List.forall_mem_cons, List.forall_mem_nil, Bool.not_true, Bool.not_false, Bool.not_eq_true, Nat.reduceLT, forall_const, implies_true, and_assoc, true_or, or_true, List.not_mem_nil, false_implies, Int.natCast_inj, not_true_eq_false, not_false_eq_true, and_false, false_and, rngD_len, sp__law_trim, Int.toNat_natCast, li]
    refine ⟨(List.range (max xs.length zs.length)).map fun k => iat xs k + iat zs k, by rw [List.map_map]; rfl, fun ys h _ => q ys ?_⟩
    rw [h, ca_addR]
theorem sc__law_pneg : FnScope ["poly", "term_v"] ["poly"] (defScope s__law_pneg) := ⟨rfl, rfl, rfl, by decide +kernel, rfl, by decide +kernel, by decide +kernel⟩
theorem ok__law_pneg (T : Txt K mg CN) (hS : base.NoSeer) : FnD pw w K mg base "_law_pneg" 38 ["poly"] sp__law_pneg := by
  refine okD (k := 37) T.f__law_pneg sc__law_pneg (fun _ _ _ _ _ _ us hl => match us, hl with | [_], _ => rfl) fun f cdv A outer s H E hr => ?_
  refine ⟨_, (done1 (dret (dlc (own := [("term_v", 1)]) rfl sc__law_pneg.nd (diS (dv 0)) (blkOk_by (by kernel_rfl)) (by decide) (fun _ _ _ _ _ => (dgn 1 sc__law_pneg.nd)) (fun _ _ _ _ _ => (dptN)) (fun _ _ _ _ _ => (dneg (DE.b (dv 1))))))), fun ds Q X h hl => ?_⟩
  obtain ⟨xs, rfl, h1, q⟩ := h
  simp only [tdR, tdN, tdSq, tdE, tdIf, tdSet, tdF, tdRO, tdAsg, tdSub, tdAug, tdAugS, tdApp, tdPar, tdPar3, tdRaise, tV, tBo, tK, t2, t1, kI, kU, kEq, kEqS, kN, kIx, kST, kSL, kRv, kRvT, kCL, kCT, kRL, kRT, tCh, tTe, tNo, tAn, tOr', tAnV, DL.tOrV, kNo, tIfE, taC, tTp, tLs, tBi, kLen, kAbs, kMM, kInt, kTupc, kLisc, tSc, toN, toS, tOf, gNm, gNl, gCs, gTu, kIsi, kMn, kMx, kRp, tFz, tiS, tiO, tiR1, tiR2, tiRd, tiE, tCal, tCalB, startD, DL.startB, noIo_eq, nio_d, nio_un, nio_own, asD_d, asD_own, asD_io, CT, CNz, tYesD, ex0, tdFor, tdLc, wipeD, isDat_eq, dat_d, dat_un, Owns, setO, List.map_cons, List.map_nil, List.cons_append, List.nil_append, List.length_cons, List.length_nil, List.replicate, List.replicate_succ, List.replicate_zero, List.getElem?_cons_zero, List.getElem?_cons_succ, List.set_cons_zero, List.set_cons_succ, Option.some.injEq, SV.d.injEq, SV.own.injEq, SV.io.injEq, PyData.int.injEq, PyData.str.injEq, PyData.bool.injEq, PyData.tuple.injEq, PyData.list.injEq, exists_eq_left', exists_eq_left, exists_eq_right, exists_eq_right', exists_and_left, true_and, and_true, if_true, if_false, id, reduceCtorEq, false_or, or_false, exists_false, List.cons.injEq, and_self, SV.d.injEq, Nat.reduceAdd, Nat.reduceSub, ite_true, ite_false, decide_eq_true_eq, Bool.false_eq_true, exists_const, decide_true, decide_false, List.forall_mem_cons, List.forall_mem_nil, Bool.not_true, Bool.not_false, Bool.not_eq_true, Nat.reduceLT, forall_const, implies_true, and_assoc, true_or, or_true, List.not_mem_nil, false_implies, Int.natCast_inj, not_true_eq_false, not_false_eq_true, and_false, false_and, li]
  refine lcb (fun i => (xs.take i).map fun x => PyData.int (-x)) (by simp only [tdR, tdN, tdSq, tdE, tdIf, tdSet, tdF, tdRO, tdAsg, tdSub, tdAug, tdAugS, tdApp, tdPar, tdPar3, tdRaise, tV, tBo, tK, t2, t1, kI, kU, kEq, kEqS, kN, kIx, kST, kSL, kRv, kRvT, kCL, kCT, kRL, kRT, tCh, tTe, tNo, tAn, tOr', tAnV, DL.tOrV, kNo, tIfE, taC, tTp, tLs, tBi, kLen, kAbs, kMM, kInt, kTupc, kLisc, tSc, toN, toS, tOf, gNm, gNl, gCs, gTu, kIsi, kMn, kMx, kRp, tFz, tiS, tiO, tiR1, tiR2, tiRd, tiE, tCal, tCalB, startD, DL.startB, noIo_eq, nio_d, nio_un, nio_own, asD_d, asD_own, asD_io, CT, CNz, tYesD, ex0, tdFor, tdLc, wipeD, isDat_eq, dat_d, dat_un, Owns, setO, List.map_cons, List.map_nil, List.cons_append, List.nil_append, List.length_cons, List.length_nil, List.replicate, List.replicate_succ, List.replicate_zero, List.getElem?_cons_zero, List.getElem?_cons_succ, List.set_cons_zero, List.set_cons_succ, Option.some.injEq, SV.d.injEq, SV.own.injEq, SV.io.injEq, PyData.int.injEq, PyData.str.injEq, PyData.bool.injEq, PyData.tuple.injEq, PyData.list.injEq, exists_eq_left', exists_eq_left, exists_eq_right, exists_eq_right', exists_and_left, true_and, and_true, if_true, if_false, id, reduceCtorEq, false_or, or_false, exists_false, List.cons.injEq, and_self, SV.d.injEq, Nat.reduceAdd, Nat.reduceSub, ite_true, ite_false, decide_eq_true_eq, Bool.false_eq_true, exists_const, decide_true, decide_false, List.forall_mem_cons, List.forall_mem_nil, Bool.not_true, Bool.not_false, Bool.not_eq_true, Nat.reduceLT, forall_const, implies_true, and_assoc, true_or, or_true, List.not_mem_nil, false_implies, Int.natCast_inj, not_true_eq_false, not_false_eq_true, and_false, false_and]) (fun _ e => nomatch e) rfl (fun i x hx => ?_) ?_
  · obtain ⟨hi, rfl⟩ := get_int hx
    simp only [tdR, tdN, tdSq, tdE, tdIf, tdSet, tdF, tdRO, tdAsg, tdSub, tdAug, tdAugS, tdApp, tdPar, tdPar3, tdRaise, tV, tBo, tK, t2, t1, kI, kU, kEq, kEqS, kN, kIx, kST, kSL, kRv, kRvT, kCL, kCT, kRL, kRT, tCh, tTe, tNo, tAn, tOr', tAnV, DL.tOrV, kNo, tIfE, taC, tTp, tLs, tBi, kLen, kAbs, kMM, kInt, kTupc, kLisc, tSc, toN, toS, tOf, gNm, gNl, gCs, gTu, kIsi, kMn, kMx, kRp, tFz, tiS, tiO, tiR1, tiR2, tiRd, tiE, tCal, tCalB, startD, DL.startB, noIo_eq, nio_d, nio_un, nio_own, asD_d, asD_own, asD_io, CT, CNz, tYesD, ex0, tdFor, tdLc, wipeD, isDat_eq, dat_d, dat_un, Owns, setO, List.map_cons, List.map_nil, List.cons_append, List.nil_append, List.length_cons, List.length_nil, List.replicate, List.replicate_succ, List.replicate_zero, List.getElem?_cons_zero, List.getElem?_cons_succ, List.set_cons_zero, List.set_cons_succ, Option.some.injEq, SV.d.injEq, SV.own.injEq, SV.io.injEq, PyData.int.injEq, PyData.str.injEq, PyData.bool.injEq, PyData.tuple.injEq, PyData.list.injEq, exists_eq_left', exists_eq_left, exists_eq_right, exists_eq_right', exists_and_left, true_and, and_true, if_true, if_false, id, reduceCtorEq, false_or, or_false, exists_false, List.cons.injEq, and_self, SV.d.injEq, Nat.reduceAdd, Nat.reduceSub, ite_true, ite_false, decide_eq_true_eq, Bool.false_eq_true, exists_const, decide_true, decide_false, List.forall_mem_cons, List.forall_mem_nil, Bool.not_true, Bool.not_false, Bool.not_eq_true, Nat.reduceLT, forall_const, implies_true, and_assoc, true_or, or_true, List.not_mem_nil, false_implies, Int.natCast_inj, not_true_eq_false, not_false_eq_true, and_false, false_and]
    exact ⟨lt_size (by rw [List.length_map, List.length_take]; omega), by rw [succ_map _ hi]⟩
  · rw [List.length_map, List.take_length]
    rw [List.map_map] at q
    exact q
theorem sc__law_poly : FnScope ["terms", "term_v"] ["terms"] (defScope s__law_poly) := ⟨rfl, rfl, rfl, by decide +kernel, rfl, by decide +kernel, by decide +kernel⟩
theorem ok__law_poly (T : Txt K mg CN) (hS : base.NoSeer) : FnD pw w K mg base "_law_poly" 39 ["terms"] sp__law_poly := by
  have F__law_trim := ok__law_trim (w := w) T hS
  refine okD (k := 38) T.f__law_poly sc__law_poly (fun _ _ _ _ _ _ us hl => match us, hl with | [_], _ => rfl) fun f cdv A outer s H E hr => ?_
  refine ⟨_, (done1 (dret (dtupc (by rfl) T.b_tuple (dab1 (DE.b (dlc (own := [("term_v", 1)]) rfl sc__law_poly.nd (diS (dcall F__law_trim (hr.mono (by decide)) (dacons (dlisc (by rfl) T.b_list (dab1 (DE.b (dv 0)))) danil))) (blkOk_by (by kernel_rfl)) (by decide) (fun _ _ _ _ _ => (dgn 1 sc__law_poly.nd)) (fun _ _ _ _ _ => (dptN)) (fun _ _ _ _ _ => (dtup (dacons (dv 1) (dacons dint danil)))))))))), fun ds Q X h hl => ?_⟩
  obtain ⟨xs, rfl, h1, q⟩ := h
  simp only [tdR, tdN, tdSq, tdE, tdIf, tdSet, tdF, tdRO, tdAsg, tdSub, tdAug, tdAugS, tdApp, tdPar, tdPar3, tdRaise, tV, tBo, tK, t2, t1, kI, kU, kEq, kEqS, kN, kIx, kST, kSL, kRv, kRvT, kCL, kCT, kRL, kRT, tCh, tTe, tNo, tAn, tOr', tAnV, DL.tOrV, kNo, tIfE, taC, tTp, tLs, tBi, kLen, kAbs, kMM, kInt, kTupc, kLisc, tSc, toN, toS, tOf, gNm, gNl, gCs, gTu, kIsi, kMn, kMx, kRp, tFz, tiS, tiO, tiR1, tiR2, tiRd, tiE, tCal, tCalB, startD, DL.startB, noIo_eq, nio_d, nio_un, nio_own, asD_d, asD_own, asD_io, CT, CNz, tYesD, ex0, tdFor, tdLc, wipeD, isDat_eq, dat_d, dat_un, Owns, setO, List.map_cons, List.map_nil, List.cons_append, List.nil_append, List.length_cons, List.length_nil, List.replicate, List.replicate_succ, List.replicate_zero, List.getElem?_cons_zero, List.getElem?_cons_succ, List.set_cons_zero, List.set_cons_succ, Option.some.injEq, SV.d.injEq, SV.own.injEq, SV.io.injEq, PyData.int.injEq, PyData.str.injEq, PyData.bool.injEq, PyData.tuple.injEq, PyData.list.injEq, exists_eq_left', exists_eq_left, exists_eq_right, exists_eq_right', exists_and_left, true_and, and_true, if_true, if_false, id, reduceCtorEq, false_or, or_false, exists_false, List.cons.injEq, and_self, SV.d.injEq, Nat.reduceAdd, Nat.reduceSub, ite_true, ite_false, decide_eq_true_eq, Bool.false_eq_true, exists_const, decide_true, decide_false, List.forall_mem_cons, List.forall_mem_nil, Bool.not_true, Bool.not_false, Bool.not_eq_true, Nat.reduceLT, forall_const, implies_true, and_assoc, true_or, or_true, List.not_mem_nil, false_implies, Int.natCast_inj, not_true_eq_false, not_false_eq_true, and_false, false_and, li, sp__law_trim]
  refine ⟨xs, rfl, fun ys h _ => ?_⟩
  have hl : ys.length ≤ 1000 := by have := trim_len (ca xs); rw [← h, ca_len, ca_len] at this; omega
  refine lcb (fun i => (ys.take i).map fun (x : Int) => fr (x : Rat)) (by simp only [tdR, tdN, tdSq, tdE, tdIf, tdSet, tdF, tdRO, tdAsg, tdSub, tdAug, tdAugS, tdApp, tdPar, tdPar3, tdRaise, tV, tBo, tK, t2, t1, kI, kU, kEq, kEqS, kN, kIx, kST, kSL, kRv, kRvT, kCL, kCT, kRL, kRT, tCh, tTe, tNo, tAn, tOr', tAnV, DL.tOrV, kNo, tIfE, taC, tTp, tLs, tBi, kLen, kAbs, kMM, kInt, kTupc, kLisc, tSc, toN, toS, tOf, gNm, gNl, gCs, gTu, kIsi, kMn, kMx, kRp, tFz, tiS, tiO, tiR1, tiR2, tiRd, tiE, tCal, tCalB, startD, DL.startB, noIo_eq, nio_d, nio_un, nio_own, asD_d, asD_own, asD_io, CT, CNz, tYesD, ex0, tdFor, tdLc, wipeD, isDat_eq, dat_d, dat_un, Owns, setO, List.map_cons, List.map_nil, List.cons_append, List.nil_append, List.length_cons, List.length_nil, List.replicate, List.replicate_succ, List.replicate_zero, List.getElem?_cons_zero, List.getElem?_cons_succ, List.set_cons_zero, List.set_cons_succ, Option.some.injEq, SV.d.injEq, SV.own.injEq, SV.io.injEq, PyData.int.injEq, PyData.str.injEq, PyData.bool.injEq, PyData.tuple.injEq, PyData.list.injEq, exists_eq_left', exists_eq_left, exists_eq_right, exists_eq_right', exists_and_left, true_and, and_true, if_true, if_false, id, reduceCtorEq, false_or, or_false, exists_false, List.cons.injEq, and_self, SV.d.injEq, Nat.reduceAdd, Nat.reduceSub, ite_true, ite_false, decide_eq_true_eq, Bool.false_eq_true, exists_const, decide_true, decide_false, List.forall_mem_cons, List.forall_mem_nil, Bool.not_true, Bool.not_false, Bool.not_eq_true, Nat.reduceLT, forall_const, implies_true, and_assoc, true_or, or_true, List.not_mem_nil, false_implies, Int.natCast_inj, not_true_eq_false, not_false_eq_true, and_false, false_and]) (fun _ e => nomatch e) rfl (fun i x hx => ?_) ?_
  · obtain ⟨hi, rfl⟩ := get_int hx
    simp only [tdR, tdN, tdSq, tdE, tdIf, tdSet, tdF, tdRO, tdAsg, tdSub, tdAug, tdAugS, tdApp, tdPar, tdPar3, tdRaise, tV, tBo, tK, t2, t1, kI, kU, kEq, kEqS, kN, kIx, kST, kSL, kRv, kRvT, kCL, kCT, kRL, kRT, tCh, tTe, tNo, tAn, tOr', tAnV, DL.tOrV, kNo, tIfE, taC, tTp, tLs, tBi, kLen, kAbs, kMM, kInt, kTupc, kLisc, tSc, toN, toS, tOf, gNm, gNl, gCs, gTu, kIsi, kMn, kMx, kRp, tFz, tiS, tiO, tiR1, tiR2, tiRd, tiE, tCal, tCalB, startD, DL.startB, noIo_eq, nio_d, nio_un, nio_own, asD_d, asD_own, asD_io, CT, CNz, tYesD, ex0, tdFor, tdLc, wipeD, isDat_eq, dat_d, dat_un, Owns, setO, List.map_cons, List.map_nil, List.cons_append, List.nil_append, List.length_cons, List.length_nil, List.replicate, List.replicate_succ, List.replicate_zero, List.getElem?_cons_zero, List.getElem?_cons_succ, List.set_cons_zero, List.set_cons_succ, Option.some.injEq, SV.d.injEq, SV.own.injEq, SV.io.injEq, PyData.int.injEq, PyData.str.injEq, PyData.bool.injEq, PyData.tuple.injEq, PyData.list.injEq, exists_eq_left', exists_eq_left, exists_eq_right, exists_eq_right', exists_and_left, true_and, and_true, if_true, if_false, id, reduceCtorEq, false_or, or_false, exists_false, List.cons.injEq, and_self, SV.d.injEq, Nat.reduceAdd, Nat.reduceSub, ite_true, ite_false, decide_eq_true_eq, Bool.false_eq_true, exists_const, decide_true, decide_false, List.forall_mem_cons, List.forall_mem_nil, Bool.not_true, Bool.not_false, Bool.not_eq_true, Nat.reduceLT, forall_const, implies_true, and_assoc, true_or, or_true, List.not_mem_nil, false_implies, Int.natCast_inj, not_true_eq_false, not_false_eq_true, and_false, false_and]
    exact ⟨by rw [sizeLine_eq]; decide, lt_size (by rw [List.length_map, List.length_take]; omega), by rw [succ_map _ hi]; rfl⟩
  · simp only [tdR, tdN, tdSq, tdE, tdIf, tdSet, tdF, tdRO, tdAsg, tdSub, tdAug, tdAugS, tdApp, tdPar, tdPar3, tdRaise, tV, tBo, tK, t2, t1, kI, kU, kEq, kEqS, kN, kIx, kST, kSL, kRv, kRvT, kCL, kCT, kRL, kRT, tCh, tTe, tNo, tAn, tOr', tAnV, DL.tOrV, kNo, tIfE, taC, tTp, tLs, tBi, kLen, kAbs, kMM, kInt, kTupc, kLisc, tSc, toN, toS, tOf, gNm, gNl, gCs, gTu, kIsi, kMn, kMx, kRp, tFz, tiS, tiO, tiR1, tiR2, tiRd, tiE, tCal, tCalB, startD, DL.startB, noIo_eq, nio_d, nio_un, nio_own, asD_d, asD_own, asD_io, CT, CNz, tYesD, ex0, tdFor, tdLc, wipeD, isDat_eq, dat_d, dat_un, Owns, setO, List.map_cons, List.map_nil, List.cons_append, List.nil_append, List.length_cons, List.length_nil, List.replicate, List.replicate_succ, List.replicate_zero, List.getElem?_cons_zero, List.getElem?_cons_succ, List.set_cons_zero, List.set_cons_succ, Option.some.injEq, SV.d.injEq, SV.own.injEq, SV.io.injEq, PyData.int.injEq, PyData.str.injEq, PyData.bool.injEq, PyData.tuple.injEq, PyData.list.injEq, exists_eq_left', exists_eq_left, exists_eq_right, exists_eq_right', exists_and_left, true_and, and_true, if_true, if_false, id, reduceCtorEq, false_or, or_false, exists_false, List.cons.injEq, and_self, SV.d.injEq, Nat.reduceAdd, Nat.reduceSub, ite_true, ite_false, decide_eq_true_eq, Bool.false_eq_true, exists_const, decide_true, decide_false, List.forall_mem_cons, List.forall_mem_nil, Bool.not_true, Bool.not_false, Bool.not_eq_true, Nat.reduceLT, forall_const, implies_true, and_assoc, true_or, or_true, List.not_mem_nil, false_implies, Int.natCast_inj, not_true_eq_false, not_false_eq_true, and_false, false_and, List.length_map, List.take_length]
    rw [← h] at q
    unfold po ca at q
    rw [List.map_map] at q
    exact q
theorem sc__law_made : FnScope ["poly", "term_v"] ["poly"] (defScope s__law_made) := ⟨rfl, rfl, rfl, by decide +kernel, rfl, by decide +kernel, by decide +kernel⟩
theorem ok__law_made (T : Txt K mg CN) (hS : base.NoSeer) : FnD pw w K mg base "_law_made" 40 ["poly"] sp__law_made := by
  have F__law_fraction := ok__law_fraction (w := w) T hS
  refine okD (k := 39) T.f__law_made sc__law_made (fun _ _ _ _ _ _ us hl => match us, hl with | [_], _ => rfl) fun f cdv A outer s H E hr => ?_
  refine ⟨_, (done1 (dret (dtupc (by rfl) T.b_tuple (dab1 (DE.b (dlc (own := [("term_v", 1)]) rfl sc__law_made.nd (diS (dv 0)) (blkOk_by (by kernel_rfl)) (by decide) (fun _ _ _ _ _ => (dgn 1 sc__law_made.nd)) (fun _ _ _ _ _ => (dptN)) (fun _ _ _ _ _ => (dcall F__law_fraction (hr.mono (by decide)) (dacons (dv 1) (dacons (dix (DE.b (dv 0)) (DE.b (dneg (DE.b dint)))) danil)))))))))), fun ds Q X h hl => ?_⟩
  obtain ⟨xs, rfl, h1, h2, h3, q⟩ := h
  simp only [tdR, tdN, tdSq, tdE, tdIf, tdSet, tdF, tdRO, tdAsg, tdSub, tdAug, tdAugS, tdApp, tdPar, tdPar3, tdRaise, tV, tBo, tK, t2, t1, kI, kU, kEq, kEqS, kN, kIx, kST, kSL, kRv, kRvT, kCL, kCT, kRL, kRT, tCh, tTe, tNo, tAn, tOr', tAnV, DL.tOrV, kNo, tIfE, taC, tTp, tLs, tBi, kLen, kAbs, kMM, kInt, kTupc, kLisc, tSc, toN, toS, tOf, gNm, gNl, gCs, gTu, kIsi, kMn, kMx, kRp, tFz, tiS, tiO, tiR1, tiR2, tiRd, tiE, tCal, tCalB, startD, DL.startB, noIo_eq, nio_d, nio_un, nio_own, asD_d, asD_own, asD_io, CT, CNz, tYesD, ex0, tdFor, tdLc, wipeD, isDat_eq, dat_d, dat_un, Owns, setO, List.map_cons, List.map_nil, List.cons_append, List.nil_append, List.length_cons, List.length_nil, List.replicate, List.replicate_succ, List.replicate_zero, List.getElem?_cons_zero, List.getElem?_cons_succ, List.set_cons_zero, List.set_cons_succ, Option.some.injEq, SV.d.injEq, SV.own.injEq, SV.io.injEq, PyData.int.injEq, PyData.str.injEq, PyData.bool.injEq, PyData.tuple.injEq, PyData.list.injEq, exists_eq_left', exists_eq_left, exists_eq_right, exists_eq_right', exists_and_left, true_and, and_true, if_true, if_false, id, reduceCtorEq, false_or, or_false, exists_false, List.cons.injEq, and_self, SV.d.injEq, Nat.reduceAdd, Nat.reduceSub, ite_true, ite_false, decide_eq_true_eq, Bool.false_eq_true, exists_const, decide_true, decide_false, List.forall_mem_cons, List.forall_mem_nil, Bool.not_true, Bool.not_false, Bool.not_eq_true, Nat.reduceLT, forall_const, implies_true, and_assoc, true_or, or_true, List.not_mem_nil, false_implies, Int.natCast_inj, not_true_eq_false, not_false_eq_true, and_false, false_and, li]
  refine lcb (fun i => (xs.take i).map fun (x : Int) => fr ((x : Rat) * inv (ca xs))) (by simp only [tdR, tdN, tdSq, tdE, tdIf, tdSet, tdF, tdRO, tdAsg, tdSub, tdAug, tdAugS, tdApp, tdPar, tdPar3, tdRaise, tV, tBo, tK, t2, t1, kI, kU, kEq, kEqS, kN, kIx, kST, kSL, kRv, kRvT, kCL, kCT, kRL, kRT, tCh, tTe, tNo, tAn, tOr', tAnV, DL.tOrV, kNo, tIfE, taC, tTp, tLs, tBi, kLen, kAbs, kMM, kInt, kTupc, kLisc, tSc, toN, toS, tOf, gNm, gNl, gCs, gTu, kIsi, kMn, kMx, kRp, tFz, tiS, tiO, tiR1, tiR2, tiRd, tiE, tCal, tCalB, startD, DL.startB, noIo_eq, nio_d, nio_un, nio_own, asD_d, asD_own, asD_io, CT, CNz, tYesD, ex0, tdFor, tdLc, wipeD, isDat_eq, dat_d, dat_un, Owns, setO, List.map_cons, List.map_nil, List.cons_append, List.nil_append, List.length_cons, List.length_nil, List.replicate, List.replicate_succ, List.replicate_zero, List.getElem?_cons_zero, List.getElem?_cons_succ, List.set_cons_zero, List.set_cons_succ, Option.some.injEq, SV.d.injEq, SV.own.injEq, SV.io.injEq, PyData.int.injEq, PyData.str.injEq, PyData.bool.injEq, PyData.tuple.injEq, PyData.list.injEq, exists_eq_left', exists_eq_left, exists_eq_right, exists_eq_right', exists_and_left, true_and, and_true, if_true, if_false, id, reduceCtorEq, false_or, or_false, exists_false, List.cons.injEq, and_self, SV.d.injEq, Nat.reduceAdd, Nat.reduceSub, ite_true, ite_false, decide_eq_true_eq, Bool.false_eq_true, exists_const, decide_true, decide_false, List.forall_mem_cons, List.forall_mem_nil, Bool.not_true, Bool.not_false, Bool.not_eq_true, Nat.reduceLT, forall_const, implies_true, and_assoc, true_or, or_true, List.not_mem_nil, false_implies, Int.natCast_inj, not_true_eq_false, not_false_eq_true, and_false, false_and]) (fun _ e => nomatch e) rfl (fun i x hx => ?_) ?_
  · obtain ⟨hi, rfl⟩ := get_int hx
    have hn : xs ≠ [] := fun z => by rw [z] at hi; exact absurd hi (Nat.not_lt_zero _)
    have lead := last_ca h2 hn
    simp only [tdR, tdN, tdSq, tdE, tdIf, tdSet, tdF, tdRO, tdAsg, tdSub, tdAug, tdAugS, tdApp, tdPar, tdPar3, tdRaise, tV, tBo, tK, t2, t1, kI, kU, kEq, kEqS, kN, kIx, kST, kSL, kRv, kRvT, kCL, kCT, kRL, kRT, tCh, tTe, tNo, tAn, tOr', tAnV, DL.tOrV, kNo, tIfE, taC, tTp, tLs, tBi, kLen, kAbs, kMM, kInt, kTupc, kLisc, tSc, toN, toS, tOf, gNm, gNl, gCs, gTu, kIsi, kMn, kMx, kRp, tFz, tiS, tiO, tiR1, tiR2, tiRd, tiE, tCal, tCalB, startD, DL.startB, noIo_eq, nio_d, nio_un, nio_own, asD_d, asD_own, asD_io, CT, CNz, tYesD, ex0, tdFor, tdLc, wipeD, isDat_eq, dat_d, dat_un, Owns, setO, List.map_cons, List.map_nil, List.cons_append, List.nil_append, List.length_cons, List.length_nil, List.replicate, List.replicate_succ, List.replicate_zero, List.getElem?_cons_zero, List.getElem?_cons_succ, List.set_cons_zero, List.set_cons_succ, Option.some.injEq, SV.d.injEq, SV.own.injEq, SV.io.injEq, PyData.int.injEq, PyData.str.injEq, PyData.bool.injEq, PyData.tuple.injEq, PyData.list.injEq, exists_eq_left', exists_eq_left, exists_eq_right, exists_eq_right', exists_and_left, true_and, and_true, if_true, if_false, id, reduceCtorEq, false_or, or_false, exists_false, List.cons.injEq, and_self, SV.d.injEq, Nat.reduceAdd, Nat.reduceSub, ite_true, ite_false, decide_eq_true_eq, Bool.false_eq_true, exists_const, decide_true, decide_false, List.forall_mem_cons, List.forall_mem_nil, Bool.not_true, Bool.not_false, Bool.not_eq_true, Nat.reduceLT, forall_const, implies_true, and_assoc, true_or, or_true, List.not_mem_nil, false_implies, Int.natCast_inj, not_true_eq_false, not_false_eq_true, and_false, false_and, atI_intb hn, sp__law_fraction]
    have b1 := h3 _ (iat_mem hi)
    have b2 := h3 _ (List.getLast_mem hn)
    have lg : ∀ n : Nat, n < 1000 → n.log2 < 133000000 := fun n hn => Nat.lt_of_le_of_lt (log2_mono (show n ≤ 1000 by omega)) (by decide)
    refine ⟨lg _ b1, lg _ b2, lead, lt_size (by rw [List.length_map, List.length_take]; omega), ?_⟩
    rw [succ_map _ hi]
    have kk : ca xs ≠ [] := fun z => hn (ca_nil.mp z)
    have e : Rat.divInt (iat xs i) (xs.getLast hn) = ((iat xs i : Int) : Rat) * inv (ca xs) := by
      rw [Rat.divInt_eq_div]
      unfold inv
      rw [at0_last kk, ca_last hn kk]
      grind
    rw [e]
  · simp only [tdR, tdN, tdSq, tdE, tdIf, tdSet, tdF, tdRO, tdAsg, tdSub, tdAug, tdAugS, tdApp, tdPar, tdPar3, tdRaise, tV, tBo, tK, t2, t1, kI, kU, kEq, kEqS, kN, kIx, kST, kSL, kRv, kRvT, kCL, kCT, kRL, kRT, tCh, tTe, tNo, tAn, tOr', tAnV, DL.tOrV, kNo, tIfE, taC, tTp, tLs, tBi, kLen, kAbs, kMM, kInt, kTupc, kLisc, tSc, toN, toS, tOf, gNm, gNl, gCs, gTu, kIsi, kMn, kMx, kRp, tFz, tiS, tiO, tiR1, tiR2, tiRd, tiE, tCal, tCalB, startD, DL.startB, noIo_eq, nio_d, nio_un, nio_own, asD_d, asD_own, asD_io, CT, CNz, tYesD, ex0, tdFor, tdLc, wipeD, isDat_eq, dat_d, dat_un, Owns, setO, List.map_cons, List.map_nil, List.cons_append, List.nil_append, List.length_cons, List.length_nil, List.replicate, List.replicate_succ, List.replicate_zero, List.getElem?_cons_zero, List.getElem?_cons_succ, List.set_cons_zero, List.set_cons_succ, Option.some.injEq, SV.d.injEq, SV.own.injEq, SV.io.injEq, PyData.int.injEq, PyData.str.injEq, PyData.bool.injEq, PyData.tuple.injEq, PyData.list.injEq, exists_eq_left', exists_eq_left, exists_eq_right, exists_eq_right', exists_and_left, true_and, and_true, if_true, if_false, id, reduceCtorEq, false_or, or_false, exists_false, List.cons.injEq, and_self, SV.d.injEq, Nat.reduceAdd, Nat.reduceSub, ite_true, ite_false, decide_eq_true_eq, Bool.false_eq_true, exists_const, decide_true, decide_false, List.forall_mem_cons, List.forall_mem_nil, Bool.not_true, Bool.not_false, Bool.not_eq_true, Nat.reduceLT, forall_const, implies_true, and_assoc, true_or, or_true, List.not_mem_nil, false_implies, Int.natCast_inj, not_true_eq_false, not_false_eq_true, and_false, false_and, List.length_map, List.take_length]
    unfold po unit at q
    rw [List.map_map] at q
    unfold ca at q ⊢
    rw [List.map_map] at q
    exact q
theorem sc__law_pmul : FnScope ["one", "other", "found", "k", "m"] ["one", "other"] (defScope s__law_pmul) := ⟨rfl, rfl, rfl, by decide +kernel, rfl, by decide +kernel, by decide +kernel⟩
theorem ok__law_pmul (T : Txt K mg CN) (hS : base.NoSeer) : FnD pw w K mg base "_law_pmul" 39 ["one", "other"] sp__law_pmul := by
  have F__law_trim := ok__law_trim (w := w) T hS
  refine okD (k := 38) T.f__law_pmul sc__law_pmul (fun _ _ _ _ _ _ us hl => match us, hl with | [_, _], _ => rfl) fun f cdv A outer s H E hr => ?_
  refine ⟨_, (dcons (dset 2 sc__law_pmul.nd (drepL (DE.b (dlst (dacons dint danil))) (DE.b (dmax2 rfl (by rfl) T.b_max (dab2 (DE.b dint) (DE.b (dsub (DE.b (dadd (DE.b (dlen (by rfl) T.b_len (dab1 (DE.b (dv 0))))) (DE.b (dlen (by rfl) T.b_len (dab1 (DE.b (dv 1))))))) (DE.b dint))))))))
      (dcons (dfor (passes_of rfl) rfl (diR1 (by rfl) T.b_range (dab1 (DE.b (dlen (by rfl) T.b_len (dab1 (DE.b (dv 0))))))) (dgn 3 sc__law_pmul.nd) (done1 (dfor (passes_of rfl) rfl (diR1 (by rfl) T.b_range (dab1 (DE.b (dlen (by rfl) T.b_len (dab1 (DE.b (dv 1))))))) (dgn 4 sc__law_pmul.nd) (done1 (dsub_ 2 (dadd (DE.b (dix (db 2) (DE.b (dadd (DE.b (dv 3)) (DE.b (dv 4)))))) (DE.b (dmul (DE.b (dix (DE.b (dv 0)) (DE.b (dv 3)))) (DE.b (dix (DE.b (dv 1)) (DE.b (dv 4))))))) (DE.b (dadd (DE.b (dv 3)) (DE.b (dv 4)))))))))
      (done1 (dfrz 2 (dret (dcall F__law_trim (hr.mono (by decide)) (dacons (dv 2) danil))))))), fun ds Q X h hl => ?_⟩
  obtain ⟨xs, zs, rfl, h1, h2, h3, h4, q⟩ := h
  simp only [tdR, tdN, tdSq, tdE, tdIf, tdSet, tdF, tdRO, tdAsg, tdSub, tdAug, tdAugS, tdApp, tdPar, tdPar3, tdRaise, tV, tBo, tK, t2, t1, kI, kU, kEq, kEqS, kN, kIx, kST, kSL, kRv, kRvT, kCL, kCT, kRL, kRT, tCh, tTe, tNo, tAn, tOr', tAnV, DL.tOrV, kNo, tIfE, taC, tTp, tLs, tBi, kLen, kAbs, kMM, kInt, kTupc, kLisc, tSc, toN, toS, tOf, gNm, gNl, gCs, gTu, kIsi, kMn, kMx, kRp, tFz, tiS, tiO, tiR1, tiR2, tiRd, tiE, tCal, tCalB, startD, DL.startB, noIo_eq, nio_d, nio_un, nio_own, asD_d, asD_own, asD_io, CT, CNz, tYesD, ex0, tdFor, tdLc, wipeD, isDat_eq, dat_d, dat_un, Owns, setO, List.map_cons, List.map_nil, List.cons_append, List.nil_append, List.length_cons, List.length_nil, List.replicate, List.replicate_succ, List.replicate_zero, List.getElem?_cons_zero, List.getElem?_cons_succ, List.set_cons_zero, List.set_cons_succ, Option.some.injEq, SV.d.injEq, SV.own.injEq, SV.io.injEq, PyData.int.injEq, PyData.str.injEq, PyData.bool.injEq, PyData.tuple.injEq, PyData.list.injEq, exists_eq_left', exists_eq_left, exists_eq_right, exists_eq_right', exists_and_left, true_and, and_true, if_true, if_false, id, reduceCtorEq, false_or, or_false, exists_false, List.cons.injEq, and_self, SV.d.injEq, Nat.reduceAdd, Nat.reduceSub, ite_true, ite_false, decide_eq_true_eq, Bool.false_eq_true, exists_const, decide_true, decide_false, List.forall_mem_cons, List.forall_mem_nil, Bool.not_true, Bool.not_false, Bool.not_eq_true, Nat.reduceLT, forall_const, implies_true, and_assoc, true_or, or_true, List.not_mem_nil, false_implies, Int.natCast_inj, not_true_eq_false, not_false_eq_true, and_false, false_and, li, List.length_map]
  rw [pm_if, Int.toNat_natCast, reps_int]
  refine ⟨by rw [sizeLine_eq]; decide, by omega, by omega, by rw [sizeLine_eq]; omega, by omega, by omega, rfl, fun i δ => ∃ s3 s4, dat s3 ∧ dat s4 ∧ δ = [.d (.list (xs.map .int)), .d (.list (zs.map .int)), .own ((imulN xs zs i).map .int), s3, s4], ⟨.un, .un, trivial, trivial, rfl⟩, fun i x δ hx h => ?_, fun δ h => ?_⟩
  · obtain ⟨hi, rfl⟩ := rngD_nat hx
    obtain ⟨s3, s4, d3, d4, rfl⟩ := h
    have n3 := dat_nio d3
    have n4 := dat_nio d4
    simp only [tdR, tdN, tdSq, tdE, tdIf, tdSet, tdF, tdRO, tdAsg, tdSub, tdAug, tdAugS, tdApp, tdPar, tdPar3, tdRaise, tV, tBo, tK, t2, t1, kI, kU, kEq, kEqS, kN, kIx, kST, kSL, kRv, kRvT, kCL, kCT, kRL, kRT, tCh, tTe, tNo, tAn, tOr', tAnV, DL.tOrV, kNo, tIfE, taC, tTp, tLs, tBi, kLen, kAbs, kMM, kInt, kTupc, kLisc, tSc, toN, toS, tOf, gNm, gNl, gCs, gTu, kIsi, kMn, kMx, kRp, tFz, tiS, tiO, tiR1, tiR2, tiRd, tiE, tCal, tCalB, startD, DL.startB, noIo_eq, nio_d, nio_un, nio_own, asD_d, asD_own, asD_io, CT, CNz, tYesD, ex0, tdFor, tdLc, wipeD, isDat_eq, dat_d, dat_un, Owns, setO, List.map_cons, List.map_nil, List.cons_append, List.nil_append, List.length_cons, List.length_nil, List.replicate, List.replicate_succ, List.replicate_zero, List.getElem?_cons_zero, List.getElem?_cons_succ, List.set_cons_zero, List.set_cons_succ, Option.some.injEq, SV.d.injEq, SV.own.injEq, SV.io.injEq, PyData.int.injEq, PyData.str.injEq, PyData.bool.injEq, PyData.tuple.injEq, PyData.list.injEq, exists_eq_left', exists_eq_left, exists_eq_right, exists_eq_right', exists_and_left, true_and, and_true, if_true, if_false, id, reduceCtorEq, false_or, or_false, exists_false, List.cons.injEq, and_self, SV.d.injEq, Nat.reduceAdd, Nat.reduceSub, ite_true, ite_false, decide_eq_true_eq, Bool.false_eq_true, exists_const, decide_true, decide_false, List.forall_mem_cons, List.forall_mem_nil, Bool.not_true, Bool.not_false, Bool.not_eq_true, Nat.reduceLT, forall_const, implies_true, and_assoc, true_or, or_true, List.not_mem_nil, false_implies, Int.natCast_inj, not_true_eq_false, not_false_eq_true, and_false, false_and, n3, n4, List.length_map]
    rw [Int.toNat_natCast] at hi
    refine ⟨by omega, by omega, rfl, fun j δ => ∃ s4, dat s4 ∧ δ = [.d (.list (xs.map .int)), .d (.list (zs.map .int)), .own ((iaddN (imulN xs zs i) i (iat xs i) zs j).map .int), .d (.int i), s4], ⟨s4, d4, rfl⟩, fun j x δ hx h => ?_, fun δ h => ?_⟩
    · obtain ⟨hj, rfl⟩ := rngD_nat hx
      rw [Int.toNat_natCast] at hj
      obtain ⟨s4, d4, rfl⟩ := h
      have n4 := dat_nio d4
      have hlen : i + j < (iaddN (imulN xs zs i) i (iat xs i) zs j).length := by rw [iaddN_len, imulN_len]; omega
      simp only [tdR, tdN, tdSq, tdE, tdIf, tdSet, tdF, tdRO, tdAsg, tdSub, tdAug, tdAugS, tdApp, tdPar, tdPar3, tdRaise, tV, tBo, tK, t2, t1, kI, kU, kEq, kEqS, kN, kIx, kST, kSL, kRv, kRvT, kCL, kCT, kRL, kRT, tCh, tTe, tNo, tAn, tOr', tAnV, DL.tOrV, kNo, tIfE, taC, tTp, tLs, tBi, kLen, kAbs, kMM, kInt, kTupc, kLisc, tSc, toN, toS, tOf, gNm, gNl, gCs, gTu, kIsi, kMn, kMx, kRp, tFz, tiS, tiO, tiR1, tiR2, tiRd, tiE, tCal, tCalB, startD, DL.startB, noIo_eq, nio_d, nio_un, nio_own, asD_d, asD_own, asD_io, CT, CNz, tYesD, ex0, tdFor, tdLc, wipeD, isDat_eq, dat_d, dat_un, Owns, setO, List.map_cons, List.map_nil, List.cons_append, List.nil_append, List.length_cons, List.length_nil, List.replicate, List.replicate_succ, List.replicate_zero, List.getElem?_cons_zero, List.getElem?_cons_succ, List.set_cons_zero, List.set_cons_succ, Option.some.injEq, SV.d.injEq, SV.own.injEq, SV.io.injEq, PyData.int.injEq, PyData.str.injEq, PyData.bool.injEq, PyData.tuple.injEq, PyData.list.injEq, exists_eq_left', exists_eq_left, exists_eq_right, exists_eq_right', exists_and_left, true_and, and_true, if_true, if_false, id, reduceCtorEq, false_or, or_false, exists_false, List.cons.injEq, and_self, SV.d.injEq, Nat.reduceAdd, Nat.reduceSub, ite_true, ite_false, decide_eq_true_eq, Bool.false_eq_true, exists_const, decide_true, decide_false, List.forall_mem_cons, List.forall_mem_nil, Bool.not_true, Bool.not_false, Bool.not_eq_true, Nat.reduceLT, forall_const, implies_true, and_assoc, true_or, or_true, List.not_mem_nil, false_implies, Int.natCast_inj, not_true_eq_false, not_false_eq_true, and_false, false_and, n4, List.length_map, atI_int hi, atI_int hj, atI_int2 hlen, ixN_2 hlen]
      have b1 := h3 _ (iat_mem hi)
      have b2 := h4 _ (iat_mem hj)
      refine ⟨cmu_lt (by omega) (by omega), ⟨_, rfl⟩, .d (.int j), trivial, ?_, rfl⟩
      rw [set_int]; rfl
    · obtain ⟨s4, d4, rfl⟩ := h
      simp only [tdR, tdN, tdSq, tdE, tdIf, tdSet, tdF, tdRO, tdAsg, tdSub, tdAug, tdAugS, tdApp, tdPar, tdPar3, tdRaise, tV, tBo, tK, t2, t1, kI, kU, kEq, kEqS, kN, kIx, kST, kSL, kRv, kRvT, kCL, kCT, kRL, kRT, tCh, tTe, tNo, tAn, tOr', tAnV, DL.tOrV, kNo, tIfE, taC, tTp, tLs, tBi, kLen, kAbs, kMM, kInt, kTupc, kLisc, tSc, toN, toS, tOf, gNm, gNl, gCs, gTu, kIsi, kMn, kMx, kRp, tFz, tiS, tiO, tiR1, tiR2, tiRd, tiE, tCal, tCalB, startD, DL.startB, noIo_eq, nio_d, nio_un, nio_own, asD_d, asD_own, asD_io, CT, CNz, tYesD, ex0, tdFor, tdLc, wipeD, isDat_eq, dat_d, dat_un, Owns, setO, List.map_cons, List.map_nil, List.cons_append, List.nil_append, List.length_cons, List.length_nil, List.replicate, List.replicate_succ, List.replicate_zero, List.getElem?_cons_zero, List.getElem?_cons_succ, List.set_cons_zero, List.set_cons_succ, Option.some.injEq, SV.d.injEq, SV.own.injEq, SV.io.injEq, PyData.int.injEq, PyData.str.injEq, PyData.bool.injEq, PyData.tuple.injEq, PyData.list.injEq, exists_eq_left', exists_eq_left, exists_eq_right, exists_eq_right', exists_and_left, true_and, and_true, if_true, if_false, id, reduceCtorEq, false_or, or_false, exists_false, List.cons.injEq, and_self, SV.d.injEq, Nat.reduceAdd, Nat.reduceSub, ite_true, ite_false, decide_eq_true_eq, Bool.false_eq_true, exists_const, decide_true, decide_false, List.forall_mem_cons, List.forall_mem_nil, Bool.not_true, Bool.not_false, Bool.not_eq_true, Nat.reduceLT, forall_const, implies_true, and_assoc, true_or, or_true, List.not_mem_nil, false_implies, Int.natCast_inj, not_true_eq_false, not_false_eq_true, and_false, false_and, rngD_len, Int.toNat_natCast]
      exact ⟨.d (.int i), trivial, s4, d4, rfl, rfl, rfl⟩
  · obtain ⟨s3, s4, d3, d4, rfl⟩ := h
    simp only [tdR, tdN, tdSq, tdE, tdIf, tdSet, tdF, tdRO, tdAsg, tdSub, tdAug, tdAugS, tdApp, tdPar, tdPar3, tdRaise, tV, tBo, tK, t2, t1, kI, kU, kEq, kEqS, kN, kIx, kST, kSL, kRv, kRvT, kCL, kCT, kRL, kRT, tCh, tTe, tNo, tAn, tOr', tAnV, DL.tOrV, kNo, tIfE, taC, tTp, tLs, tBi, kLen, kAbs, kMM, kInt, kTupc, kLisc, tSc, toN, toS, tOf, gNm, gNl, gCs, gTu, kIsi, kMn, kMx, kRp, tFz, tiS, tiO, tiR1, tiR2, tiRd, tiE, tCal, tCalB, startD, DL.startB, noIo_eq, nio_d, nio_un, nio_own, asD_d, asD_own, asD_io, CT, CNz, tYesD, ex0, tdFor, tdLc, wipeD, isDat_eq, dat_d, dat_un, Owns, setO, List.map_cons, List.map_nil, List.cons_append, List.nil_append, List.length_cons, List.length_nil, List.replicate, List.replicate_succ, List.replicate_zero, List.getElem?_cons_zero, List.getElem?_cons_succ, List.set_cons_zero, List.set_cons_succ, Option.some.injEq, SV.d.injEq, SV.own.injEq, SV.io.injEq, PyData.int.injEq, PyData.str.injEq, PyData.bool.injEq, PyData.tuple.injEq, PyData.list.injEq, exists_eq_left', exists_eq_left, exists_eq_right, exists_eq_right', exists_and_left, true_and, and_true, if_true, if_false, id, reduceCtorEq, false_or, or_false, exists_false, List.cons.injEq, and_self, SV.d.injEq, Nat.reduceAdd, Nat.reduceSub, ite_true, ite_false, decide_eq_true_eq, Bool.false_eq_true, exists_const, decide_true, decide_false, List.forall_mem_cons, List.forall_mem_nil, Bool.not_true, Bool.not_false, Bool.not_eq_true, Nat.reduceLT, forall_const, implies_true, and_assoc, true_or, or_true, List.not_mem_nil, false_implies, Int.natCast_inj, not_true_eq_false, not_false_eq_true, and_false, false_and, rngD_len, Int.toNat_natCast, sp__law_trim, li]
    refine ⟨_, rfl, fun ys h _ => q ys ?_⟩
    rw [h, mulE_eq, ca_imulN, ca_len]
theorem sc__law_ints : FnScope ["bag", "many", "k"] ["bag", "many"] (defScope s__law_ints) := ⟨rfl, rfl, rfl, by decide +kernel, rfl, by decide +kernel, by decide +kernel⟩
theorem ok__law_ints (T : Txt K mg CN) (hS : base.NoSeer) : FnB pw w K mg base "_law_ints" 39 ["bag", "many"] sp__law_ints := by
  have F__law_take := ok__law_take (w := w) T hS
  have F__law_trim := ok__law_trim (w := w) T hS
  refine okB (k := 38) T.f__law_ints sc__law_ints (fun _ _ _ _ _ _ us hl => match us, hl with | [_, _], _ => rfl) (by decide) fun f cdv A outer s H E hr => ?_
  refine ⟨_, (done1 (dret (dcall F__law_trim (hr.mono (by decide)) (dacons (dlc (own := [("k", 2)]) rfl sc__law_ints.nd (diR1 (by rfl) T.b_range (dab1 (DE.b (dcallB 0 F__law_take (hr.mono (by decide)) (dacons (dadd (DE.b (dv 1)) (DE.b dint)) danil))))) (blkOk_by (by kernel_rfl)) (by decide) (fun _ _ _ _ _ => (dgn 2 sc__law_ints.nd)) (fun _ _ _ _ _ => (dptN)) (fun _ _ _ _ _ => (dsub (DE.b (dcallB 0 F__law_take (hr.mono (by decide)) (dacons dint danil))) (DE.b dint)))) danil)))), fun bag ds Q h hl => ?_⟩
  obtain ⟨n, m, h1, h2, h2', rfl, q⟩ := h
  simp only [tdR, tdN, tdSq, tdE, tdIf, tdSet, tdF, tdRO, tdAsg, tdSub, tdAug, tdAugS, tdApp, tdPar, tdPar3, tdRaise, tV, tBo, tK, t2, t1, kI, kU, kEq, kEqS, kN, kIx, kST, kSL, kRv, kRvT, kCL, kCT, kRL, kRT, tCh, tTe, tNo, tAn, tOr', tAnV, DL.tOrV, kNo, tIfE, taC, tTp, tLs, tBi, kLen, kAbs, kMM, kInt, kTupc, kLisc, tSc, toN, toS, tOf, gNm, gNl, gCs, gTu, kIsi, kMn, kMx, kRp, tFz, tiS, tiO, tiR1, tiR2, tiRd, tiE, tCal, tCalB, startD, DL.startB, noIo_eq, nio_d, nio_un, nio_own, asD_d, asD_own, asD_io, CT, CNz, tYesD, ex0, tdFor, tdLc, wipeD, isDat_eq, dat_d, dat_un, Owns, setO, List.map_cons, List.map_nil, List.cons_append, List.nil_append, List.length_cons, List.length_nil, List.replicate, List.replicate_succ, List.replicate_zero, List.getElem?_cons_zero, List.getElem?_cons_succ, List.set_cons_zero, List.set_cons_succ, Option.some.injEq, SV.d.injEq, SV.own.injEq, SV.io.injEq, PyData.int.injEq, PyData.str.injEq, PyData.bool.injEq, PyData.tuple.injEq, PyData.list.injEq, exists_eq_left', exists_eq_left, exists_eq_right, exists_eq_right', exists_and_left, true_and, and_true, if_true, if_false, id, reduceCtorEq, false_or, or_false, exists_false, List.cons.injEq, and_self, SV.d.injEq, Nat.reduceAdd, Nat.reduceSub, ite_true, ite_false, decide_eq_true_eq, Bool.false_eq_true, exists_const, decide_true, decide_false, List.forall_mem_cons, List.forall_mem_nil, Bool.not_true, Bool.not_false, Bool.not_eq_true, Nat.reduceLT, forall_const, implies_true, and_assoc, true_or, or_true, List.not_mem_nil, false_implies, Int.natCast_inj, not_true_eq_false, not_false_eq_true, and_false, false_and, sp__law_take]
  refine ⟨⟨_, rfl⟩, n, h1, by omega, by omega, fun v bag1 v0 v1 k1 => ⟨by omega, by omega, by simp only [tdR, tdN, tdSq, tdE, tdIf, tdSet, tdF, tdRO, tdAsg, tdSub, tdAug, tdAugS, tdApp, tdPar, tdPar3, tdRaise, tV, tBo, tK, t2, t1, kI, kU, kEq, kEqS, kN, kIx, kST, kSL, kRv, kRvT, kCL, kCT, kRL, kRT, tCh, tTe, tNo, tAn, tOr', tAnV, DL.tOrV, kNo, tIfE, taC, tTp, tLs, tBi, kLen, kAbs, kMM, kInt, kTupc, kLisc, tSc, toN, toS, tOf, gNm, gNl, gCs, gTu, kIsi, kMn, kMx, kRp, tFz, tiS, tiO, tiR1, tiR2, tiRd, tiE, tCal, tCalB, startD, DL.startB, noIo_eq, nio_d, nio_un, nio_own, asD_d, asD_own, asD_io, CT, CNz, tYesD, ex0, tdFor, tdLc, wipeD, isDat_eq, dat_d, dat_un, Owns, setO, List.map_cons, List.map_nil, List.cons_append, List.nil_append, List.length_cons, List.length_nil, List.replicate, List.replicate_succ, List.replicate_zero, List.getElem?_cons_zero, List.getElem?_cons_succ, List.set_cons_zero, List.set_cons_succ, Option.some.injEq, SV.d.injEq, SV.own.injEq, SV.io.injEq, PyData.int.injEq, PyData.str.injEq, PyData.bool.injEq, PyData.tuple.injEq, PyData.list.injEq, exists_eq_left', exists_eq_left, exists_eq_right, exists_eq_right', exists_and_left, true_and, and_true, if_true, if_false, id, reduceCtorEq, false_or, or_false, exists_false, List.cons.injEq, and_self, SV.d.injEq, Nat.reduceAdd, Nat.reduceSub, ite_true, ite_false, decide_eq_true_eq, Bool.false_eq_true, exists_const, decide_true, decide_false, List.forall_mem_cons, List.forall_mem_nil, Bool.not_true, Bool.not_false, Bool.not_eq_true, Nat.reduceLT, forall_const, implies_true, and_assoc, true_or, or_true, List.not_mem_nil, false_implies, Int.natCast_inj, not_true_eq_false, not_false_eq_true, and_false, false_and], fun i acc δ' => ∃ (xs : List Int) (bag' : List D), xs.length = i ∧ acc = xs.map .int ∧ (∀ x ∈ xs, x.natAbs ≤ 3) ∧ BagOk (n + 1 + i) bag' ∧ δ' = [.io bag', .d (.int m), .un], ⟨[], bag1, rfl, rfl, fun _ h => (nomatch h), k1, rfl⟩, fun i acc δ' h => ?_, fun i x acc δ' hx h => ?_, fun acc δ' h => ?_⟩⟩
  · obtain ⟨xs, bag', _, _, _, _, rfl⟩ := h
    exact ⟨by simp only [tdR, tdN, tdSq, tdE, tdIf, tdSet, tdF, tdRO, tdAsg, tdSub, tdAug, tdAugS, tdApp, tdPar, tdPar3, tdRaise, tV, tBo, tK, t2, t1, kI, kU, kEq, kEqS, kN, kIx, kST, kSL, kRv, kRvT, kCL, kCT, kRL, kRT, tCh, tTe, tNo, tAn, tOr', tAnV, DL.tOrV, kNo, tIfE, taC, tTp, tLs, tBi, kLen, kAbs, kMM, kInt, kTupc, kLisc, tSc, toN, toS, tOf, gNm, gNl, gCs, gTu, kIsi, kMn, kMx, kRp, tFz, tiS, tiO, tiR1, tiR2, tiRd, tiE, tCal, tCalB, startD, DL.startB, noIo_eq, nio_d, nio_un, nio_own, asD_d, asD_own, asD_io, CT, CNz, tYesD, ex0, tdFor, tdLc, wipeD, isDat_eq, dat_d, dat_un, Owns, setO, List.map_cons, List.map_nil, List.cons_append, List.nil_append, List.length_cons, List.length_nil, List.replicate, List.replicate_succ, List.replicate_zero, List.getElem?_cons_zero, List.getElem?_cons_succ, List.set_cons_zero, List.set_cons_succ, Option.some.injEq, SV.d.injEq, SV.own.injEq, SV.io.injEq, PyData.int.injEq, PyData.str.injEq, PyData.bool.injEq, PyData.tuple.injEq, PyData.list.injEq, exists_eq_left', exists_eq_left, exists_eq_right, exists_eq_right', exists_and_left, true_and, and_true, if_true, if_false, id, reduceCtorEq, false_or, or_false, exists_false, List.cons.injEq, and_self, SV.d.injEq, Nat.reduceAdd, Nat.reduceSub, ite_true, ite_false, decide_eq_true_eq, Bool.false_eq_true, exists_const, decide_true, decide_false, List.forall_mem_cons, List.forall_mem_nil, Bool.not_true, Bool.not_false, Bool.not_eq_true, Nat.reduceLT, forall_const, implies_true, and_assoc, true_or, or_true, List.not_mem_nil, false_implies, Int.natCast_inj, not_true_eq_false, not_false_eq_true, and_false, false_and], fun _ e => nomatch e⟩
  · obtain ⟨hi, rfl⟩ := rngD_nat hx
    obtain ⟨xs, bag2, rfl, rfl, hxs, k2, rfl⟩ := h
    simp only [tdR, tdN, tdSq, tdE, tdIf, tdSet, tdF, tdRO, tdAsg, tdSub, tdAug, tdAugS, tdApp, tdPar, tdPar3, tdRaise, tV, tBo, tK, t2, t1, kI, kU, kEq, kEqS, kN, kIx, kST, kSL, kRv, kRvT, kCL, kCT, kRL, kRT, tCh, tTe, tNo, tAn, tOr', tAnV, DL.tOrV, kNo, tIfE, taC, tTp, tLs, tBi, kLen, kAbs, kMM, kInt, kTupc, kLisc, tSc, toN, toS, tOf, gNm, gNl, gCs, gTu, kIsi, kMn, kMx, kRp, tFz, tiS, tiO, tiR1, tiR2, tiRd, tiE, tCal, tCalB, startD, DL.startB, noIo_eq, nio_d, nio_un, nio_own, asD_d, asD_own, asD_io, CT, CNz, tYesD, ex0, tdFor, tdLc, wipeD, isDat_eq, dat_d, dat_un, Owns, setO, List.map_cons, List.map_nil, List.cons_append, List.nil_append, List.length_cons, List.length_nil, List.replicate, List.replicate_succ, List.replicate_zero, List.getElem?_cons_zero, List.getElem?_cons_succ, List.set_cons_zero, List.set_cons_succ, Option.some.injEq, SV.d.injEq, SV.own.injEq, SV.io.injEq, PyData.int.injEq, PyData.str.injEq, PyData.bool.injEq, PyData.tuple.injEq, PyData.list.injEq, exists_eq_left', exists_eq_left, exists_eq_right, exists_eq_right', exists_and_left, true_and, and_true, if_true, if_false, id, reduceCtorEq, false_or, or_false, exists_false, List.cons.injEq, and_self, SV.d.injEq, Nat.reduceAdd, Nat.reduceSub, ite_true, ite_false, decide_eq_true_eq, Bool.false_eq_true, exists_const, decide_true, decide_false, List.forall_mem_cons, List.forall_mem_nil, Bool.not_true, Bool.not_false, Bool.not_eq_true, Nat.reduceLT, forall_const, implies_true, and_assoc, true_or, or_true, List.not_mem_nil, false_implies, Int.natCast_inj, not_true_eq_false, not_false_eq_true, and_false, false_and]
    refine ⟨⟨_, rfl⟩, n + 1 + xs.length, 7, k2, by omega, rfl, by decide, fun y bag3 y0 y1 k3 => ⟨y, rfl, lt_size (by rw [List.length_map]; omega), xs ++ [y - 3], by rw [List.length_append]; rfl, by rw [List.map_append]; rfl, fun z hz => ?_, k3⟩⟩
    rcases List.mem_append.mp hz with hz | hz
    · exact hxs z hz
    · have := List.mem_singleton.mp hz
      omega
  · obtain ⟨xs, bag2, hl, rfl, hxs, k2, rfl⟩ := h
    rw [rngD_len] at hl k2
    simp only [tdR, tdN, tdSq, tdE, tdIf, tdSet, tdF, tdRO, tdAsg, tdSub, tdAug, tdAugS, tdApp, tdPar, tdPar3, tdRaise, tV, tBo, tK, t2, t1, kI, kU, kEq, kEqS, kN, kIx, kST, kSL, kRv, kRvT, kCL, kCT, kRL, kRT, tCh, tTe, tNo, tAn, tOr', tAnV, DL.tOrV, kNo, tIfE, taC, tTp, tLs, tBi, kLen, kAbs, kMM, kInt, kTupc, kLisc, tSc, toN, toS, tOf, gNm, gNl, gCs, gTu, kIsi, kMn, kMx, kRp, tFz, tiS, tiO, tiR1, tiR2, tiRd, tiE, tCal, tCalB, startD, DL.startB, noIo_eq, nio_d, nio_un, nio_own, asD_d, asD_own, asD_io, CT, CNz, tYesD, ex0, tdFor, tdLc, wipeD, isDat_eq, dat_d, dat_un, Owns, setO, List.map_cons, List.map_nil, List.cons_append, List.nil_append, List.length_cons, List.length_nil, List.replicate, List.replicate_succ, List.replicate_zero, List.getElem?_cons_zero, List.getElem?_cons_succ, List.set_cons_zero, List.set_cons_succ, Option.some.injEq, SV.d.injEq, SV.own.injEq, SV.io.injEq, PyData.int.injEq, PyData.str.injEq, PyData.bool.injEq, PyData.tuple.injEq, PyData.list.injEq, exists_eq_left', exists_eq_left, exists_eq_right, exists_eq_right', exists_and_left, true_and, and_true, if_true, if_false, id, reduceCtorEq, false_or, or_false, exists_false, List.cons.injEq, and_self, SV.d.injEq, Nat.reduceAdd, Nat.reduceSub, ite_true, ite_false, decide_eq_true_eq, Bool.false_eq_true, exists_const, decide_true, decide_false, List.forall_mem_cons, List.forall_mem_nil, Bool.not_true, Bool.not_false, Bool.not_eq_true, Nat.reduceLT, forall_const, implies_true, and_assoc, true_or, or_true, List.not_mem_nil, false_implies, Int.natCast_inj, not_true_eq_false, not_false_eq_true, and_false, false_and, sp__law_trim, li, map_int_inj]
    intro ys hy hm
    have l2 : ys.length ≤ xs.length := by have := trim_len (ca xs); rw [← hy, ca_len, ca_len] at this; exact this
    exact q ys bag2 (by omega) (fun x hx => hxs x (hm x hx)) (by rw [hy]; exact tr_trim) (k2.mono (by omega))
end
end K70
/-! what the law asks, in plain Lean -/
namespace K70
open PM PM.Pol
theorem mulE_tr {l m : List Rat} : Tr (mulE l m) := by rw [mulE_eq]; exact tr_trim
theorem of_mulE (l m : List Rat) : of (mulE l m) = of l * of m := by
  unfold mulE
  by_cases h : l = [] ∨ m = []
  · rw [if_pos h]
    rcases h with h | h <;> subst h <;> rw [of_nil] <;> grind
  · rw [if_neg h]
    exact of_mulP (fun z => h (.inr z))
theorem mulE_nil {l m : List Rat} (hl : Tr l) (hm : Tr m) : mulE l m = [] ↔ l = [] ∨ m = [] := by
  constructor
  · intro h
    refine Classical.byContradiction fun z => ?_
    have n1 : l ≠ [] := fun q => z (.inl q)
    have n2 : m ≠ [] := fun q => z (.inr q)
    have := (mul_ne (ne_of hl n1) (ne_of hm n2)).1
    rw [← of_mulE, h, of_nil] at this
    exact this rfl
  · intro h; unfold mulE; rw [if_pos h]
theorem mulE_len {l m : List Rat} (hl : Tr l) (hm : Tr m) (n1 : l ≠ []) (n2 : m ≠ []) : (mulE l m).length + 1 = l.length + m.length := by
  have := (mul_ne (ne_of hl n1) (ne_of hm n2)).2
  rw [← of_mulE, len_tr mulE_tr, len_tr hl, len_tr hm] at this
  exact this
theorem mulE_le {l m : List Rat} (hl : Tr l) (hm : Tr m) : (mulE l m).length ≤ l.length + m.length - 1 := by
  by_cases h : l = [] ∨ m = []
  · rw [(mulE_nil hl hm).mpr h]; exact Nat.zero_le _
  · have := mulE_len hl hm (fun q => h (.inl q)) (fun q => h (.inr q))
    omega
theorem hb_nil (h : Nat) : Hb h [] := ⟨1, Nat.one_pos, Nat.one_le_two_pow, fun p => Ob.zero⟩
theorem mulE_hb {l m : List Rat} {h k : Nat} (x : Hb h l) (y : Hb k m) (hl : l.length ≤ 64) : Hb (h + k + 6) (mulE l m) := by
  unfold mulE
  split
  · exact hb_nil _
  · exact (mul_sz x y hl).2.2
/-! quotients and rests -/
theorem back_eq {A B : List Rat} (ha : Tr A) (hb : Tr B) (n : B ≠ []) : trim (addR (mulE (quo A B) B) (rem A B)) = A := by
  refine of_inj tr_trim ha ?_
  rw [of_trim, of_addR, of_mulE]
  exact (div_ok (l := A) hb n).1.symm
theorem undo_eq {A B : List Rat} (ha : Tr A) (hb : Tr B) (n : B ≠ []) : quo (mulE A B) B = A ∧ rem (mulE A B) B = [] := by
  refine div_uniq hb n ha rfl ?_ (List.length_pos_iff.mpr n)
  rw [of_mulE, of_nil]; grind
/-! common divisors -/
def G3 (A B C : List Rat) : List Rat := com (mulE B C).length (mulE A C) (mulE B C)
theorem G3_ok (A B C : List Rat) : Gcd (of A * of C) (of B * of C) (of (G3 A B C)) ∧ Tr (G3 A B C) := by
  have := com_ok (mulE B C).length (mulE A C) (mulE B C) mulE_tr mulE_tr (Nat.le_refl _)
  rw [of_mulE, of_mulE] at this
  exact ⟨this.1, this.2.1⟩
theorem G3_nil {A B C : List Rat} (h : (A = [] ∧ B = []) ∨ C = []) : G3 A B C = [] := by
  have e1 : mulE A C = [] := by unfold mulE; exact if_pos (h.elim (fun z => .inl z.1) .inr)
  have e2 : mulE B C = [] := by unfold mulE; exact if_pos (h.elim (fun z => .inl z.2) .inr)
  unfold G3
  rw [e1, e2]; rfl
theorem G3_one {A B C : List Rat} (ha : Tr A) (hb : Tr B) (hc : Tr C) (h : ¬ ((A = [] ∧ B = []) ∨ C = [])) : ∃ n : G3 A B C ≠ [], (G3 A B C).getLast n = 1 := by
  refine (com_ok (mulE B C).length (mulE A C) (mulE B C) mulE_tr mulE_tr (Nat.le_refl _)).2.2 ?_
  have nc : C ≠ [] := fun z => h (.inr z)
  by_cases e : A = []
  · refine .inr fun z => ?_
    rcases (mulE_nil hb hc).mp z with z | z
    · exact h (.inl ⟨e, z⟩)
    · exact nc z
  · refine .inl fun z => ?_
    rcases (mulE_nil ha hc).mp z with z | z
    · exact e z
    · exact nc z
theorem last_fr {l : List Rat} (n : l ≠ []) (h : l.getLast n = 1) : at0 l (l.length - 1) = 1 := by rw [at0_last n, h]
theorem G3_l {A B C : List Rat} (n : G3 A B C ≠ []) : rem (mulE A C) (G3 A B C) = [] := by
  obtain ⟨g, t⟩ := G3_ok A B C
  refine rem_nil t n ?_
  rw [of_mulE]; exact g.l
theorem G3_r {A B C : List Rat} (n : G3 A B C ≠ []) : rem (mulE B C) (G3 A B C) = [] := by
  obtain ⟨g, t⟩ := G3_ok A B C
  refine rem_nil t n ?_
  rw [of_mulE]; exact g.r
theorem unit_ne {l : List Rat} (n : l ≠ []) : unit l ≠ [] := fun z => n (by unfold unit at z; exact List.map_eq_nil_iff.mp z)
theorem G3_c {A B C : List Rat} (hc : Tr C) (n : C ≠ []) : rem (G3 A B C) (unit C) = [] := by
  obtain ⟨g, t⟩ := G3_ok A B C
  refine rem_nil (unit_tr hc) (unit_ne n) ?_
  exact ((dvd_unit hc).2).mpr (g.dvd ((Dvd.refl _).mulL _) ((Dvd.refl _).mulL _))
theorem of_powP (m : List Rat) : ∀ n : Nat, of (powP m n) = of m ^ n
  | 0 => rfl
  | n + 1 => by rw [powP, of_mulE, of_powP m n, pow_succ]
theorem dvd_pow {a b : Pol} (h : Dvd a b) : ∀ n : Nat, Dvd (a ^ n) (b ^ n)
  | 0 => Dvd.refl _
  | n + 1 => by
    obtain ⟨c, hc⟩ := dvd_pow h n
    obtain ⟨e, he⟩ := h
    exact ⟨c * e, by rw [pow_succ, pow_succ, hc, he]; grind⟩
/-! squarefree parts -/
section
variable {l : List Rat} (tl : Tr l) (nl : l ≠ [])
include tl nl
theorem sq_gcd : Gcd (of l) (D (of l)) (of (com (der l).length l (der l))) ∧ Tr (com (der l).length l (der l)) ∧ ∃ n : com (der l).length l (der l) ≠ [], (com (der l).length l (der l)).getLast n = 1 := by
  have := com_ok (der l).length l (der l) tl (der_tr l) (Nat.le_refl _)
  rw [of_der] at this
  exact ⟨this.1, this.2.1, this.2.2 (.inl nl)⟩
theorem sq_quo : of l = of (com (der l).length l (der l)) * of (quo l (com (der l).length l (der l))) ∧ quo l (com (der l).length l (der l)) ≠ [] := by
  obtain ⟨g, t, n, _⟩ := sq_gcd tl nl
  have e := (div_ok (l := l) t n).1
  rw [rem_nil t n g.l, of_nil] at e
  have e' : of l = of (com (der l).length l (der l)) * of (quo l (com (der l).length l (der l))) := by grind
  refine ⟨e', fun z => ne_of tl nl ?_⟩
  rw [e', z, of_nil]; grind
theorem sqf_tr : Tr (sqf l) := unit_tr quo_tr
theorem sqf_ne : sqf l ≠ [] := unit_ne (sq_quo tl nl).2
/-- what divides the part and its derivative is a number -/
theorem sqf_one (d : Pol) (h1 : Dvd d (of (sqf l))) (h2 : Dvd d (D (of (sqf l)))) : d.len = 1 := by
  obtain ⟨g, t, n, _⟩ := sq_gcd tl nl
  obtain ⟨e, nq⟩ := sq_quo tl nl
  have q := (flat_of gcds (ne_of tl nl) g e).1 d (((dvd_unit quo_tr).1).mp h1)
  refine q ?_
  have hu : of (sqf l) = of (quo l (com (der l).length l (der l))) * con (inv (quo l (com (der l).length l (der l)))) := of_unit _
  rw [hu, D_mul, D_con] at h2
  have iv := inv_ne quo_tr nq
  have ec : con (inv (quo l (com (der l).length l (der l)))) * con (1 / inv (quo l (com (der l).length l (der l)))) = 1 := Pol.ext fun x => by rw [f_mul, f_con, f_con, f_one]; grind
  obtain ⟨c, hc⟩ := h2
  refine ⟨c * con (1 / inv (quo l (com (der l).length l (der l)))), ?_⟩
  grind
theorem sqf_com : com (der (sqf l)).length (sqf l) (der (sqf l)) = [1] := by
  have ts := sqf_tr tl nl
  have ns := sqf_ne tl nl
  obtain ⟨g, t, n, h1⟩ := sq_gcd ts ns
  have := sqf_one tl nl _ g.l g.r
  rw [len_tr t] at this
  match e : com (der (sqf l)).length (sqf l) (der (sqf l)), this with
  | [c], _ =>
    have h1' : c = 1 := by simp only [e] at h1; simpa using h1
    rw [h1']
theorem sqf_dvd : rem l (sqf l) = [] := by
  obtain ⟨e, nq⟩ := sq_quo tl nl
  refine rem_nil (sqf_tr tl nl) (sqf_ne tl nl) ?_
  refine ((dvd_unit quo_tr).2).mpr ⟨of (com (der l).length l (der l)), ?_⟩
  rw [e]; grind
theorem sqf_pow : rem (powP (sqf l) l.length) (unit l) = [] := by
  obtain ⟨g, t, n, _⟩ := sq_gcd tl nl
  obtain ⟨e, nq⟩ := sq_quo tl nl
  refine rem_nil (unit_tr tl) (unit_ne nl) ?_
  rw [of_powP]
  have q := (flat_of gcds (ne_of tl nl) g e).2 l.length (by rw [len_tr tl]; exact Nat.le_refl _)
  refine ((dvd_unit tl).2).mpr (q.trans (dvd_pow ?_ _))
  exact ((dvd_unit quo_tr).2).mp (Dvd.refl _)
end
end K70
namespace K70
open PySem PySem.Spec L2 DL
open PM PM.Pol
/-! ### data that repr tells -/
structure Fine (b : Nat) (x : D) : Prop where
  sh : x.showable = true
  nd : x.hasDict = false
  can : x.canLay0 = true
  lv : x.leavesShort 100 = true
  dep : x.depth ≤ 60
  bk : x.bulk ≤ b
structure FineA (b : Nat) (xs : List D) : Prop where
  sh : PyData.showableAll xs = true
  nd : PyData.hasDictAll xs = false
  can : PyData.canLayAll0 xs = true
  lv : PyData.leavesShortAll 100 xs = true
  dep : PyData.depthAll xs ≤ 59
  bk : PyData.bulkAll xs ≤ b
theorem FineA.nil : FineA 0 [] := ⟨rfl, rfl, rfl, rfl, by decide, by decide⟩
theorem FineA.cons {a b : Nat} {x : D} {xs : List D} (h : Fine a x) (hd : x.depth ≤ 59) (g : FineA b xs) : FineA (a + 1 + b) (x :: xs) := by
  refine ⟨?_, ?_, ?_, ?_, ?_, ?_⟩
  · rw [PyData.showableAll, h.sh, g.sh]; rfl
  · rw [PyData.hasDictAll, h.nd, g.nd]; rfl
  · rw [PyData.canLayAll0, h.can, g.can]; rfl
  · rw [PyData.leavesShortAll, h.lv, g.lv]; rfl
  · rw [PyData.depthAll]; have := g.dep; omega
  · rw [PyData.bulkAll]; have := h.bk; have := g.bk; omega
theorem FineA.tup {b : Nat} {xs : List D} (g : FineA b xs) : Fine b (.tuple xs) :=
  ⟨by rw [PyData.showable]; exact g.sh, by rw [PyData.hasDict]; exact g.nd, by rw [PyData.canLay0]; exact g.can, by rw [PyData.leavesShort]; exact g.lv, by rw [PyData.depth]; have := g.dep; omega, by rw [PyData.bulk]; exact g.bk⟩
theorem FineA.lst {b : Nat} {xs : List D} (g : FineA b xs) : Fine b (.list xs) :=
  ⟨by rw [PyData.showable]; exact g.sh, by rw [PyData.hasDict]; exact g.nd, by rw [PyData.canLay0]; exact g.can, by rw [PyData.leavesShort]; exact g.lv, by rw [PyData.depth]; have := g.dep; omega, by rw [PyData.bulk]; exact g.bk⟩
theorem Fine.int {i : Int} (h : i.natAbs.log2 < 90) : Fine 0 (.int i) := by
  refine ⟨?_, rfl, rfl, ?_, Nat.zero_le _, Nat.le_refl _⟩
  · rw [PyData.showable]; exact decide_eq_true (by omega)
  · rw [PyData.leavesShort]
    refine decide_eq_true ?_
    have := int_text_length_le (k := 90) (by decide) h
    show (Str.ofString (toString i)).length ≤ 100
    rw [ofString_length]; omega
theorem fine_fr {q : Rat} (h : Sz 64 q) : Fine 2 (fr q) := by
  have l : ∀ n : Nat, n ≤ 2 ^ 64 → n.log2 < 90 := fun n hn => Nat.lt_of_le_of_lt (log2_mono hn) (by rw [Nat.log2_two_pow]; decide)
  have a := Fine.int (i := q.num) (l _ h.1)
  have b := Fine.int (i := (q.den : Int)) (l _ h.2)
  exact (FineA.cons (x := .int q.num) a (Nat.zero_le _) (FineA.cons (x := .int (q.den : Int)) b (Nat.zero_le _) FineA.nil)).tup
theorem fine_map : ∀ {l : List Rat}, (∀ a ∈ l, Sz 64 a) → FineA (3 * l.length) (l.map fr)
  | [], _ => FineA.nil
  | a :: l, h => by
    have := FineA.cons (fine_fr (h a List.mem_cons_self)) (show 1 ≤ 59 by decide) (fine_map fun b hb => h b (List.mem_cons_of_mem _ hb))
    rw [List.map_cons, List.length_cons]
    have e : 3 * (l.length + 1) = 2 + 1 + 3 * l.length := by omega
    rw [e]; exact this
theorem mem_sz {h : Nat} {l : List Rat} (x : Hb h l) (e : h ≤ 64) : ∀ a ∈ l, Sz 64 a := fun a ha => by
  obtain ⟨p, _, rfl⟩ := at0_mem ha
  exact (x.sz p).mono e
theorem fine_po {l : List Rat} (hl : l.length ≤ 64) (h : ∀ a ∈ l, Sz 64 a) : Fine 192 (po l) ∧ (po l).depth ≤ 2 := by
  have f := (fine_map h).tup
  refine ⟨⟨f.sh, f.nd, f.can, f.lv, f.dep, Nat.le_trans f.bk (by omega)⟩, ?_⟩
  show PyData.depthAll (l.map fr) + 1 ≤ 2
  have := dep_fr l
  omega
def Ali (x : D) : Prop := (∃ ys, x = .list ys ∨ x = .tuple ys) ∧ ShowOk x ∧ SeqAt.shaped x = true ∧ PyData.eqv x x = true
theorem ali_of {x : D} {b : Nat} (h : Fine b x) (hb : b ≤ 100000) (hx : ∃ ys, x = .list ys ∨ x = .tuple ys) : Ali x := by
  refine ⟨hx, ⟨h.sh, h.nd, by have := h.dep; omega, ?_⟩, ?_, SeqAt.eqv_refl x h.can⟩
  · have := PyData.shown_le_bulk 100 (by decide) x h.lv
    have := h.bk
    have e : (100 + 2) * x.bulk ≤ (100 + 2) * b := Nat.mul_le_mul_left _ h.bk
    rw [sizeLine_eq]; omega
  · unfold SeqAt.shaped
    rw [Bool.and_eq_true]
    exact ⟨h.can, decide_eq_true (by have := h.dep; omega)⟩
theorem ali_po {l : List Rat} (hl : l.length ≤ 64) (h : ∀ a ∈ l, Sz 64 a) : Ali (.tuple (l.map fr)) := ali_of (fine_po hl h).1 (by decide) ⟨_, .inr rfl⟩
theorem ali_3 {l m n : List Rat} (h1 : l.length ≤ 64) (h2 : m.length ≤ 64) (h3 : n.length ≤ 64) (g1 : ∀ a ∈ l, Sz 64 a) (g2 : ∀ a ∈ m, Sz 64 a) (g3 : ∀ a ∈ n, Sz 64 a) : Ali (.list [.tuple (l.map fr), .tuple (m.map fr), .tuple (n.map fr)]) := by
  obtain ⟨f1, d1⟩ := fine_po h1 g1
  obtain ⟨f2, d2⟩ := fine_po h2 g2
  obtain ⟨f3, d3⟩ := fine_po h3 g3
  exact ali_of (FineA.cons f1 (by omega) (FineA.cons f2 (by omega) (FineA.cons f3 (by omega) FineA.nil))).lst (by decide) ⟨_, .inl rfl⟩
/-! ### sizes -/
structure Sml (A : List Rat) (n : Nat) : Prop where
  t : Tr A
  l : A.length ≤ n
  h : Hb 2 A
theorem sml_ca {xs : List Int} {n : Nat} (h1 : xs.length ≤ n) (h2 : ∀ x ∈ xs, x.natAbs ≤ 3) (h3 : Tr (ca xs)) : Sml (ca xs) n := by
  refine ⟨h3, by rw [ca_len]; exact h1, 1, by decide, by decide, fun p => ?_⟩
  rw [at0_ca]
  refine (Ob.int _).mono ?_
  by_cases hp : p < xs.length
  · have := h2 _ (iat_mem hp); omega
  · rw [iat_out (by omega)]; decide
section
variable {A B C : List Rat} (ha : Sml A 4) (hb : Sml B 4) (hc : Sml C 3)
include ha hb
theorem z_mul : Hb 10 (mulE A B) ∧ (mulE A B).length ≤ 7 := by
  refine ⟨mulE_hb ha.h hb.h (by have := ha.l; omega), ?_⟩
  have := mulE_le ha.t hb.t
  have := ha.l
  have := hb.l
  omega
theorem z_add : Hb 5 (addR A B) ∧ (trim (addR A B)).length ≤ 4 := by
  refine ⟨ha.h.addR hb.h, Nat.le_trans (trim_len _) ?_⟩
  unfold addR
  have := ha.l
  have := hb.l
  rw [List.length_map, List.length_range]; omega
theorem z_div (n : B ≠ []) : Hb 14 (quo A B) ∧ Hb 14 (rem A B) ∧ (quo A B).length ≤ 4 ∧ (rem A B).length ≤ 4 ∧ 2 + (A.length + 1 - B.length) * (2 + 1) ≤ 14 := by
  have pb := List.length_pos_iff.mpr n
  have la := ha.l
  have e : 2 + (A.length + 1 - B.length) * (2 + 1) ≤ 14 := by omega
  have lr := (div_ok (l := A) hb.t n).2
  have lb := hb.l
  have lq : (quo A B).length ≤ 4 := by
    unfold quo
    refine Nat.le_trans (trim_len _) ?_
    rw [(divN_len _).2]; omega
  by_cases hl : B.length ≤ A.length
  · obtain ⟨_, q1, q2⟩ := div_sz hb.t n hl ha.h hb.h
    exact ⟨q1.mono e, q2.mono e, lq, by omega, e⟩
  · have d := divN_zero (l := A) (m := B) (by omega)
    refine ⟨?_, ?_, lq, by omega, e⟩
    · unfold quo; rw [d]; exact hb_nil _
    · unfold rem; rw [d]; exact ha.h.trim.mono (by omega)
end
theorem wt_le {a b n : Nat} (h1 : a ≤ n) (h2 : b ≤ n) : wt a b ≤ 2 * 3 ^ n := by
  unfold wt
  have e1 : 3 ^ a ≤ 3 ^ n := Nat.pow_le_pow_right (by decide) h1
  have e2 : 3 ^ b ≤ 3 ^ n := Nat.pow_le_pow_right (by decide) h2
  split <;> omega
section
variable {A B C : List Rat} (ha : Sml A 4) (hb : Sml B 4) (hc : Sml C 3)
include ha hb hc
theorem z_AC : Hb 10 (mulE A C) ∧ (mulE A C).length ≤ 6 := by
  refine ⟨mulE_hb ha.h hc.h (by have := ha.l; omega), ?_⟩
  have := mulE_le ha.t hc.t
  have := ha.l
  have := hc.l
  omega
theorem z_com : (10 + 1) * wt (mulE A C).length (mulE B C).length ≤ 60000000 ∧ Hb 20000 (G3 A B C) ∧ (G3 A B C).length ≤ 6 := by
  obtain ⟨h1, l1⟩ := z_AC ha ha hc
  obtain ⟨h2, l2⟩ := z_AC hb hb hc
  have w := wt_le l1 l2
  have e : (3 : Nat) ^ 6 = 729 := by decide
  rw [e] at w
  refine ⟨by omega, ?_, ?_⟩
  · obtain ⟨h', q1, q2⟩ := com_sz (mulE B C).length (mulE A C) (mulE B C) 10 mulE_tr mulE_tr (Nat.le_refl _) h1 h2
    refine q1.mono ?_
    have p : 0 < 3 ^ (com (mulE B C).length (mulE A C) (mulE B C)).length := Nat.pow_pos (by decide)
    have : (h' + 1) * 1 ≤ (h' + 1) * 3 ^ (com (mulE B C).length (mulE A C) (mulE B C)).length := Nat.mul_le_mul_left _ p
    omega
  · obtain ⟨g, t⟩ := G3_ok A B C
    by_cases n1 : mulE A C = []
    · by_cases n2 : mulE B C = []
      · unfold G3; rw [n1, n2]; exact Nat.zero_le _
      · have := g.r.len (by rw [← of_mulE]; exact ne_of mulE_tr n2)
        rw [← of_mulE, len_tr t, len_tr mulE_tr] at this
        omega
    · have := g.l.len (by rw [← of_mulE]; exact ne_of mulE_tr n1)
      rw [← of_mulE, len_tr t, len_tr mulE_tr] at this
      omega
end
/-! the square -/
section
variable {A C : List Rat} (ha : Sml A 4) (hc : Sml C 3) (na : A ≠ []) (nc : C ≠ [])
include ha hc
theorem z_sq : Hb 18 (mulE (mulE A A) C) ∧ (mulE (mulE A A) C).length ≤ 9 ∧ Hb 10 (mulE A A) ∧ (mulE A A).length ≤ 7 := by
  obtain ⟨h1, l1⟩ := z_mul ha ha
  refine ⟨mulE_hb h1 hc.h (by omega), ?_, h1, l1⟩
  have := mulE_le (l := mulE A A) mulE_tr hc.t
  have := hc.l
  omega
include na nc
theorem z_flat : ∃ k hf, Hb k (com (der (mulE (mulE A A) C)).length (mulE (mulE A A) C) (der (mulE (mulE A A) C))) ∧ Hb hf (sqf (mulE (mulE A A) C)) ∧ hf = 18 + ((mulE (mulE A A) C).length + 1 - (com (der (mulE (mulE A A) C)).length (mulE (mulE A A) C) (der (mulE (mulE A A) C))).length) * (k + 1) ∧
    hf ≤ 36468 ∧ (sqf (mulE (mulE A A) C)).length ≤ 6 ∧ 1 ≤ (sqf (mulE (mulE A A) C)).length ∧ (hf + 7) * wt (sqf (mulE (mulE A A) C)).length (der (sqf (mulE (mulE A A) C))).length ≤ 60000000 ∧ (18 + 7) * wt (mulE (mulE A A) C).length (der (mulE (mulE A A) C)).length ≤ 60000000 := by
  obtain ⟨h1, l1, _, _⟩ := z_sq ha hc
  have ln : (mulE (mulE A A) C).length + 2 = 2 * A.length + C.length := by
    have e1 := mulE_len ha.t ha.t na na
    have n1 : mulE A A ≠ [] := fun z => by
      rcases (mulE_nil ha.t ha.t).mp z with z | z <;> exact na z
    have e2 := mulE_len mulE_tr hc.t n1 nc
    omega
  generalize hsq : mulE (mulE A A) C = sq at *
  have tsq : Tr sq := by rw [← hsq]; exact mulE_tr
  have nsq : sq ≠ [] := fun z => by
    rw [z] at ln
    have := List.length_pos_iff.mpr na
    have := List.length_pos_iff.mpr nc
    simp at ln; omega
  have psq := List.length_pos_iff.mpr nsq
  have dl := der_len sq
  obtain ⟨g, tg, ng, _⟩ := sq_gcd tsq nsq
  obtain ⟨e, nq⟩ := sq_quo tsq nsq
  have pq := List.length_pos_iff.mpr nq
  -- A divides it
  have dA : Dvd (of A) (of (com (der sq).length sq (der sq))) := by
    refine g.dvd ?_ ?_
    · rw [← hsq, of_mulE, of_mulE]; exact ⟨of A * of C, by grind⟩
    · rw [← hsq, of_mulE, of_mulE, D_mul, D_mul]
      exact ⟨D (of A) * of C + D (of A) * of C + of A * D (of C), by grind⟩
  have lg := dA.len (ne_of tg ng)
  rw [len_tr ha.t, len_tr tg] at lg
  have lq := (mul_ne (ne_of tg ng) (ne_of quo_tr nq)).2
  rw [← e, len_tr tsq, len_tr tg, len_tr quo_tr] at lq
  have wsq : wt sq.length (der sq).length = 3 ^ sq.length := by unfold wt; rw [if_pos (by omega)]
  obtain ⟨k, k1, k2⟩ := com_sz (der sq).length sq (der sq) 24 tsq (der_tr sq) (Nat.le_refl _) (h1.mono (by omega)) (der_hb h1 (by omega))
  rw [wsq] at k2
  generalize hG : com (der sq).length sq (der sq) = G at *
  have lG : G.length ≤ sq.length := by omega
  have eT : sq.length = (sq.length - G.length) + G.length := by omega
  have k3 : k + 1 ≤ 25 * 3 ^ (sq.length - G.length) := by
    have : 3 ^ sq.length = 3 ^ (sq.length - G.length) * 3 ^ G.length := by rw [← Nat.pow_add]; congr 1
    rw [this, ← Nat.mul_assoc] at k2
    exact Nat.le_of_mul_le_mul_right k2 (Nat.pow_pos (by decide))
  have la := ha.l
  have lc := hc.l
  have T6 : sq.length + 1 - G.length ≤ 6 := by omega
  have p5 : 3 ^ (sq.length - G.length) ≤ 3 ^ 5 := Nat.pow_le_pow_right (by decide) (by omega)
  have e5 : (3 : Nat) ^ 5 = 243 := by decide
  rw [e5] at p5
  have hq := (div_sz tg ng lG h1 k1).2.1
  have big : (sq.length + 1 - G.length) * (k + 1) ≤ 6 * 6075 := Nat.mul_le_mul T6 (by omega)
  have lf : (sqf sq).length = sq.length + 1 - G.length := by unfold sqf; rw [unit_len, hG]; omega
  have df := der_len (sqf sq)
  refine ⟨k, _, k1, ?_, rfl, by omega, by omega, by omega, ?_, ?_⟩
  · unfold sqf; rw [hG]; exact unit_hb quo_tr hq
  · have wf : wt (sqf sq).length (der (sqf sq)).length ≤ 3 ^ 6 := by
      unfold wt
      rw [if_pos (by omega)]
      exact Nat.pow_le_pow_right (by decide) (by omega)
    have e6 : (3 : Nat) ^ 6 = 729 := by decide
    rw [e6] at wf
    have := Nat.mul_le_mul (show 18 + (sq.length + 1 - G.length) * (k + 1) + 7 ≤ 36475 by omega) wf
    omega
  · rw [wsq]
    have p9 : 3 ^ sq.length ≤ 3 ^ 9 := Nat.pow_le_pow_right (by decide) l1
    have e9 : (3 : Nat) ^ 9 = 19683 := by decide
    omega
end
theorem z_pow {m : List Rat} {h : Nat} (tm : Tr m) (lm : m.length ≤ 6) (x : Hb h m) : ∀ i, i ≤ 9 → (powP m i).length ≤ 5 * i + 1 ∧ Hb (1 + i * (h + 6)) (powP m i) ∧ Tr (powP m i)
  | 0, _ => ⟨Nat.le_refl _, ⟨1, by decide, Nat.one_le_two_pow, fun p => by
      cases p with
      | zero => exact (Ob.int 1).mono Nat.one_le_two_pow
      | succ p => exact Ob.zero⟩, by show trim [1] = [1]; rw [trim, trim, cut_nil, if_neg (by decide)]⟩
  | i + 1, hi => by
    obtain ⟨h1, h2, h3⟩ := z_pow tm lm x i (by omega)
    refine ⟨?_, ?_, mulE_tr⟩
    · have := mulE_le h3 tm
      show (mulE (powP m i) m).length ≤ _
      omega
    · have := mulE_hb h2 x (by omega)
      refine this.mono ?_
      rw [Nat.succ_mul]; omega
end K70
namespace K70
open PySem PySem.Spec L2 DL
open PM PM.Pol
/-! ### values -/
def hv (xs : List Int) (a0 a1 : Int) : Nat → Int × Int
  | 0 => (0, 1)
  | i + 1 => ((hv xs a0 a1 i).1 * a0 + iat xs (xs.length - 1 - i) * (hv xs a0 a1 i).2 * a1, (hv xs a0 a1 i).2 * a1)
theorem hv_bd {xs : List Int} {a0 a1 : Int} (h0 : a0.natAbs ≤ 4) (h1 : a1.natAbs ≤ 3) (hx : ∀ x ∈ xs, x.natAbs ≤ 3) : ∀ i, (hv xs a0 a1 i).1.natAbs ≤ 13 ^ i ∧ (hv xs a0 a1 i).2.natAbs ≤ 13 ^ i
  | 0 => ⟨Nat.zero_le _, Nat.le_refl _⟩
  | i + 1 => by
    obtain ⟨b1, b2⟩ := hv_bd h0 h1 hx i
    have hx' : (iat xs (xs.length - 1 - i)).natAbs ≤ 3 := by
      by_cases h : xs.length - 1 - i < xs.length
      · exact hx _ (iat_mem h)
      · rw [iat_out (by omega)]; decide
    have e : 13 ^ (i + 1) = 13 ^ i * 13 := Nat.pow_succ ..
    generalize 13 ^ i = M at *
    show (((hv xs a0 a1 i).1 * a0 + iat xs (xs.length - 1 - i) * (hv xs a0 a1 i).2 * a1).natAbs ≤ _ ∧ ((hv xs a0 a1 i).2 * a1).natAbs ≤ _)
    have m1 : ((hv xs a0 a1 i).1 * a0).natAbs ≤ M * 4 := by rw [Int.natAbs_mul]; exact Nat.mul_le_mul b1 h0
    have m2 : (iat xs (xs.length - 1 - i) * (hv xs a0 a1 i).2 * a1).natAbs ≤ 3 * M * 3 := by rw [Int.natAbs_mul, Int.natAbs_mul]; exact Nat.mul_le_mul (Nat.mul_le_mul hx' b2) h1
    have m3 : ((hv xs a0 a1 i).2 * a1).natAbs ≤ M * 3 := by rw [Int.natAbs_mul]; exact Nat.mul_le_mul b2 h1
    have := Int.natAbs_add_le ((hv xs a0 a1 i).1 * a0) (iat xs (xs.length - 1 - i) * (hv xs a0 a1 i).2 * a1)
    omega
theorem hv_ne {xs : List Int} {a0 a1 : Int} (h : a1 ≠ 0) : ∀ i, (hv xs a0 a1 i).2 ≠ 0
  | 0 => by show (1 : Int) ≠ 0; decide
  | i + 1 => Int.mul_ne_zero (hv_ne h i) h
theorem hv_ev {xs : List Int} {q : Rat} : ∀ i, i ≤ xs.length → (((hv xs q.num q.den i).1 : Int) : Rat) / (((hv xs q.num q.den i).2 : Int) : Rat) = ev ((ca xs).drop (xs.length - i)) q
  | 0, _ => by rw [Nat.sub_zero, List.drop_eq_nil_of_le (by rw [ca_len]; exact Nat.le_refl _)]; show ((0 : Int) : Rat) / ((1 : Int) : Rat) = 0; rw [show ((0 : Int) : Rat) = 0 from rfl]; grind
  | i + 1, hi => by
    have ih := hv_ev (xs := xs) (q := q) i (by omega)
    have e := ev_drop (l := ca xs) (i := xs.length - 1 - i) (by rw [ca_len]; omega) q
    have e1 : xs.length - 1 - i + 1 = xs.length - i := by omega
    have e2 : xs.length - (i + 1) = xs.length - 1 - i := by omega
    rw [e1, at0_ca, ← ih] at e
    rw [e2, e]
    have nu := cast_ne (hv_ne (xs := xs) (a0 := q.num) (den_ne q) i)
    have nd := cast_ne (den_ne q)
    have eq : q = ((q.num : Int) : Rat) / ((q.den : Int) : Rat) := by rw [← Rat.divInt_eq_div, Rat.num_divInt_den]
    show (((hv xs q.num q.den i).1 * q.num + iat xs (xs.length - 1 - i) * (hv xs q.num q.den i).2 * (q.den : Int) : Int) : Rat) / (((hv xs q.num q.den i).2 * (q.den : Int) : Int) : Rat) = _
    rw [Rat.intCast_add, Rat.intCast_mul, Rat.intCast_mul, Rat.intCast_mul, Rat.intCast_mul]
    conv => rhs; rw [eq]
    have eq2 : ((q.num : Int) : Rat) = q * ((q.den : Int) : Rat) := by grind
    grind
theorem hv_sm {xs : List Int} {q : Rat} (h0 : q.num.natAbs ≤ 4) (h1 : q.den ≤ 3) (hx : ∀ x ∈ xs, x.natAbs ≤ 3) (hl : xs.length ≤ 4) (j : Nat) : Sm (ev ((ca xs).drop j) q) ∧ Sm (ev ((ca xs).drop j) q * q) := by
  by_cases hj : j < xs.length
  · have hi : xs.length - j ≤ xs.length := by omega
    have e := hv_ev (xs := xs) (q := q) (xs.length - j) hi
    rw [show xs.length - (xs.length - j) = j by omega] at e
    obtain ⟨b1, b2⟩ := hv_bd (xs := xs) (a0 := q.num) (a1 := (q.den : Int)) h0 (by simpa using h1) hx (xs.length - j)
    have nu := hv_ne (xs := xs) (a0 := q.num) (den_ne q) (xs.length - j)
    generalize hv xs q.num q.den (xs.length - j) = ou at *
    have p4 : 13 ^ (xs.length - j) ≤ 13 ^ 4 := Nat.pow_le_pow_right (by decide) (by omega)
    have e4 : (13 : Nat) ^ 4 = 28561 := by decide
    have s : ((ou.2.natAbs : Nat) : Rat) = (ou.2 : Rat) * (ou.2.sign : Rat) := by
      have : ((ou.2.natAbs : Nat) : Int) = ou.2 * ou.2.sign := by
        rcases Int.lt_trichotomy ou.2 0 with h | h | h
        · rw [Int.sign_eq_neg_one_of_neg h]; omega
        · exact absurd h nu
        · rw [Int.sign_eq_one_of_pos h]; omega
      exact_mod_cast this
    have o1 : Ob ou.2.natAbs ou.1.natAbs (ev ((ca xs).drop j) q) := by
      refine ⟨ou.1 * ou.2.sign, ?_, ?_⟩
      · rw [s, ← e, Rat.intCast_mul]
        have := cast_ne nu
        grind
      · rw [Int.natAbs_mul, Int.natAbs_sign, if_neg nu, Nat.mul_one]; exact Nat.le_refl _
    have oq : Ob q.den q.num.natAbs q := ⟨q.num, by
      have eq : q = ((q.num : Int) : Rat) / ((q.den : Int) : Rat) := by rw [← Rat.divInt_eq_div, Rat.num_divInt_den]
      have nd := cast_ne (den_ne q)
      have : ((q.num : Int) : Rat) = q * ((q.den : Int) : Rat) := by grind
      rw [this]; rfl, Nat.le_refl _⟩
    have pu : 0 < ou.2.natAbs := by omega
    have b20 : (2 : Nat) ^ 20 = 1048576 := by decide
    refine ⟨sz_sm (o1.sz pu (h := 20) (by omega) (by omega)) (by decide), sz_sm ((o1.mul oq).sz (h := 20) (Nat.mul_pos pu q.den_pos) ?_ ?_) (by decide)⟩
    · have := Nat.mul_le_mul (show ou.1.natAbs ≤ 28561 by omega) h0; omega
    · have := Nat.mul_le_mul (show ou.2.natAbs ≤ 28561 by omega) h1; omega
  · rw [List.drop_eq_nil_of_le (by rw [ca_len]; omega)]
    have z : ev [] q = 0 := rfl
    rw [z, Rat.zero_mul]
    exact ⟨sm_zero, sm_zero⟩
theorem small_q {v w : Int} (hv : v.natAbs ≤ 4) (hw : 0 < w) (hw3 : w ≤ 3) : (Rat.divInt v w).num.natAbs ≤ 4 ∧ (Rat.divInt v w).den ≤ 3 := by
  have o : Ob w.natAbs 4 (Rat.divInt v w) := ⟨v, by
    rw [Rat.divInt_eq_div]
    have e : ((w.natAbs : Nat) : Rat) = (w : Rat) := by
      have : ((w.natAbs : Nat) : Int) = w := by omega
      exact_mod_cast this
    rw [e]
    have := cast_ne (show w ≠ 0 by omega)
    grind, hv⟩
  obtain ⟨a, b⟩ := ob_sm (by omega) o
  exact ⟨a, by omega⟩
theorem val_eq {xs : List Int} {q : Rat} : Rat.divInt (hv xs q.num q.den xs.length).1 (hv xs q.num q.den xs.length).2 = ev (ca xs) q := by
  have := hv_ev (xs := xs) (q := q) xs.length (Nat.le_refl _)
  rw [Nat.sub_self, List.drop_zero] at this
  rw [Rat.divInt_eq_div]; exact this
/-! ### derived, turned, shifted, lowest -/
theorem der_eq (xs : List Int) : trim (ca ((List.range (xs.length - 1)).map fun (j : Nat) => ((1 + j : Nat) : Int) * iat xs (1 + j))) = der (ca xs) := by
  unfold der
  congr 1
  rw [ca_len]
  unfold ca
  rw [List.map_map]
  apply List.ext_getElem?
  intro j
  rw [List.getElem?_drop, List.getElem?_map, List.getElem?_map]
  by_cases h : j < xs.length - 1
  · rw [List.getElem?_range h, List.getElem?_range (show 1 + j < xs.length by omega)]
    have e := at0_ca xs (1 + j)
    unfold ca at e
    simp only [Option.map_some, Function.comp, e, Rat.intCast_mul]
    rfl
  · rw [List.getElem?_eq_none (by simpa using by omega), List.getElem?_eq_none (by simpa using by omega)]; rfl
theorem turn_eq (xs : List Int) : ca xs.reverse = (ca xs).reverse := by unfold ca; rw [List.map_reverse]
theorem shift_eq {xs : List Int} (h : Tr (ca xs)) (n : xs ≠ []) (k : Nat) : trim (ca (List.replicate k 0 ++ xs)) = List.replicate k 0 ++ ca xs := by
  have e : ca (List.replicate k 0 ++ xs) = List.replicate k 0 ++ ca xs := by unfold ca; rw [List.map_append, List.map_replicate]; rfl
  rw [e]
  have nc : ca xs ≠ [] := fun z => n (ca_nil.mp z)
  refine tr_of_last fun k => ?_
  rw [List.getLast_append_of_ne_nil _ nc]
  exact h.last nc
theorem low_ex {l : List Rat} (h : Tr l) (n : l ≠ []) : ∃ k, k < l.length ∧ at0 l k ≠ 0 ∧ ∀ j, j < k → at0 l j = 0 := by
  have pl := List.length_pos_iff.mpr n
  have : ∀ m, (∃ k, k < m ∧ at0 l k ≠ 0 ∧ ∀ j, j < k → at0 l j = 0) ∨ ∀ j, j < m → at0 l j = 0 := by
    intro m
    induction m with
    | zero => exact .inr fun j hj => absurd hj (Nat.not_lt_zero _)
    | succ m ih =>
      rcases ih with ⟨k, h1, h2, h3⟩ | ih
      · exact .inl ⟨k, by omega, h2, h3⟩
      · by_cases e : at0 l m = 0
        · refine .inr fun j hj => ?_
          by_cases q : j = m
          · subst q; exact e
          · exact ih j (by omega)
        · exact .inl ⟨m, by omega, e, ih⟩
  rcases this l.length with h1 | h1
  · exact h1
  · have := h1 (l.length - 1) (by omega)
    rw [at0_last n] at this
    exact absurd this (h.last n)
theorem nzs_mem {l : List Rat} {n i : Nat} : i ∈ nzs l n ↔ i < n ∧ at0 l i ≠ 0 := by unfold nzs; rw [List.mem_filter, List.mem_range]; simp
theorem min_eq {l : List Rat} {k : Nat} {m : Int} (h1 : k < l.length) (h2 : at0 l k ≠ 0) (h3 : ∀ j, j < k → at0 l j = 0) (hm : m ∈ (nzs l l.length).map fun (i : Nat) => (i : Int)) (hl : ∀ y ∈ (nzs l l.length).map fun (i : Nat) => (i : Int), m ≤ y) : m = k := by
  obtain ⟨i, hi, rfl⟩ := List.mem_map.mp hm
  have := hl k (List.mem_map.mpr ⟨k, nzs_mem.mpr ⟨h1, h2⟩, rfl⟩)
  obtain ⟨_, h4⟩ := nzs_mem.mp hi
  by_cases e : i < k
  · exact absurd (h3 i e) h4
  · omega
theorem ca_zero {xs : List Int} {i : Nat} : at0 (ca xs) i = 0 ↔ iat xs i = 0 := by
  rw [at0_ca]
  exact ⟨fun h => Classical.byContradiction fun z => cast_ne z h, fun h => by rw [h]; rfl⟩
theorem ca_neg (xs : List Int) : ca (xs.map fun x => -x) = neg (ca xs) := by
  unfold ca neg
  rw [List.map_map, List.map_map]
  refine List.map_congr_left fun x _ => ?_
  exact Rat.intCast_neg x
end K70
namespace K70
open PySem PySem.Spec L2 DL
open PyProof.Rows hiding St

section
variable {w : World} {K : PySem.W.Frag} {mg : Str → Option Value} {base : Heap} {CN : Addr}

open PM
theorem gnm_gen {i : Nat} {x : D} {δ : List SV} {Q : List SV → Prop} (h : ∀ R : List SV → Prop, (∀ δ', Q δ' → R δ') → gNm i x δ R) : gNm i x δ Q := h _ fun _ x => x
theorem for_gen {ti : TDI} {g : TDG} {t : TDS} {ex : Ex} {D : DEnds} {δ : List SV} (h : ∀ R : List PyData → Option Nat → List SV → Prop, (∀ items bor δ1, ForB g t ex D items bor δ1 → R items bor δ1) → ti ex δ R) : tdFor ti g t ex D δ := h _ fun _ _ _ x => x
theorem mulE_fold (l m : List Rat) : (if l = [] ∨ m = [] then [] else mulP l m) = mulE l m := rfl
theorem addR_len (l m : List Rat) : (trim (addR l m)).length ≤ max l.length m.length := Nat.le_trans (trim_len _) (by unfold addR; rw [List.length_map, List.length_range]; exact Nat.le_refl _)
theorem sizes2 : 2 ≤ sizeLine := by rw [sizeLine_eq]; decide
theorem sizes3 : 3 ≤ sizeLine := by rw [sizeLine_eq]; decide
theorem eqPP (a b c : List Rat) : PyData.eqv (.tuple [.tuple (a.map fr), .tuple (b.map fr)]) (.tuple [.tuple (c.map fr), .tuple []]) = decide (a = c ∧ b = []) := by
  rw [PyData.eqv, PyData.eqvAll, PyData.eqvAll, PyData.eqvAll, eqP, eqP0]
  by_cases h : a = c <;> by_cases g : b = [] <;> simp [h, g]
theorem shPP (a b : List Rat) : SeqAt.shaped (.tuple [.tuple (a.map fr), .tuple (b.map fr)]) = true := by
  unfold SeqAt.shaped
  rw [Bool.and_eq_true]
  refine ⟨?_, decide_eq_true ?_⟩
  · have e : ∀ l : List Rat, PyData.canLay0 (.tuple (l.map fr)) = true := fun l => can_fr l
    rw [PyData.canLay0, PyData.canLayAll0, PyData.canLayAll0, PyData.canLayAll0, e a, e b]; rfl
  · have d : ∀ l : List Rat, PyData.depth (.tuple (l.map fr)) ≤ 2 := fun l => by have := dep_fr l; show PyData.depthAll (l.map fr) + 1 ≤ 2; omega
    have := d a
    have := d b
    show max (PyData.depth (.tuple (a.map fr))) (max (PyData.depth (.tuple (b.map fr))) 0) + 1 ≤ 64
    omega
theorem shPP0 (a : List Rat) : SeqAt.shaped (.tuple [.tuple (a.map fr), .tuple []]) = true := shPP a []
theorem eq11 (l : List Rat) : PyData.eqv (.tuple (l.map fr)) (.tuple [.tuple [.int 1, .int 1]]) = decide (l = [1]) := eqP l [1]
theorem rev_at {xs : List Int} {j : Nat} {x : D} (h : ((xs.map PyData.int).reverse)[j]? = some x) : j < xs.length ∧ x = .int (iat xs (xs.length - 1 - j)) := by
  have hj : j < xs.length := by have := (List.getElem?_eq_some_iff.mp h).1; simpa using this
  refine ⟨hj, ?_⟩
  rw [List.getElem?_reverse (by simpa using hj), List.length_map, List.getElem?_map] at h
  have e := (iat_mem (l := xs) (i := xs.length - 1 - j) (by omega))
  rw [List.getElem?_eq_getElem (by omega)] at h
  have := Option.some.inj h
  rw [← this]
  unfold iat
  rw [List.getElem?_eq_getElem (by omega)]
  rfl
theorem cmu_of {a b : Int} (h1 : a.natAbs ≤ 2 ^ 60) (h2 : b.natAbs ≤ 2 ^ 60) : CMu a b := by
  have e : ∀ {n : Nat}, n ≤ 2 ^ 60 → n.log2 ≤ 60 := fun h => Nat.le_trans (log2_mono h) (by rw [Nat.log2_two_pow]; exact Nat.le_refl _)
  have := e h1
  have := e h2
  unfold CMu
  first | omega | (rw [or_iff_right_iff_imp] <;> omega)
theorem rng1_nat {n i : Nat} {x : D} (h : (rngD 1 1 n)[i]? = some x) : i < n ∧ x = .int ((1 + i : Nat) : Int) := by
  obtain ⟨h1, h2⟩ := rngD_get h
  refine ⟨h1, h2.trans ?_⟩
  congr 1; omega
theorem hb_ca {xs : List Int} (h2 : ∀ x ∈ xs, x.natAbs ≤ 3) : Hb 2 (ca xs) := by
  refine ⟨1, by decide, by decide, fun p => ?_⟩
  rw [at0_ca]
  refine (Ob.int _).mono ?_
  by_cases hp : p < xs.length
  · have := h2 _ (iat_mem hp); omega
  · rw [iat_out (by omega)]; decide
theorem sz_zero : Sz 64 0 := (hb_nil 64).sz 0
theorem at2_0 {a b : D} : atI [a, b] 0 = some a := rfl
theorem at2_1 {a b : D} : atI [a, b] 1 = some b := rfl
theorem fr11 : (PyData.tuple [.int 1, .int 1]) = fr 1 := rfl
theorem fr01 : (PyData.tuple [.int 0, .int 1]) = fr 0 := rfl
def s_law : Stmt := nthS pw.main.body 46
theorem sc_law : FnScope ["script", "bag", "turn", "one", "other", "third", "mine", "its", "shared", "due", "odd", "quotient", "rest", "both", "square", "flat", "at", "over", "under", "term_v", "k", "many"] ["script"] (defScope s_law) := ⟨rfl, rfl, rfl, by decide +kernel, rfl, by decide +kernel, by decide +kernel⟩
theorem ok_law {f : Addr} {fd : FuncData} (T : Txt K mg CN) (hS : base.NoSeer) (B : ∃ g gd, FnOk pw w K mg base (L2.CX pw w) 2 g gd ["script"] (spBag K) ∧ mg "_law_bag" = some (.ref g) ∧ PySem.W.keepIn K (.ref g) = true ∧ Binds K gd ["script"] []) (F : Fun K "law" "law" s_law f fd) : FnG pw w K mg base (L2.CX pw w) 45 f fd ["script"] (spLaw K 63) := by
  have F__law_alike := ok__law_alike (w := w) T hS
  have F__law_fraction := ok__law_fraction (w := w) T hS
  have F__law_ints := ok__law_ints (w := w) T hS
  have F__law_made := ok__law_made (w := w) T hS
  have F__law_padd := ok__law_padd (w := w) T hS
  have F__law_pmul := ok__law_pmul (w := w) T hS
  have F__law_pneg := ok__law_pneg (w := w) T hS
  have F__law_poly := ok__law_poly (w := w) T hS
  have F__law_take := ok__law_take (w := w) T hS
  have F_common := ok_common (w := w) T hS
  have F_derived := ok_derived (w := w) T hS
  have F_divided := ok_divided (w := w) T hS
  have F_lowest := ok_lowest (w := w) T hS
  have F_poly_minus := ok_poly_minus (w := w) T hS
  have F_poly_plus := ok_poly_plus (w := w) T hS
  have F_poly_times := ok_poly_times (w := w) T hS
  have F_scaled := ok_scaled (w := w) T hS
  have F_shifted := ok_shifted (w := w) T hS
  have F_squarefree := ok_squarefree (w := w) T hS
  have F_to_power := ok_to_power (w := w) T hS
  have F_turned := ok_turned (w := w) T hS
  have F_value_at := ok_value_at (w := w) T hS
  have F_with_unit := ok_with_unit (w := w) T hS
  obtain ⟨gb, gdb, fob, hmb, hkb, hbb⟩ := B
  refine okLaw (ib := 1) (k := 44) F sc_law (by decide) (by decide) rfl fun cdv A outer s H E hr hG => ?_
  refine ⟨fun W tk => ps_set (i := 1) sc_law.nd rfl (Or.inl rfl) (pe_callS fob (hr.mono (by decide)) (by rfl) hmb hkb hbb (fun σ => passAt tk σ) (pa_cons (pv 0) pa_nil)), ?_⟩
  have hu := hr.units
  refine ⟨_, (dcons (dfor (passes_of rfl) rfl (diR1 (by rfl) T.b_range (dab1 (DE.b dint))) (dgn 2 sc_law.nd) (dcons (dasg (dtup (dacons (dcallB 1 F__law_ints (hr.mono (by decide)) (dacons dint danil)) (dacons (dcallB 1 F__law_ints (hr.mono (by decide)) (dacons dint danil)) (dacons (dcallB 1 F__law_ints (hr.mono (by decide)) (dacons dint danil)) danil)))) (dgtup (n := 3) rfl (dgcons (dgn 3 sc_law.nd) (dgcons (dgn 4 sc_law.nd) (dgcons (dgn 5 sc_law.nd) dgnil)))))
      (dcons (dpar3 6 7 8 rfl sc_law.nd (dacons (dcall F__law_poly (hr.mono (by decide)) (dacons (dv 3) danil)) (dacons (dcall F__law_poly (hr.mono (by decide)) (dacons (dv 4) danil)) (dacons (dcall F__law_poly (hr.mono (by decide)) (dacons (dv 5) danil)) danil))))
      (dcons (dset 9 sc_law.nd (DE.fz (dlst (dacons (dcall F__law_poly (hr.mono (by decide)) (dacons (dcall F__law_padd (hr.mono (by decide)) (dacons (dv 3) (dacons (dv 4) danil))) danil)) (dacons (dcall F__law_poly (hr.mono (by decide)) (dacons (dcall F__law_padd (hr.mono (by decide)) (dacons (dv 3) (dacons (dcall F__law_pneg (hr.mono (by decide)) (dacons (dv 4) danil)) danil))) danil)) (dacons (dcall F__law_poly (hr.mono (by decide)) (dacons (dcall F__law_pmul (hr.mono (by decide)) (dacons (dv 3) (dacons (dv 4) danil))) danil)) danil))))))
      (dcons (dsif (dtnot (dtval (DE.b (dcallG F__law_alike (hr.mono (by decide)) hG (dacons (dlst (dacons (dcall F_poly_plus (hr.mono (by decide)) (dacons (dv 6) (dacons (dv 7) danil))) (dacons (dcall F_poly_minus (hr.mono (by decide)) (dacons (dv 6) (dacons (dv 7) danil))) (dacons (dcall F_poly_times (hr.mono (by decide)) (dacons (dv 6) (dacons (dv 7) danil))) danil)))) (dacons (dv 9) danil)))))) (done1 (dret dbl)) dnil)
      (dcons (dfor (passes_of rfl) rfl (diS (dtup (dacons (dtup (dacons (dv 6) (dacons (dtup danil) danil))) (dacons (dtup (dacons (dv 7) (dacons (dtup danil) danil))) danil)))) (dgn 10 sc_law.nd) (done1 (dtryC rfl rfl T.e_Nothing F_divided (hr.mono (by decide)) (fun _ _ => (dacons (dix (DE.b (dv 10)) (DE.b dint)) (dacons (dix (DE.b (dv 10)) (DE.b dint)) danil))) (fun _ _ _ => (done1 (dret dbl))) (fun _ _ => (done1 dpass)))))
      (dcons (dsif (dtne hu (DE.b (dv 4)) (DE.b (dlst danil))) (dcons (dasg (dcall F_divided (hr.mono (by decide)) (dacons (dv 6) (dacons (dv 7) danil))) (dgtup (n := 2) rfl (dgcons (dgn 11 sc_law.nd) (dgcons (dgn 12 sc_law.nd) dgnil))))
      (dcons (dsif (DW.t (dwor (dtne hu (DE.b (dcall F_poly_plus (hr.mono (by decide)) (dacons (dcall F_poly_times (hr.mono (by decide)) (dacons (dv 11) (dacons (dv 7) danil))) (dacons (dv 12) danil)))) (DE.b (dv 6))) (dwor1 (DW.t (dwand (dtge (DE.b (dlen (by rfl) T.b_len (dab1 (DE.b (dv 12))))) (DE.b (dlen (by rfl) T.b_len (dab1 (DE.b (dv 7)))))) (dwand1 (dtne hu (DE.b (dv 7)) (DE.b (dtup danil))))))))) (done1 (dret dbl)) dnil)
      (done1 (dsif (dtne hu (DE.b (dcall F_divided (hr.mono (by decide)) (dacons (dcall F_poly_times (hr.mono (by decide)) (dacons (dv 6) (dacons (dv 7) danil))) (dacons (dv 7) danil)))) (DE.b (dtup (dacons (dv 6) (dacons (dtup danil) danil))))) (done1 (dret dbl)) dnil)))) dnil)
      (dcons (dset 13 sc_law.nd (dcall F_common (hr.mono (by decide)) (dacons (dcall F_poly_times (hr.mono (by decide)) (dacons (dv 6) (dacons (dv 8) danil))) (dacons (dcall F_poly_times (hr.mono (by decide)) (dacons (dv 7) (dacons (dv 8) danil))) danil))))
      (dcons (dsif (DW.t (dwor (DW.t (dwand (dteq hu (DE.b (dv 3)) (DE.b (dlst danil))) (dwand1 (dteq hu (DE.b (dv 4)) (DE.b (dlst danil)))))) (dwor1 (dteq hu (DE.b (dv 5)) (DE.b (dlst danil)))))) (done1 (dsif (dtne hu (DE.b (dv 13)) (DE.b (dtup danil))) (done1 (dret dbl)) dnil)) (dcons (dsif (DW.t (dwor (dtne hu (DE.b (dix (DE.b (dv 13)) (DE.b (dneg (DE.b dint))))) (DE.b (dtup (dacons dint (dacons dint danil))))) (dwor (dtne hu (DE.b (dix (DE.b (dcall F_divided (hr.mono (by decide)) (dacons (dcall F_poly_times (hr.mono (by decide)) (dacons (dv 6) (dacons (dv 8) danil))) (dacons (dv 13) danil)))) (DE.b dint))) (DE.b (dtup danil))) (dwor1 (dtne hu (DE.b (dix (DE.b (dcall F_divided (hr.mono (by decide)) (dacons (dcall F_poly_times (hr.mono (by decide)) (dacons (dv 7) (dacons (dv 8) danil))) (dacons (dv 13) danil)))) (DE.b dint))) (DE.b (dtup danil))))))) (done1 (dret dbl)) dnil)
      (done1 (dsif (DW.t (dwor (dtne hu (DE.b (dix (DE.b (dcall F_divided (hr.mono (by decide)) (dacons (dv 13) (dacons (dcall F_with_unit (hr.mono (by decide)) (dacons (dv 8) danil)) danil)))) (DE.b dint))) (DE.b (dtup danil))) (dwor1 (dtnot (dtval (DE.b (dcallG F__law_alike (hr.mono (by decide)) hG (dacons (dcall F_with_unit (hr.mono (by decide)) (dacons (dv 8) danil)) (dacons (dcall F__law_made (hr.mono (by decide)) (dacons (dv 5) danil)) danil))))))))) (done1 (dret dbl)) dnil))))
      (dcons (dset 14 sc_law.nd (dcall F_poly_times (hr.mono (by decide)) (dacons (dcall F_poly_times (hr.mono (by decide)) (dacons (dv 6) (dacons (dv 6) danil))) (dacons (dv 8) danil))))
      (dcons (dsif (dtne hu (DE.b (dv 14)) (DE.b (dtup danil))) (dcons (dset 15 sc_law.nd (dcall F_squarefree (hr.mono (by decide)) (dacons (dv 14) danil)))
      (done1 (dsif (DW.t (dwor (dtne hu (DE.b (dcall F_common (hr.mono (by decide)) (dacons (dv 15) (dacons (dcall F_derived (hr.mono (by decide)) (dacons (dv 15) danil)) danil)))) (DE.b (dtup (dacons (dtup (dacons dint (dacons dint danil))) danil)))) (dwor (dtne hu (DE.b (dix (DE.b (dcall F_divided (hr.mono (by decide)) (dacons (dv 14) (dacons (dv 15) danil)))) (DE.b dint))) (DE.b (dtup danil))) (dwor1 (dtne hu (DE.b (dix (DE.b (dcall F_divided (hr.mono (by decide)) (dacons (dcall F_to_power (hr.mono (by decide)) (dacons (dv 15) (dacons (dlen (by rfl) T.b_len (dab1 (DE.b (dv 14)))) danil))) (dacons (dcall F_with_unit (hr.mono (by decide)) (dacons (dv 14) danil)) danil)))) (DE.b dint))) (DE.b (dtup danil))))))) (done1 (dret dbl)) dnil))) dnil)
      (dcons (dset 16 sc_law.nd (dcall F__law_fraction (hr.mono (by decide)) (dacons (dsub (DE.b (dcallB 1 F__law_take (hr.mono (by decide)) (dacons dint danil))) (DE.b dint)) (dacons (dadd (DE.b dint) (DE.b (dcallB 1 F__law_take (hr.mono (by decide)) (dacons dint danil)))) danil))))
      (dcons (dasg (dtup (dacons dint (dacons dint danil))) (dgtup (n := 2) rfl (dgcons (dgn 17 sc_law.nd) (dgcons (dgn 18 sc_law.nd) dgnil))))
      (dcons (dfor (passes_of rfl) rfl (diS (drevL (DE.b (dv 3)))) (dgn 19 sc_law.nd) (done1 (dpar 17 18 rfl sc_law.nd (dadd (DE.b (dmul (DE.b (dv 17)) (DE.b (dix (DE.b (dv 16)) (DE.b dint))))) (DE.b (dmul (DE.b (dmul (DE.b (dv 19)) (DE.b (dv 18)))) (DE.b (dix (DE.b (dv 16)) (DE.b dint)))))) (dmul (DE.b (dv 18)) (DE.b (dix (DE.b (dv 16)) (DE.b dint)))))))
      (dcons (dsif (dtne hu (DE.b (dcall F_value_at (hr.mono (by decide)) (dacons (dv 6) (dacons (dv 16) danil)))) (DE.b (dcall F__law_fraction (hr.mono (by decide)) (dacons (dv 17) (dacons (dv 18) danil))))) (done1 (dret dbl)) dnil)
      (dcons (dsif (DW.t (dwor (dtnot (dtval (DE.b (dcallG F__law_alike (hr.mono (by decide)) hG (dacons (dcall F_derived (hr.mono (by decide)) (dacons (dv 6) danil)) (dacons (dcall F__law_poly (hr.mono (by decide)) (dacons (dlc (own := [("k", 20)]) rfl sc_law.nd (diR2 (by rfl) T.b_range (dab2 (DE.b dint) (DE.b (dlen (by rfl) T.b_len (dab1 (DE.b (dv 3))))))) (blkOk_by (by kernel_rfl)) (by decide) (fun _ _ _ _ _ => (dgn 20 sc_law.nd)) (fun _ _ _ _ _ => (dptN)) (fun _ _ _ _ _ => (dmul (DE.b (dv 20)) (DE.b (dix (DE.b (dv 3)) (DE.b (dv 20))))))) danil)) danil)))))) (dwor1 (dtnot (dtval (DE.b (dcallG F__law_alike (hr.mono (by decide)) hG (dacons (dcall F_turned (hr.mono (by decide)) (dacons (dv 6) danil)) (dacons (dcall F__law_poly (hr.mono (by decide)) (dacons (drevL (DE.b (dv 3))) danil)) danil))))))))) (done1 (dret dbl)) dnil)
      (dcons (dset 21 sc_law.nd (dcallB 1 F__law_take (hr.mono (by decide)) (dacons dint danil)))
      (dcons (dsif (dtnot (dtval (DE.b (dcallG F__law_alike (hr.mono (by decide)) hG (dacons (dcall F_shifted (hr.mono (by decide)) (dacons (dv 6) (dacons (dv 21) danil))) (dacons (dif (dtne hu (DE.b (dv 3)) (DE.b (dlst danil))) (dcall F__law_poly (hr.mono (by decide)) (dacons (dcatL (DE.b (drepL (DE.b (dlst (dacons dint danil))) (DE.b (dv 21)))) (DE.b (dv 3))) danil)) (dtup danil)) danil)))))) (done1 (dret dbl)) dnil)
      (done1 (dsif (DW.t (dwand (dtne hu (DE.b (dv 3)) (DE.b (dlst danil))) (dwand1 (DW.t (dwor (dtne hu (DE.b (dcall F_lowest (hr.mono (by decide)) (dacons (dv 6) danil))) (DE.b (dminL rfl (by rfl) T.b_min (by decide +kernel) (dab1 (DE.b (dlc (own := [("k", 20)]) rfl sc_law.nd (diR1 (by rfl) T.b_range (dab1 (DE.b (dlen (by rfl) T.b_len (dab1 (DE.b (dv 3))))))) (blkOk_by (by kernel_rfl)) (by decide) (fun _ _ _ _ _ => (dgn 20 sc_law.nd)) (fun _ _ _ _ _ => (dpt1 (dtne hu (DE.b (dix (DE.b (dv 3)) (DE.b (dv 20)))) (DE.b dint)))) (fun _ _ _ _ _ => (dv 20)))))))) (dwor1 (dtne hu (DE.b (dcall F_scaled (hr.mono (by decide)) (dacons (dv 6) (dacons (dtup (dacons dint (dacons dint danil))) danil)))) (DE.b (dtup danil))))))))) (done1 (dret dbl)) dnil))))))))))))))))))))
      (done1 (dret dbl))), fun cs hcl hc => ?_⟩
  refine sq_gen fun R0 hR0 => for_gen fun R1 hR1 => ?_
  simp only [tdR, tdN, tdSq, tdE, tdIf, tdSet, tdF, tdRO, tdAsg, tdSub, tdAug, tdAugS, tdApp, tdPar, tdPar3, tdRaise, tV, tBo, tK, t2, t1, kI, kU, kEq, kEqS, kN, kIx, kST, kSL, kRv, kRvT, kCL, kCT, kRL, kRT, tCh, tTe, tNo, tAn, tOr', tAnV, DL.tOrV, kNo, tIfE, taC, tTp, tLs, tBi, kLen, kAbs, kMM, kInt, kTupc, kLisc, tSc, toN, toS, tOf, gNm, gNl, gCs, gTu, kIsi, kMn, kMx, kRp, tFz, tiS, tiO, tiR1, tiR2, tiRd, tiE, tCal, tCalB, startD, DL.startB, noIo_eq, nio_d, nio_un, nio_own, asD_d, asD_own, asD_io, CT, CNz, tYesD, ex0, tdFor, tdLc, wipeD, isDat_eq, dat_d, dat_un, Owns, setO, List.map_cons, List.map_nil, List.cons_append, List.nil_append, List.length_cons, List.length_nil, List.replicate, List.replicate_succ, List.replicate_zero, List.getElem?_cons_zero, List.getElem?_cons_succ, List.set_cons_zero, List.set_cons_succ, Option.some.injEq, SV.d.injEq, SV.own.injEq, SV.io.injEq, PyData.int.injEq, PyData.str.injEq, PyData.bool.injEq, PyData.tuple.injEq, PyData.list.injEq, exists_eq_left', exists_eq_left, exists_eq_right, exists_eq_right', exists_and_left, true_and, and_true, if_true, if_false, id, reduceCtorEq, false_or, or_false, exists_false, List.cons.injEq, and_self, SV.d.injEq, Nat.reduceAdd, Nat.reduceSub, ite_true, ite_false, decide_eq_true_eq, Bool.false_eq_true, exists_const, decide_true, decide_false, List.forall_mem_cons, List.forall_mem_nil, Bool.not_true, Bool.not_false, Bool.not_eq_true, Nat.reduceLT, forall_const, implies_true, and_assoc, true_or, or_true, List.not_mem_nil, false_implies, Int.natCast_inj, not_true_eq_false, not_false_eq_true, and_false, false_and, startL]
  refine ⟨by decide, by decide, hR1 _ _ _ ⟨rfl, fun i δ => ∃ (s2 s3 s4 s5 s6 s7 s8 s9 s10 s11 s12 s13 s14 s15 s16 s17 s18 s19 s20 s21 : SV) (bag : List D), (dat s2 ∧ dat s3 ∧ dat s4 ∧ dat s5 ∧ dat s6 ∧ dat s7 ∧ dat s8 ∧ dat s9 ∧ dat s10 ∧ dat s11 ∧ dat s12 ∧ dat s13 ∧ dat s14 ∧ dat s15 ∧ dat s16 ∧ dat s17 ∧ dat s18 ∧ dat s19 ∧ dat s20 ∧ dat s21) ∧ BagOk (100 * i) bag ∧ δ = [.un, .own bag, s2, s3, s4, s5, s6, s7, s8, s9, s10, s11, s12, s13, s14, s15, s16, s17, s18, s19, s20, s21], ?_, fun i x δ hx h => ?_, fun δ h => ?_⟩⟩
  · exact ⟨.un, .un, .un, .un, .un, .un, .un, .un, .un, .un, .un, .un, .un, .un, .un, .un, .un, .un, .un, .un, bag0 cs, ⟨trivial, trivial, trivial, trivial, trivial, trivial, trivial, trivial, trivial, trivial, trivial, trivial, trivial, trivial, trivial, trivial, trivial, trivial, trivial, trivial⟩, ⟨0, 1234567891, 0, cs, rfl, by decide, by decide, by decide, by decide, by decide, by omega, hc⟩, rfl⟩
  rotate_left
  · obtain ⟨s2, s3, s4, s5, s6, s7, s8, s9, s10, s11, s12, s13, s14, s15, s16, s17, s18, s19, s20, s21, bag, ⟨d2, d3, d4, d5, d6, d7, d8, d9, d10, d11, d12, d13, d14, d15, d16, d17, d18, d19, d20, d21⟩, hb, rfl⟩ := h
    refine hR0 _ ?_
    simp only [tdR, tdN, tdSq, tdE, tdIf, tdSet, tdF, tdRO, tdAsg, tdSub, tdAug, tdAugS, tdApp, tdPar, tdPar3, tdRaise, tV, tBo, tK, t2, t1, kI, kU, kEq, kEqS, kN, kIx, kST, kSL, kRv, kRvT, kCL, kCT, kRL, kRT, tCh, tTe, tNo, tAn, tOr', tAnV, DL.tOrV, kNo, tIfE, taC, tTp, tLs, tBi, kLen, kAbs, kMM, kInt, kTupc, kLisc, tSc, toN, toS, tOf, gNm, gNl, gCs, gTu, kIsi, kMn, kMx, kRp, tFz, tiS, tiO, tiR1, tiR2, tiRd, tiE, tCal, tCalB, startD, DL.startB, noIo_eq, nio_d, nio_un, nio_own, asD_d, asD_own, asD_io, CT, CNz, tYesD, ex0, tdFor, tdLc, wipeD, isDat_eq, dat_d, dat_un, Owns, setO, List.map_cons, List.map_nil, List.cons_append, List.nil_append, List.length_cons, List.length_nil, List.replicate, List.replicate_succ, List.replicate_zero, List.getElem?_cons_zero, List.getElem?_cons_succ, List.set_cons_zero, List.set_cons_succ, Option.some.injEq, SV.d.injEq, SV.own.injEq, SV.io.injEq, PyData.int.injEq, PyData.str.injEq, PyData.bool.injEq, PyData.tuple.injEq, PyData.list.injEq, exists_eq_left', exists_eq_left, exists_eq_right, exists_eq_right', exists_and_left, true_and, and_true, if_true, if_false, id, reduceCtorEq, false_or, or_false, exists_false, List.cons.injEq, and_self, SV.d.injEq, Nat.reduceAdd, Nat.reduceSub, ite_true, ite_false, decide_eq_true_eq, Bool.false_eq_true, exists_const, decide_true, decide_false, List.forall_mem_cons, List.forall_mem_nil, Bool.not_true, Bool.not_false, Bool.not_eq_true, Nat.reduceLT, forall_const, implies_true, and_assoc, true_or, or_true, List.not_mem_nil, false_implies, Int.natCast_inj, not_true_eq_false, not_false_eq_true, and_false, false_and]
  · obtain ⟨hi, rfl⟩ := rngD_nat hx
    have hi6 : i < 6 := hi
    obtain ⟨s2, s3, s4, s5, s6, s7, s8, s9, s10, s11, s12, s13, s14, s15, s16, s17, s18, s19, s20, s21, bag, ⟨d2, d3, d4, d5, d6, d7, d8, d9, d10, d11, d12, d13, d14, d15, d16, d17, d18, d19, d20, d21⟩, hb, rfl⟩ := h
    have n2 := dat_nio d2
    have n3 := dat_nio d3
    have n4 := dat_nio d4
    have n5 := dat_nio d5
    have n6 := dat_nio d6
    have n7 := dat_nio d7
    have n8 := dat_nio d8
    have n9 := dat_nio d9
    have n10 := dat_nio d10
    have n11 := dat_nio d11
    have n12 := dat_nio d12
    have n13 := dat_nio d13
    have n14 := dat_nio d14
    have n15 := dat_nio d15
    have n16 := dat_nio d16
    have n17 := dat_nio d17
    have n18 := dat_nio d18
    have n19 := dat_nio d19
    have n20 := dat_nio d20
    have n21 := dat_nio d21
    refine gnm_gen fun R2 hR2 => ?_
    simp only [tdR, tdN, tdSq, tdE, tdIf, tdSet, tdF, tdRO, tdAsg, tdSub, tdAug, tdAugS, tdApp, tdPar, tdPar3, tdRaise, tV, tBo, tK, t2, t1, kI, kU, kEq, kEqS, kN, kIx, kST, kSL, kRv, kRvT, kCL, kCT, kRL, kRT, tCh, tTe, tNo, tAn, tOr', tAnV, DL.tOrV, kNo, tIfE, taC, tTp, tLs, tBi, kLen, kAbs, kMM, kInt, kTupc, kLisc, tSc, toN, toS, tOf, gNm, gNl, gCs, gTu, kIsi, kMn, kMx, kRp, tFz, tiS, tiO, tiR1, tiR2, tiRd, tiE, tCal, tCalB, startD, DL.startB, noIo_eq, nio_d, nio_un, nio_own, asD_d, asD_own, asD_io, CT, CNz, tYesD, ex0, tdFor, tdLc, wipeD, isDat_eq, dat_d, dat_un, Owns, setO, List.map_cons, List.map_nil, List.cons_append, List.nil_append, List.length_cons, List.length_nil, List.replicate, List.replicate_succ, List.replicate_zero, List.getElem?_cons_zero, List.getElem?_cons_succ, List.set_cons_zero, List.set_cons_succ, Option.some.injEq, SV.d.injEq, SV.own.injEq, SV.io.injEq, PyData.int.injEq, PyData.str.injEq, PyData.bool.injEq, PyData.tuple.injEq, PyData.list.injEq, exists_eq_left', exists_eq_left, exists_eq_right, exists_eq_right', exists_and_left, true_and, and_true, if_true, if_false, id, reduceCtorEq, false_or, or_false, exists_false, List.cons.injEq, and_self, SV.d.injEq, Nat.reduceAdd, Nat.reduceSub, ite_true, ite_false, decide_eq_true_eq, Bool.false_eq_true, exists_const, decide_true, decide_false, List.forall_mem_cons, List.forall_mem_nil, Bool.not_true, Bool.not_false, Bool.not_eq_true, Nat.reduceLT, forall_const, implies_true, and_assoc, true_or, or_true, List.not_mem_nil, false_implies, Int.natCast_inj, not_true_eq_false, not_false_eq_true, and_false, false_and, n2]
    refine hR2 _ (sq_gen fun R3 hR3 => ?_)
    simp only [tdR, tdN, tdSq, tdE, tdIf, tdSet, tdF, tdRO, tdAsg, tdSub, tdAug, tdAugS, tdApp, tdPar, tdPar3, tdRaise, tV, tBo, tK, t2, t1, kI, kU, kEq, kEqS, kN, kIx, kST, kSL, kRv, kRvT, kCL, kCT, kRL, kRT, tCh, tTe, tNo, tAn, tOr', tAnV, DL.tOrV, kNo, tIfE, taC, tTp, tLs, tBi, kLen, kAbs, kMM, kInt, kTupc, kLisc, tSc, toN, toS, tOf, gNm, gNl, gCs, gTu, kIsi, kMn, kMx, kRp, tFz, tiS, tiO, tiR1, tiR2, tiRd, tiE, tCal, tCalB, startD, DL.startB, noIo_eq, nio_d, nio_un, nio_own, asD_d, asD_own, asD_io, CT, CNz, tYesD, ex0, tdFor, tdLc, wipeD, isDat_eq, dat_d, dat_un, Owns, setO, List.map_cons, List.map_nil, List.cons_append, List.nil_append, List.length_cons, List.length_nil, List.replicate, List.replicate_succ, List.replicate_zero, List.getElem?_cons_zero, List.getElem?_cons_succ, List.set_cons_zero, List.set_cons_succ, Option.some.injEq, SV.d.injEq, SV.own.injEq, SV.io.injEq, PyData.int.injEq, PyData.str.injEq, PyData.bool.injEq, PyData.tuple.injEq, PyData.list.injEq, exists_eq_left', exists_eq_left, exists_eq_right, exists_eq_right', exists_and_left, true_and, and_true, if_true, if_false, id, reduceCtorEq, false_or, or_false, exists_false, List.cons.injEq, and_self, SV.d.injEq, Nat.reduceAdd, Nat.reduceSub, ite_true, ite_false, decide_eq_true_eq, Bool.false_eq_true, exists_const, decide_true, decide_false, List.forall_mem_cons, List.forall_mem_nil, Bool.not_true, Bool.not_false, Bool.not_eq_true, Nat.reduceLT, forall_const, implies_true, and_assoc, true_or, or_true, List.not_mem_nil, false_implies, Int.natCast_inj, not_true_eq_false, not_false_eq_true, and_false, false_and, po, map_fr_inj, fr_inj, shP, eqP, eqP0, sh0, shF, eqF, List.length_map, li, map_int_inj, shLZ, eqLZ, shL0, sp__law_ints, n3, n4, n5]
    refine ⟨⟨_, rfl⟩, 100 * i, hb, 4, by omega, by decide, rfl, fun x1 bag1 l1 m1 tA k1 => ⟨⟨_, rfl⟩, _, k1, 4, by omega, by decide, rfl, fun x2 bag2 l2 m2 tB k2 => ⟨⟨_, rfl⟩, _, k2, 3, by omega, by decide, rfl, fun x3 bag3 l3 m3 tC k3 => ⟨sizes3, ?_⟩⟩⟩⟩
    have e1 : trim (ca x1) = ca x1 := tA
    have e2 : trim (ca x2) = ca x2 := tB
    have e3 : trim (ca x3) = ca x3 := tC
    have sA := sml_ca l1 m1 tA
    have sB := sml_ca l2 m2 tB
    have sC := sml_ca l3 m3 tC
    have mA := hb_smL sA.h (by decide)
    have mB := hb_smL sB.h (by decide)
    have mC := hb_smL sC.h (by decide)
    have lA := sA.l
    have lB := sB.l
    have lC := sC.l
    clear hR2
    refine hR3 _ (sq_gen fun R4 hR4 => ?_)
    clear hR3
    simp only [tdR, tdN, tdSq, tdE, tdIf, tdSet, tdF, tdRO, tdAsg, tdSub, tdAug, tdAugS, tdApp, tdPar, tdPar3, tdRaise, tV, tBo, tK, t2, t1, kI, kU, kEq, kEqS, kN, kIx, kST, kSL, kRv, kRvT, kCL, kCT, kRL, kRT, tCh, tTe, tNo, tAn, tOr', tAnV, DL.tOrV, kNo, tIfE, taC, tTp, tLs, tBi, kLen, kAbs, kMM, kInt, kTupc, kLisc, tSc, toN, toS, tOf, gNm, gNl, gCs, gTu, kIsi, kMn, kMx, kRp, tFz, tiS, tiO, tiR1, tiR2, tiRd, tiE, tCal, tCalB, startD, DL.startB, noIo_eq, nio_d, nio_un, nio_own, asD_d, asD_own, asD_io, CT, CNz, tYesD, ex0, tdFor, tdLc, wipeD, isDat_eq, dat_d, dat_un, Owns, setO, List.map_cons, List.map_nil, List.cons_append, List.nil_append, List.length_cons, List.length_nil, List.replicate, List.replicate_succ, List.replicate_zero, List.getElem?_cons_zero, List.getElem?_cons_succ, List.set_cons_zero, List.set_cons_succ, Option.some.injEq, SV.d.injEq, SV.own.injEq, SV.io.injEq, PyData.int.injEq, PyData.str.injEq, PyData.bool.injEq, PyData.tuple.injEq, PyData.list.injEq, exists_eq_left', exists_eq_left, exists_eq_right, exists_eq_right', exists_and_left, true_and, and_true, if_true, if_false, id, reduceCtorEq, false_or, or_false, exists_false, List.cons.injEq, and_self, SV.d.injEq, Nat.reduceAdd, Nat.reduceSub, ite_true, ite_false, decide_eq_true_eq, Bool.false_eq_true, exists_const, decide_true, decide_false, List.forall_mem_cons, List.forall_mem_nil, Bool.not_true, Bool.not_false, Bool.not_eq_true, Nat.reduceLT, forall_const, implies_true, and_assoc, true_or, or_true, List.not_mem_nil, false_implies, Int.natCast_inj, not_true_eq_false, not_false_eq_true, and_false, false_and, po, map_fr_inj, fr_inj, shP, eqP, eqP0, sh0, shF, eqF, List.length_map, li, map_int_inj, shLZ, eqLZ, shL0, sp__law_poly, n6, n7, n8, e1, e2, e3]
    refine ⟨by omega, by omega, by omega, ?_⟩
    refine hR4 _ (sq_gen fun R5 hR5 => ?_)
    clear hR4
    simp only [tdR, tdN, tdSq, tdE, tdIf, tdSet, tdF, tdRO, tdAsg, tdSub, tdAug, tdAugS, tdApp, tdPar, tdPar3, tdRaise, tV, tBo, tK, t2, t1, kI, kU, kEq, kEqS, kN, kIx, kST, kSL, kRv, kRvT, kCL, kCT, kRL, kRT, tCh, tTe, tNo, tAn, tOr', tAnV, DL.tOrV, kNo, tIfE, taC, tTp, tLs, tBi, kLen, kAbs, kMM, kInt, kTupc, kLisc, tSc, toN, toS, tOf, gNm, gNl, gCs, gTu, kIsi, kMn, kMx, kRp, tFz, tiS, tiO, tiR1, tiR2, tiRd, tiE, tCal, tCalB, startD, DL.startB, noIo_eq, nio_d, nio_un, nio_own, asD_d, asD_own, asD_io, CT, CNz, tYesD, ex0, tdFor, tdLc, wipeD, isDat_eq, dat_d, dat_un, Owns, setO, List.map_cons, List.map_nil, List.cons_append, List.nil_append, List.length_cons, List.length_nil, List.replicate, List.replicate_succ, List.replicate_zero, List.getElem?_cons_zero, List.getElem?_cons_succ, List.set_cons_zero, List.set_cons_succ, Option.some.injEq, SV.d.injEq, SV.own.injEq, SV.io.injEq, PyData.int.injEq, PyData.str.injEq, PyData.bool.injEq, PyData.tuple.injEq, PyData.list.injEq, exists_eq_left', exists_eq_left, exists_eq_right, exists_eq_right', exists_and_left, true_and, and_true, if_true, if_false, id, reduceCtorEq, false_or, or_false, exists_false, List.cons.injEq, and_self, SV.d.injEq, Nat.reduceAdd, Nat.reduceSub, ite_true, ite_false, decide_eq_true_eq, Bool.false_eq_true, exists_const, decide_true, decide_false, List.forall_mem_cons, List.forall_mem_nil, Bool.not_true, Bool.not_false, Bool.not_eq_true, Nat.reduceLT, forall_const, implies_true, and_assoc, true_or, or_true, List.not_mem_nil, false_implies, Int.natCast_inj, not_true_eq_false, not_false_eq_true, and_false, false_and, po, map_fr_inj, fr_inj, shP, eqP, eqP0, sh0, shF, eqF, List.length_map, li, map_int_inj, shLZ, eqLZ, shL0, sp__law_poly, sp__law_padd, sp__law_pneg, sp__law_pmul, n9]
    refine ⟨by omega, by omega, fun y1 h1 => ?_⟩
    have u1 : trim (ca y1) = trim (addR (ca x1) (ca x2)) := by rw [h1]; exact tr_trim
    have v1 : y1.length ≤ 4 := by have := congrArg List.length h1; rw [ca_len] at this; have := addR_len (ca x1) (ca x2); omega
    refine ⟨by omega, by omega, by omega, by omega, fun y2 h2 => ?_⟩
    rw [ca_neg] at h2
    have u2 : trim (ca y2) = trim (addR (ca x1) (neg (ca x2))) := by rw [h2]; exact tr_trim
    have v2 : y2.length ≤ 4 := by
      have := congrArg List.length h2
      rw [ca_len] at this
      have := addR_len (ca x1) (neg (ca x2))
      have : (neg (ca x2)).length = (ca x2).length := by unfold neg; exact List.length_map _
      omega
    refine ⟨by omega, by omega, by omega, fun x hx => by have := m1 x hx; omega, fun x hx => by have := m2 x hx; omega, fun y3 h3 => ?_⟩
    have u3 : trim (ca y3) = mulE (ca x1) (ca x2) := by rw [h3]; exact mulE_tr
    obtain ⟨zAB, wAB⟩ := z_mul sA sB
    have v3 : y3.length ≤ 7 := by have := congrArg List.length h3; rw [ca_len] at this; omega
    rw [u1, u2, u3]
    refine ⟨by omega, sizes3, ?_⟩
    refine hR5 _ (sq_gen fun R6 hR6 => if_gen fun Rt Ru ht hu => ?_)
    clear hR5
    simp only [tdR, tdN, tdSq, tdE, tdIf, tdSet, tdF, tdRO, tdAsg, tdSub, tdAug, tdAugS, tdApp, tdPar, tdPar3, tdRaise, tV, tBo, tK, t2, t1, kI, kU, kEq, kEqS, kN, kIx, kST, kSL, kRv, kRvT, kCL, kCT, kRL, kRT, tCh, tTe, tNo, tAn, tOr', tAnV, DL.tOrV, kNo, tIfE, taC, tTp, tLs, tBi, kLen, kAbs, kMM, kInt, kTupc, kLisc, tSc, toN, toS, tOf, gNm, gNl, gCs, gTu, kIsi, kMn, kMx, kRp, tFz, tiS, tiO, tiR1, tiR2, tiRd, tiE, tCal, tCalB, startD, DL.startB, noIo_eq, nio_d, nio_un, nio_own, asD_d, asD_own, asD_io, CT, CNz, tYesD, ex0, tdFor, tdLc, wipeD, isDat_eq, dat_d, dat_un, Owns, setO, List.map_cons, List.map_nil, List.cons_append, List.nil_append, List.length_cons, List.length_nil, List.replicate, List.replicate_succ, List.replicate_zero, List.getElem?_cons_zero, List.getElem?_cons_succ, List.set_cons_zero, List.set_cons_succ, Option.some.injEq, SV.d.injEq, SV.own.injEq, SV.io.injEq, PyData.int.injEq, PyData.str.injEq, PyData.bool.injEq, PyData.tuple.injEq, PyData.list.injEq, exists_eq_left', exists_eq_left, exists_eq_right, exists_eq_right', exists_and_left, true_and, and_true, if_true, if_false, id, reduceCtorEq, false_or, or_false, exists_false, List.cons.injEq, and_self, SV.d.injEq, Nat.reduceAdd, Nat.reduceSub, ite_true, ite_false, decide_eq_true_eq, Bool.false_eq_true, exists_const, decide_true, decide_false, List.forall_mem_cons, List.forall_mem_nil, Bool.not_true, Bool.not_false, Bool.not_eq_true, Nat.reduceLT, forall_const, implies_true, and_assoc, true_or, or_true, List.not_mem_nil, false_implies, Int.natCast_inj, not_true_eq_false, not_false_eq_true, and_false, false_and, po, map_fr_inj, fr_inj, shP, eqP, eqP0, sh0, shF, eqF, List.length_map, li, map_int_inj, shLZ, eqLZ, shL0, sp_poly_plus, sp_poly_minus, sp_poly_times, sp__law_alike, mulE_fold]
    have al := ali_3 (l := trim (addR (ca x1) (ca x2))) (m := trim (addR (ca x1) (neg (ca x2)))) (n := mulE (ca x1) (ca x2)) (by have := (z_add sA sB).2; omega) (by have := congrArg List.length h2; rw [ca_len] at this; omega) (by omega) (mem_sz (Hb.trim (z_add sA sB).1) (by decide)) (mem_sz (Hb.trim (Hb.addR sA.h (Hb.neg sB.h))) (by decide)) (mem_sz zAB (by decide))
    refine ⟨mA, mB, by omega, by omega, mA, mB, by omega, by omega, 2, sA.h, 2, sB.h, by decide, by omega, by omega, sizes3, al.2.1, al.2.2.1, al.2.2.2, hu _ (hR6 _ ?_)⟩
    clear hR6 ht hu
    generalize PyData.list [PyData.tuple (List.map fr (trim (addR (ca x1) (ca x2)))), PyData.tuple (List.map fr (trim (addR (ca x1) (neg (ca x2))))), PyData.tuple (List.map fr (mulE (ca x1) (ca x2)))] = due
    refine sq_gen fun R7 hR7 => for_gen fun R8 hR8 => ?_
    simp only [tdR, tdN, tdSq, tdE, tdIf, tdSet, tdF, tdRO, tdAsg, tdSub, tdAug, tdAugS, tdApp, tdPar, tdPar3, tdRaise, tV, tBo, tK, t2, t1, kI, kU, kEq, kEqS, kN, kIx, kST, kSL, kRv, kRvT, kCL, kCT, kRL, kRT, tCh, tTe, tNo, tAn, tOr', tAnV, DL.tOrV, kNo, tIfE, taC, tTp, tLs, tBi, kLen, kAbs, kMM, kInt, kTupc, kLisc, tSc, toN, toS, tOf, gNm, gNl, gCs, gTu, kIsi, kMn, kMx, kRp, tFz, tiS, tiO, tiR1, tiR2, tiRd, tiE, tCal, tCalB, startD, DL.startB, noIo_eq, nio_d, nio_un, nio_own, asD_d, asD_own, asD_io, CT, CNz, tYesD, ex0, tdFor, tdLc, wipeD, isDat_eq, dat_d, dat_un, Owns, setO, List.map_cons, List.map_nil, List.cons_append, List.nil_append, List.length_cons, List.length_nil, List.replicate, List.replicate_succ, List.replicate_zero, List.getElem?_cons_zero, List.getElem?_cons_succ, List.set_cons_zero, List.set_cons_succ, Option.some.injEq, SV.d.injEq, SV.own.injEq, SV.io.injEq, PyData.int.injEq, PyData.str.injEq, PyData.bool.injEq, PyData.tuple.injEq, PyData.list.injEq, exists_eq_left', exists_eq_left, exists_eq_right, exists_eq_right', exists_and_left, true_and, and_true, if_true, if_false, id, reduceCtorEq, false_or, or_false, exists_false, List.cons.injEq, and_self, SV.d.injEq, Nat.reduceAdd, Nat.reduceSub, ite_true, ite_false, decide_eq_true_eq, Bool.false_eq_true, exists_const, decide_true, decide_false, List.forall_mem_cons, List.forall_mem_nil, Bool.not_true, Bool.not_false, Bool.not_eq_true, Nat.reduceLT, forall_const, implies_true, and_assoc, true_or, or_true, List.not_mem_nil, false_implies, Int.natCast_inj, not_true_eq_false, not_false_eq_true, and_false, false_and, po, map_fr_inj, fr_inj, shP, eqP, eqP0, sh0, shF, eqF, List.length_map, li, map_int_inj, shLZ, eqLZ, shL0]
    refine ⟨Nat.zero_le _, sizes2, Nat.zero_le _, sizes2, sizes2, hR8 _ _ _ ⟨rfl, fun j δ => ∃ s10, dat s10 ∧ δ = [.un, .own bag3, .d (.int i), .d (.list (x1.map .int)), .d (.list (x2.map .int)), .d (.list (x3.map .int)), .d (.tuple ((ca x1).map fr)), .d (.tuple ((ca x2).map fr)), .d (.tuple ((ca x3).map fr)), .d due, s10, s11, s12, s13, s14, s15, s16, s17, s18, s19, s20, s21], ⟨s10, d10, rfl⟩, fun j x δ hx h => ?_, fun δ h => ?_⟩⟩
    · obtain ⟨s10, d10, rfl⟩ := h
      have n10 := dat_nio d10
      obtain ⟨l, rfl⟩ : ∃ l : List Rat, x = .tuple [.tuple (l.map fr), .tuple []] := by
        match j, hx with
        | 0, hx => exact ⟨_, (Option.some.inj hx).symm⟩
        | 1, hx => exact ⟨_, (Option.some.inj hx).symm⟩
        | j + 2, hx => cases hx
      refine gnm_gen fun R9 hR9 => ?_
      simp only [tdR, tdN, tdSq, tdE, tdIf, tdSet, tdF, tdRO, tdAsg, tdSub, tdAug, tdAugS, tdApp, tdPar, tdPar3, tdRaise, tV, tBo, tK, t2, t1, kI, kU, kEq, kEqS, kN, kIx, kST, kSL, kRv, kRvT, kCL, kCT, kRL, kRT, tCh, tTe, tNo, tAn, tOr', tAnV, DL.tOrV, kNo, tIfE, taC, tTp, tLs, tBi, kLen, kAbs, kMM, kInt, kTupc, kLisc, tSc, toN, toS, tOf, gNm, gNl, gCs, gTu, kIsi, kMn, kMx, kRp, tFz, tiS, tiO, tiR1, tiR2, tiRd, tiE, tCal, tCalB, startD, DL.startB, noIo_eq, nio_d, nio_un, nio_own, asD_d, asD_own, asD_io, CT, CNz, tYesD, ex0, tdFor, tdLc, wipeD, isDat_eq, dat_d, dat_un, Owns, setO, List.map_cons, List.map_nil, List.cons_append, List.nil_append, List.length_cons, List.length_nil, List.replicate, List.replicate_succ, List.replicate_zero, List.getElem?_cons_zero, List.getElem?_cons_succ, List.set_cons_zero, List.set_cons_succ, Option.some.injEq, SV.d.injEq, SV.own.injEq, SV.io.injEq, PyData.int.injEq, PyData.str.injEq, PyData.bool.injEq, PyData.tuple.injEq, PyData.list.injEq, exists_eq_left', exists_eq_left, exists_eq_right, exists_eq_right', exists_and_left, true_and, and_true, if_true, if_false, id, reduceCtorEq, false_or, or_false, exists_false, List.cons.injEq, and_self, SV.d.injEq, Nat.reduceAdd, Nat.reduceSub, ite_true, ite_false, decide_eq_true_eq, Bool.false_eq_true, exists_const, decide_true, decide_false, List.forall_mem_cons, List.forall_mem_nil, Bool.not_true, Bool.not_false, Bool.not_eq_true, Nat.reduceLT, forall_const, implies_true, and_assoc, true_or, or_true, List.not_mem_nil, false_implies, Int.natCast_inj, not_true_eq_false, not_false_eq_true, and_false, false_and, n10]
      refine hR9 _ ?_
      simp only [tdTryC, tdR, tdN, tdSq, tdE, tdIf, tdSet, tdF, tdRO, tdAsg, tdSub, tdAug, tdAugS, tdApp, tdPar, tdPar3, tdRaise, tV, tBo, tK, t2, t1, kI, kU, kEq, kEqS, kN, kIx, kST, kSL, kRv, kRvT, kCL, kCT, kRL, kRT, tCh, tTe, tNo, tAn, tOr', tAnV, DL.tOrV, kNo, tIfE, taC, tTp, tLs, tBi, kLen, kAbs, kMM, kInt, kTupc, kLisc, tSc, toN, toS, tOf, gNm, gNl, gCs, gTu, kIsi, kMn, kMx, kRp, tFz, tiS, tiO, tiR1, tiR2, tiRd, tiE, tCal, tCalB, startD, DL.startB, noIo_eq, nio_d, nio_un, nio_own, asD_d, asD_own, asD_io, CT, CNz, tYesD, ex0, tdFor, tdLc, wipeD, isDat_eq, dat_d, dat_un, Owns, setO, List.map_cons, List.map_nil, List.cons_append, List.nil_append, List.length_cons, List.length_nil, List.replicate, List.replicate_succ, List.replicate_zero, List.getElem?_cons_zero, List.getElem?_cons_succ, List.set_cons_zero, List.set_cons_succ, Option.some.injEq, SV.d.injEq, SV.own.injEq, SV.io.injEq, PyData.int.injEq, PyData.str.injEq, PyData.bool.injEq, PyData.tuple.injEq, PyData.list.injEq, exists_eq_left', exists_eq_left, exists_eq_right, exists_eq_right', exists_and_left, true_and, and_true, if_true, if_false, id, reduceCtorEq, false_or, or_false, exists_false, List.cons.injEq, and_self, SV.d.injEq, Nat.reduceAdd, Nat.reduceSub, ite_true, ite_false, decide_eq_true_eq, Bool.false_eq_true, exists_const, decide_true, decide_false, List.forall_mem_cons, List.forall_mem_nil, Bool.not_true, Bool.not_false, Bool.not_eq_true, Nat.reduceLT, forall_const, implies_true, and_assoc, true_or, or_true, List.not_mem_nil, false_implies, Int.natCast_inj, not_true_eq_false, not_false_eq_true, and_false, false_and, po, map_fr_inj, fr_inj, shP, eqP, eqP0, sh0, shF, eqF, List.length_map, li, map_int_inj, shLZ, eqLZ, shL0, sp_divided, at2_0, at2_1]
      exact ⟨[], rfl, fun z => z rfl⟩
    · obtain ⟨s10, d10, rfl⟩ := h
      have n10 := dat_nio d10
      refine hR7 _ ?_
      clear hR7 hR8
      refine sq_gen fun R10 hR10 => ?_
      suffices go : ∀ s11 s12, dat s11 → dat s12 → R10 [.un, .own bag3, .d (.int i), .d (.list (x1.map .int)), .d (.list (x2.map .int)), .d (.list (x3.map .int)), .d (.tuple ((ca x1).map fr)), .d (.tuple ((ca x2).map fr)), .d (.tuple ((ca x3).map fr)), .d due, s10, s11, s12, s13, s14, s15, s16, s17, s18, s19, s20, s21] by
        refine if_gen fun Rt Ru ht hu => ?_
        simp only [tdR, tdN, tdSq, tdE, tdIf, tdSet, tdF, tdRO, tdAsg, tdSub, tdAug, tdAugS, tdApp, tdPar, tdPar3, tdRaise, tV, tBo, tK, t2, t1, kI, kU, kEq, kEqS, kN, kIx, kST, kSL, kRv, kRvT, kCL, kCT, kRL, kRT, tCh, tTe, tNo, tAn, tOr', tAnV, DL.tOrV, kNo, tIfE, taC, tTp, tLs, tBi, kLen, kAbs, kMM, kInt, kTupc, kLisc, tSc, toN, toS, tOf, gNm, gNl, gCs, gTu, kIsi, kMn, kMx, kRp, tFz, tiS, tiO, tiR1, tiR2, tiRd, tiE, tCal, tCalB, startD, DL.startB, noIo_eq, nio_d, nio_un, nio_own, asD_d, asD_own, asD_io, CT, CNz, tYesD, ex0, tdFor, tdLc, wipeD, isDat_eq, dat_d, dat_un, Owns, setO, List.map_cons, List.map_nil, List.cons_append, List.nil_append, List.length_cons, List.length_nil, List.replicate, List.replicate_succ, List.replicate_zero, List.getElem?_cons_zero, List.getElem?_cons_succ, List.set_cons_zero, List.set_cons_succ, Option.some.injEq, SV.d.injEq, SV.own.injEq, SV.io.injEq, PyData.int.injEq, PyData.str.injEq, PyData.bool.injEq, PyData.tuple.injEq, PyData.list.injEq, exists_eq_left', exists_eq_left, exists_eq_right, exists_eq_right', exists_and_left, true_and, and_true, if_true, if_false, id, reduceCtorEq, false_or, or_false, exists_false, List.cons.injEq, and_self, SV.d.injEq, Nat.reduceAdd, Nat.reduceSub, ite_true, ite_false, decide_eq_true_eq, Bool.false_eq_true, exists_const, decide_true, decide_false, List.forall_mem_cons, List.forall_mem_nil, Bool.not_true, Bool.not_false, Bool.not_eq_true, Nat.reduceLT, forall_const, implies_true, and_assoc, true_or, or_true, List.not_mem_nil, false_implies, Int.natCast_inj, not_true_eq_false, not_false_eq_true, and_false, false_and, po, map_fr_inj, fr_inj, shP, eqP, eqP0, sh0, shF, eqF, List.length_map, li, map_int_inj, shLZ, eqLZ, shL0]
        refine ⟨Nat.zero_le _, ?_⟩
        by_cases hx2 : x2 = []
        · rw [decide_eq_true hx2, if_neg (by decide)]
          exact hu _ (go s11 s12 d11 d12)
        · rw [decide_eq_false hx2, if_pos (by decide)]
          have nB : ca x2 ≠ [] := fun z => hx2 (ca_nil.mp z)
          refine ht _ (sq_gen fun R11 hR11 => ?_)
          clear ht hu
          obtain ⟨q1, q2, q3, q4, q5⟩ := z_div sA sB nB
          simp only [tdR, tdN, tdSq, tdE, tdIf, tdSet, tdF, tdRO, tdAsg, tdSub, tdAug, tdAugS, tdApp, tdPar, tdPar3, tdRaise, tV, tBo, tK, t2, t1, kI, kU, kEq, kEqS, kN, kIx, kST, kSL, kRv, kRvT, kCL, kCT, kRL, kRT, tCh, tTe, tNo, tAn, tOr', tAnV, DL.tOrV, kNo, tIfE, taC, tTp, tLs, tBi, kLen, kAbs, kMM, kInt, kTupc, kLisc, tSc, toN, toS, tOf, gNm, gNl, gCs, gTu, kIsi, kMn, kMx, kRp, tFz, tiS, tiO, tiR1, tiR2, tiRd, tiE, tCal, tCalB, startD, DL.startB, noIo_eq, nio_d, nio_un, nio_own, asD_d, asD_own, asD_io, CT, CNz, tYesD, ex0, tdFor, tdLc, wipeD, isDat_eq, dat_d, dat_un, Owns, setO, List.map_cons, List.map_nil, List.cons_append, List.nil_append, List.length_cons, List.length_nil, List.replicate, List.replicate_succ, List.replicate_zero, List.getElem?_cons_zero, List.getElem?_cons_succ, List.set_cons_zero, List.set_cons_succ, Option.some.injEq, SV.d.injEq, SV.own.injEq, SV.io.injEq, PyData.int.injEq, PyData.str.injEq, PyData.bool.injEq, PyData.tuple.injEq, PyData.list.injEq, exists_eq_left', exists_eq_left, exists_eq_right, exists_eq_right', exists_and_left, true_and, and_true, if_true, if_false, id, reduceCtorEq, false_or, or_false, exists_false, List.cons.injEq, and_self, SV.d.injEq, Nat.reduceAdd, Nat.reduceSub, ite_true, ite_false, decide_eq_true_eq, Bool.false_eq_true, exists_const, decide_true, decide_false, List.forall_mem_cons, List.forall_mem_nil, Bool.not_true, Bool.not_false, Bool.not_eq_true, Nat.reduceLT, forall_const, implies_true, and_assoc, true_or, or_true, List.not_mem_nil, false_implies, Int.natCast_inj, not_true_eq_false, not_false_eq_true, and_false, false_and, po, map_fr_inj, fr_inj, shP, eqP, eqP0, sh0, shF, eqF, List.length_map, li, map_int_inj, shLZ, eqLZ, shL0, sp_divided, n11, n12]
          refine ⟨fun z => absurd z nB, 2, 2, fun _ => ⟨tB, sA.h, sB.h, by omega, by omega, by omega, ?_⟩⟩
          refine hR11 _ (sq_gen fun R12 hR12 => if_gen fun Rt Ru ht hu => ?_)
          clear hR11
          simp only [tdR, tdN, tdSq, tdE, tdIf, tdSet, tdF, tdRO, tdAsg, tdSub, tdAug, tdAugS, tdApp, tdPar, tdPar3, tdRaise, tV, tBo, tK, t2, t1, kI, kU, kEq, kEqS, kN, kIx, kST, kSL, kRv, kRvT, kCL, kCT, kRL, kRT, tCh, tTe, tNo, tAn, tOr', tAnV, DL.tOrV, kNo, tIfE, taC, tTp, tLs, tBi, kLen, kAbs, kMM, kInt, kTupc, kLisc, tSc, toN, toS, tOf, gNm, gNl, gCs, gTu, kIsi, kMn, kMx, kRp, tFz, tiS, tiO, tiR1, tiR2, tiRd, tiE, tCal, tCalB, startD, DL.startB, noIo_eq, nio_d, nio_un, nio_own, asD_d, asD_own, asD_io, CT, CNz, tYesD, ex0, tdFor, tdLc, wipeD, isDat_eq, dat_d, dat_un, Owns, setO, List.map_cons, List.map_nil, List.cons_append, List.nil_append, List.length_cons, List.length_nil, List.replicate, List.replicate_succ, List.replicate_zero, List.getElem?_cons_zero, List.getElem?_cons_succ, List.set_cons_zero, List.set_cons_succ, Option.some.injEq, SV.d.injEq, SV.own.injEq, SV.io.injEq, PyData.int.injEq, PyData.str.injEq, PyData.bool.injEq, PyData.tuple.injEq, PyData.list.injEq, exists_eq_left', exists_eq_left, exists_eq_right, exists_eq_right', exists_and_left, true_and, and_true, if_true, if_false, id, reduceCtorEq, false_or, or_false, exists_false, List.cons.injEq, and_self, SV.d.injEq, Nat.reduceAdd, Nat.reduceSub, ite_true, ite_false, decide_eq_true_eq, Bool.false_eq_true, exists_const, decide_true, decide_false, List.forall_mem_cons, List.forall_mem_nil, Bool.not_true, Bool.not_false, Bool.not_eq_true, Nat.reduceLT, forall_const, implies_true, and_assoc, true_or, or_true, List.not_mem_nil, false_implies, Int.natCast_inj, not_true_eq_false, not_false_eq_true, and_false, false_and, po, map_fr_inj, fr_inj, shP, eqP, eqP0, sh0, shF, eqF, List.length_map, li, map_int_inj, shLZ, eqLZ, shL0, sp_poly_times, sp_poly_plus, mulE_fold]
          have lr := (div_ok (l := ca x1) tB nB).2
          have lm := mulE_le (l := quo (ca x1) (ca x2)) quo_tr tB
          refine ⟨14, q1, 2, sB.h, by decide, by omega, by omega, hb_smL (mulE_hb q1 sB.h (by omega)) (by decide), hb_smL q2 (by decide), by omega, by omega, ?_⟩
          rw [decide_eq_true (back_eq tA tB nB), if_neg (by decide), if_neg (by omega)]
          refine hu _ (hR12 _ ?_)
          clear ht hu hR12
          obtain ⟨ud1, ud2⟩ := undo_eq tA tB nB
          refine if_gen fun Rt2 Ru2 ht2 hu2 => ?_
          simp only [tdR, tdN, tdSq, tdE, tdIf, tdSet, tdF, tdRO, tdAsg, tdSub, tdAug, tdAugS, tdApp, tdPar, tdPar3, tdRaise, tV, tBo, tK, t2, t1, kI, kU, kEq, kEqS, kN, kIx, kST, kSL, kRv, kRvT, kCL, kCT, kRL, kRT, tCh, tTe, tNo, tAn, tOr', tAnV, DL.tOrV, kNo, tIfE, taC, tTp, tLs, tBi, kLen, kAbs, kMM, kInt, kTupc, kLisc, tSc, toN, toS, tOf, gNm, gNl, gCs, gTu, kIsi, kMn, kMx, kRp, tFz, tiS, tiO, tiR1, tiR2, tiRd, tiE, tCal, tCalB, startD, DL.startB, noIo_eq, nio_d, nio_un, nio_own, asD_d, asD_own, asD_io, CT, CNz, tYesD, ex0, tdFor, tdLc, wipeD, isDat_eq, dat_d, dat_un, Owns, setO, List.map_cons, List.map_nil, List.cons_append, List.nil_append, List.length_cons, List.length_nil, List.replicate, List.replicate_succ, List.replicate_zero, List.getElem?_cons_zero, List.getElem?_cons_succ, List.set_cons_zero, List.set_cons_succ, Option.some.injEq, SV.d.injEq, SV.own.injEq, SV.io.injEq, PyData.int.injEq, PyData.str.injEq, PyData.bool.injEq, PyData.tuple.injEq, PyData.list.injEq, exists_eq_left', exists_eq_left, exists_eq_right, exists_eq_right', exists_and_left, true_and, and_true, if_true, if_false, id, reduceCtorEq, false_or, or_false, exists_false, List.cons.injEq, and_self, SV.d.injEq, Nat.reduceAdd, Nat.reduceSub, ite_true, ite_false, decide_eq_true_eq, Bool.false_eq_true, exists_const, decide_true, decide_false, List.forall_mem_cons, List.forall_mem_nil, Bool.not_true, Bool.not_false, Bool.not_eq_true, Nat.reduceLT, forall_const, implies_true, and_assoc, true_or, or_true, List.not_mem_nil, false_implies, Int.natCast_inj, not_true_eq_false, not_false_eq_true, and_false, false_and, po, map_fr_inj, fr_inj, shP, eqP, eqP0, sh0, shF, eqF, List.length_map, li, map_int_inj, shLZ, eqLZ, shL0, sp_poly_times, mulE_fold, sp_divided, shPP, shPP0, eqPP]
          refine ⟨2, sA.h, 2, sB.h, by decide, by omega, by omega, fun z => absurd z nB, 10, 2, fun _ => ⟨tB, zAB, sB.h, by omega, by omega, by omega, ?_⟩⟩
          refine ⟨Nat.zero_le _, sizes2, ?_⟩
          rw [decide_eq_true (And.intro ud1 ud2), if_neg (by decide)]
          exact hu2 _ (go _ _ trivial trivial)
      intro s11 s12 d11 d12
      have n11 := dat_nio d11
      have n12 := dat_nio d12
      refine hR10 _ (sq_gen fun R11 hR11 => ?_)
      clear hR10
      simp only [tdR, tdN, tdSq, tdE, tdIf, tdSet, tdF, tdRO, tdAsg, tdSub, tdAug, tdAugS, tdApp, tdPar, tdPar3, tdRaise, tV, tBo, tK, t2, t1, kI, kU, kEq, kEqS, kN, kIx, kST, kSL, kRv, kRvT, kCL, kCT, kRL, kRT, tCh, tTe, tNo, tAn, tOr', tAnV, DL.tOrV, kNo, tIfE, taC, tTp, tLs, tBi, kLen, kAbs, kMM, kInt, kTupc, kLisc, tSc, toN, toS, tOf, gNm, gNl, gCs, gTu, kIsi, kMn, kMx, kRp, tFz, tiS, tiO, tiR1, tiR2, tiRd, tiE, tCal, tCalB, startD, DL.startB, noIo_eq, nio_d, nio_un, nio_own, asD_d, asD_own, asD_io, CT, CNz, tYesD, ex0, tdFor, tdLc, wipeD, isDat_eq, dat_d, dat_un, Owns, setO, List.map_cons, List.map_nil, List.cons_append, List.nil_append, List.length_cons, List.length_nil, List.replicate, List.replicate_succ, List.replicate_zero, List.getElem?_cons_zero, List.getElem?_cons_succ, List.set_cons_zero, List.set_cons_succ, Option.some.injEq, SV.d.injEq, SV.own.injEq, SV.io.injEq, PyData.int.injEq, PyData.str.injEq, PyData.bool.injEq, PyData.tuple.injEq, PyData.list.injEq, exists_eq_left', exists_eq_left, exists_eq_right, exists_eq_right', exists_and_left, true_and, and_true, if_true, if_false, id, reduceCtorEq, false_or, or_false, exists_false, List.cons.injEq, and_self, SV.d.injEq, Nat.reduceAdd, Nat.reduceSub, ite_true, ite_false, decide_eq_true_eq, Bool.false_eq_true, exists_const, decide_true, decide_false, List.forall_mem_cons, List.forall_mem_nil, Bool.not_true, Bool.not_false, Bool.not_eq_true, Nat.reduceLT, forall_const, implies_true, and_assoc, true_or, or_true, List.not_mem_nil, false_implies, Int.natCast_inj, not_true_eq_false, not_false_eq_true, and_false, false_and, po, map_fr_inj, fr_inj, shP, eqP, eqP0, sh0, shF, eqF, List.length_map, li, map_int_inj, shLZ, eqLZ, shL0, sp_poly_times, mulE_fold, sp_common, n13]
      obtain ⟨zAC, wAC⟩ := z_AC sA sA sC
      obtain ⟨zBC, wBC⟩ := z_AC sB sB sC
      obtain ⟨c1, c2, c3⟩ := z_com sA sB sC
      refine ⟨2, sA.h, 2, sC.h, by decide, by omega, by omega, 2, sB.h, 2, sC.h, by decide, by omega, by omega, mulE_tr, mulE_tr, 10, zAC, zBC, c1, by omega, by omega, ?_⟩
      refine hR11 _ ?_
      clear hR11
      have gd : com (mulE (ca x2) (ca x3)).length (mulE (ca x1) (ca x3)) (mulE (ca x2) (ca x3)) = G3 (ca x1) (ca x2) (ca x3) := rfl
      rw [gd]
      refine sq_gen fun R12 hR12 => ?_
      suffices go : R12 [.un, .own bag3, .d (.int i), .d (.list (x1.map .int)), .d (.list (x2.map .int)), .d (.list (x3.map .int)), .d (.tuple ((ca x1).map fr)), .d (.tuple ((ca x2).map fr)), .d (.tuple ((ca x3).map fr)), .d due, s10, s11, s12, .d (.tuple ((G3 (ca x1) (ca x2) (ca x3)).map fr)), s14, s15, s16, s17, s18, s19, s20, s21] by
        refine if_gen fun Rt Ru ht hu => ?_
        have hT : ((x1 = [] ∧ x2 = []) ∨ x3 = []) → Rt [.un, .own bag3, .d (.int i), .d (.list (x1.map .int)), .d (.list (x2.map .int)), .d (.list (x3.map .int)), .d (.tuple ((ca x1).map fr)), .d (.tuple ((ca x2).map fr)), .d (.tuple ((ca x3).map fr)), .d due, s10, s11, s12, .d (.tuple ((G3 (ca x1) (ca x2) (ca x3)).map fr)), s14, s15, s16, s17, s18, s19, s20, s21] := by
          intro h
          have g0 : G3 (ca x1) (ca x2) (ca x3) = [] := G3_nil (h.elim (fun z => .inl ⟨ca_nil.mpr z.1, ca_nil.mpr z.2⟩) fun z => .inr (ca_nil.mpr z))
          refine ht _ (if_gen fun Rt2 Ru2 ht2 hu2 => ?_)
          simp only [tdR, tdN, tdSq, tdE, tdIf, tdSet, tdF, tdRO, tdAsg, tdSub, tdAug, tdAugS, tdApp, tdPar, tdPar3, tdRaise, tV, tBo, tK, t2, t1, kI, kU, kEq, kEqS, kN, kIx, kST, kSL, kRv, kRvT, kCL, kCT, kRL, kRT, tCh, tTe, tNo, tAn, tOr', tAnV, DL.tOrV, kNo, tIfE, taC, tTp, tLs, tBi, kLen, kAbs, kMM, kInt, kTupc, kLisc, tSc, toN, toS, tOf, gNm, gNl, gCs, gTu, kIsi, kMn, kMx, kRp, tFz, tiS, tiO, tiR1, tiR2, tiRd, tiE, tCal, tCalB, startD, DL.startB, noIo_eq, nio_d, nio_un, nio_own, asD_d, asD_own, asD_io, CT, CNz, tYesD, ex0, tdFor, tdLc, wipeD, isDat_eq, dat_d, dat_un, Owns, setO, List.map_cons, List.map_nil, List.cons_append, List.nil_append, List.length_cons, List.length_nil, List.replicate, List.replicate_succ, List.replicate_zero, List.getElem?_cons_zero, List.getElem?_cons_succ, List.set_cons_zero, List.set_cons_succ, Option.some.injEq, SV.d.injEq, SV.own.injEq, SV.io.injEq, PyData.int.injEq, PyData.str.injEq, PyData.bool.injEq, PyData.tuple.injEq, PyData.list.injEq, exists_eq_left', exists_eq_left, exists_eq_right, exists_eq_right', exists_and_left, true_and, and_true, if_true, if_false, id, reduceCtorEq, false_or, or_false, exists_false, List.cons.injEq, and_self, SV.d.injEq, Nat.reduceAdd, Nat.reduceSub, ite_true, ite_false, decide_eq_true_eq, Bool.false_eq_true, exists_const, decide_true, decide_false, List.forall_mem_cons, List.forall_mem_nil, Bool.not_true, Bool.not_false, Bool.not_eq_true, Nat.reduceLT, forall_const, implies_true, and_assoc, true_or, or_true, List.not_mem_nil, false_implies, Int.natCast_inj, not_true_eq_false, not_false_eq_true, and_false, false_and, po, map_fr_inj, fr_inj, shP, eqP, eqP0, sh0, shF, eqF, List.length_map, li, map_int_inj, shLZ, eqLZ, shL0]
          rw [decide_eq_true g0, if_neg (by decide)]
          exact ⟨Nat.zero_le _, hu2 _ go⟩
        have hF : ¬ ((x1 = [] ∧ x2 = []) ∨ x3 = []) → Ru [.un, .own bag3, .d (.int i), .d (.list (x1.map .int)), .d (.list (x2.map .int)), .d (.list (x3.map .int)), .d (.tuple ((ca x1).map fr)), .d (.tuple ((ca x2).map fr)), .d (.tuple ((ca x3).map fr)), .d due, s10, s11, s12, .d (.tuple ((G3 (ca x1) (ca x2) (ca x3)).map fr)), s14, s15, s16, s17, s18, s19, s20, s21] := by
          intro h
          have h' : ¬ ((ca x1 = [] ∧ ca x2 = []) ∨ ca x3 = []) := fun z => h (z.elim (fun z => .inl ⟨ca_nil.mp z.1, ca_nil.mp z.2⟩) fun z => .inr (ca_nil.mp z))
          obtain ⟨nG, g1⟩ := G3_one tA tB tC h'
          have nC : ca x3 ≠ [] := fun z => h' (.inr z)
          obtain ⟨_, tG⟩ := G3_ok (ca x1) (ca x2) (ca x3)
          have gl := last_fr nG g1
          refine hu _ (sq_gen fun R13 hR13 => if_gen fun Rt2 Ru2 ht2 hu2 => ?_)
          simp only [tdR, tdN, tdSq, tdE, tdIf, tdSet, tdF, tdRO, tdAsg, tdSub, tdAug, tdAugS, tdApp, tdPar, tdPar3, tdRaise, tV, tBo, tK, t2, t1, kI, kU, kEq, kEqS, kN, kIx, kST, kSL, kRv, kRvT, kCL, kCT, kRL, kRT, tCh, tTe, tNo, tAn, tOr', tAnV, DL.tOrV, kNo, tIfE, taC, tTp, tLs, tBi, kLen, kAbs, kMM, kInt, kTupc, kLisc, tSc, toN, toS, tOf, gNm, gNl, gCs, gTu, kIsi, kMn, kMx, kRp, tFz, tiS, tiO, tiR1, tiR2, tiRd, tiE, tCal, tCalB, startD, DL.startB, noIo_eq, nio_d, nio_un, nio_own, asD_d, asD_own, asD_io, CT, CNz, tYesD, ex0, tdFor, tdLc, wipeD, isDat_eq, dat_d, dat_un, Owns, setO, List.map_cons, List.map_nil, List.cons_append, List.nil_append, List.length_cons, List.length_nil, List.replicate, List.replicate_succ, List.replicate_zero, List.getElem?_cons_zero, List.getElem?_cons_succ, List.set_cons_zero, List.set_cons_succ, Option.some.injEq, SV.d.injEq, SV.own.injEq, SV.io.injEq, PyData.int.injEq, PyData.str.injEq, PyData.bool.injEq, PyData.tuple.injEq, PyData.list.injEq, exists_eq_left', exists_eq_left, exists_eq_right, exists_eq_right', exists_and_left, true_and, and_true, if_true, if_false, id, reduceCtorEq, false_or, or_false, exists_false, List.cons.injEq, and_self, SV.d.injEq, Nat.reduceAdd, Nat.reduceSub, ite_true, ite_false, decide_eq_true_eq, Bool.false_eq_true, exists_const, decide_true, decide_false, List.forall_mem_cons, List.forall_mem_nil, Bool.not_true, Bool.not_false, Bool.not_eq_true, Nat.reduceLT, forall_const, implies_true, and_assoc, true_or, or_true, List.not_mem_nil, false_implies, Int.natCast_inj, not_true_eq_false, not_false_eq_true, and_false, false_and, po, map_fr_inj, fr_inj, shP, eqP, eqP0, sh0, shF, eqF, List.length_map, li, map_int_inj, shLZ, eqLZ, shL0, sp_poly_times, mulE_fold, sp_divided, atI_back nG, fr11, gl, at2_1]
          refine ⟨sizes2, 2, sA.h, 2, sC.h, by decide, by omega, by omega, fun z => absurd z nG, 10, 20000, fun _ => ⟨tG, zAC, c2, by omega, by omega, by omega, Nat.zero_le _, ?_⟩⟩
          rw [decide_eq_true (G3_l nG), if_neg (by decide)]
          refine ⟨2, sB.h, 2, sC.h, by decide, by omega, by omega, fun z => absurd z nG, 10, 20000, fun _ => ⟨tG, zBC, c2, by omega, by omega, by omega, Nat.zero_le _, ?_⟩⟩
          rw [decide_eq_true (G3_r nG), if_neg (by decide)]
          refine hu2 _ (hR13 _ ?_)
          clear ht2 hu2 hR13 hu ht
          refine if_gen fun Rt2 Ru2 ht2 hu2 => ?_
          have uC := unit_hb tC sC.h
          have nU := unit_ne nC
          have tU := unit_tr tC
          have lU := unit_len (ca x3)
          simp only [tdR, tdN, tdSq, tdE, tdIf, tdSet, tdF, tdRO, tdAsg, tdSub, tdAug, tdAugS, tdApp, tdPar, tdPar3, tdRaise, tV, tBo, tK, t2, t1, kI, kU, kEq, kEqS, kN, kIx, kST, kSL, kRv, kRvT, kCL, kCT, kRL, kRT, tCh, tTe, tNo, tAn, tOr', tAnV, DL.tOrV, kNo, tIfE, taC, tTp, tLs, tBi, kLen, kAbs, kMM, kInt, kTupc, kLisc, tSc, toN, toS, tOf, gNm, gNl, gCs, gTu, kIsi, kMn, kMx, kRp, tFz, tiS, tiO, tiR1, tiR2, tiRd, tiE, tCal, tCalB, startD, DL.startB, noIo_eq, nio_d, nio_un, nio_own, asD_d, asD_own, asD_io, CT, CNz, tYesD, ex0, tdFor, tdLc, wipeD, isDat_eq, dat_d, dat_un, Owns, setO, List.map_cons, List.map_nil, List.cons_append, List.nil_append, List.length_cons, List.length_nil, List.replicate, List.replicate_succ, List.replicate_zero, List.getElem?_cons_zero, List.getElem?_cons_succ, List.set_cons_zero, List.set_cons_succ, Option.some.injEq, SV.d.injEq, SV.own.injEq, SV.io.injEq, PyData.int.injEq, PyData.str.injEq, PyData.bool.injEq, PyData.tuple.injEq, PyData.list.injEq, exists_eq_left', exists_eq_left, exists_eq_right, exists_eq_right', exists_and_left, true_and, and_true, if_true, if_false, id, reduceCtorEq, false_or, or_false, exists_false, List.cons.injEq, and_self, SV.d.injEq, Nat.reduceAdd, Nat.reduceSub, ite_true, ite_false, decide_eq_true_eq, Bool.false_eq_true, exists_const, decide_true, decide_false, List.forall_mem_cons, List.forall_mem_nil, Bool.not_true, Bool.not_false, Bool.not_eq_true, Nat.reduceLT, forall_const, implies_true, and_assoc, true_or, or_true, List.not_mem_nil, false_implies, Int.natCast_inj, not_true_eq_false, not_false_eq_true, and_false, false_and, po, map_fr_inj, fr_inj, shP, eqP, eqP0, sh0, shF, eqF, List.length_map, li, map_int_inj, shLZ, eqLZ, shL0, sp_with_unit, sp_divided, sp__law_alike, sp__law_made, at2_1]
          refine ⟨tC, 2, sC.h, by omega, by omega, fun z => absurd z nU, 20000, 2, fun _ => ⟨tU, c2, uC, by omega, by omega, by omega, Nat.zero_le _, ?_⟩⟩
          rw [decide_eq_true (G3_c tC nC), if_neg (by decide)]
          exact ⟨tC, 2, sC.h, by omega, by omega, by omega, tC, fun x hx => by have := m3 x hx; omega, (ali_po (by omega) (mem_sz uC (by decide))).2.1, hu2 _ go⟩
        simp only [tdR, tdN, tdSq, tdE, tdIf, tdSet, tdF, tdRO, tdAsg, tdSub, tdAug, tdAugS, tdApp, tdPar, tdPar3, tdRaise, tV, tBo, tK, t2, t1, kI, kU, kEq, kEqS, kN, kIx, kST, kSL, kRv, kRvT, kCL, kCT, kRL, kRT, tCh, tTe, tNo, tAn, tOr', tAnV, DL.tOrV, kNo, tIfE, taC, tTp, tLs, tBi, kLen, kAbs, kMM, kInt, kTupc, kLisc, tSc, toN, toS, tOf, gNm, gNl, gCs, gTu, kIsi, kMn, kMx, kRp, tFz, tiS, tiO, tiR1, tiR2, tiRd, tiE, tCal, tCalB, startD, DL.startB, noIo_eq, nio_d, nio_un, nio_own, asD_d, asD_own, asD_io, CT, CNz, tYesD, ex0, tdFor, tdLc, wipeD, isDat_eq, dat_d, dat_un, Owns, setO, List.map_cons, List.map_nil, List.cons_append, List.nil_append, List.length_cons, List.length_nil, List.replicate, List.replicate_succ, List.replicate_zero, List.getElem?_cons_zero, List.getElem?_cons_succ, List.set_cons_zero, List.set_cons_succ, Option.some.injEq, SV.d.injEq, SV.own.injEq, SV.io.injEq, PyData.int.injEq, PyData.str.injEq, PyData.bool.injEq, PyData.tuple.injEq, PyData.list.injEq, exists_eq_left', exists_eq_left, exists_eq_right, exists_eq_right', exists_and_left, true_and, and_true, if_true, if_false, id, reduceCtorEq, false_or, or_false, exists_false, List.cons.injEq, and_self, SV.d.injEq, Nat.reduceAdd, Nat.reduceSub, ite_true, ite_false, decide_eq_true_eq, Bool.false_eq_true, exists_const, decide_true, decide_false, List.forall_mem_cons, List.forall_mem_nil, Bool.not_true, Bool.not_false, Bool.not_eq_true, Nat.reduceLT, forall_const, implies_true, and_assoc, true_or, or_true, List.not_mem_nil, false_implies, Int.natCast_inj, not_true_eq_false, not_false_eq_true, and_false, false_and, po, map_fr_inj, fr_inj, shP, eqP, eqP0, sh0, shF, eqF, List.length_map, li, map_int_inj, shLZ, eqLZ, shL0]
        refine ⟨Nat.zero_le _, ?_⟩
        by_cases a1 : x1 = []
        · rw [if_pos a1]
          refine ⟨Nat.zero_le _, ?_⟩
          by_cases a2 : x2 = []
          · rw [if_pos a2]; exact hT (.inl ⟨a1, a2⟩)
          · rw [if_neg a2]
            refine ⟨Nat.zero_le _, ?_⟩
            by_cases a3 : x3 = []
            · rw [if_pos a3]; exact hT (.inr a3)
            · rw [if_neg a3]; exact hF fun z => z.elim (fun z => a2 z.2) a3
        · rw [if_neg a1]
          refine ⟨Nat.zero_le _, ?_⟩
          by_cases a3 : x3 = []
          · rw [if_pos a3]; exact hT (.inr a3)
          · rw [if_neg a3]; exact hF fun z => z.elim (fun z => a1 z.1) a3
      refine hR12 _ ?_
      clear hR12
      refine sq_gen fun R13 hR13 => ?_
      simp only [tdR, tdN, tdSq, tdE, tdIf, tdSet, tdF, tdRO, tdAsg, tdSub, tdAug, tdAugS, tdApp, tdPar, tdPar3, tdRaise, tV, tBo, tK, t2, t1, kI, kU, kEq, kEqS, kN, kIx, kST, kSL, kRv, kRvT, kCL, kCT, kRL, kRT, tCh, tTe, tNo, tAn, tOr', tAnV, DL.tOrV, kNo, tIfE, taC, tTp, tLs, tBi, kLen, kAbs, kMM, kInt, kTupc, kLisc, tSc, toN, toS, tOf, gNm, gNl, gCs, gTu, kIsi, kMn, kMx, kRp, tFz, tiS, tiO, tiR1, tiR2, tiRd, tiE, tCal, tCalB, startD, DL.startB, noIo_eq, nio_d, nio_un, nio_own, asD_d, asD_own, asD_io, CT, CNz, tYesD, ex0, tdFor, tdLc, wipeD, isDat_eq, dat_d, dat_un, Owns, setO, List.map_cons, List.map_nil, List.cons_append, List.nil_append, List.length_cons, List.length_nil, List.replicate, List.replicate_succ, List.replicate_zero, List.getElem?_cons_zero, List.getElem?_cons_succ, List.set_cons_zero, List.set_cons_succ, Option.some.injEq, SV.d.injEq, SV.own.injEq, SV.io.injEq, PyData.int.injEq, PyData.str.injEq, PyData.bool.injEq, PyData.tuple.injEq, PyData.list.injEq, exists_eq_left', exists_eq_left, exists_eq_right, exists_eq_right', exists_and_left, true_and, and_true, if_true, if_false, id, reduceCtorEq, false_or, or_false, exists_false, List.cons.injEq, and_self, SV.d.injEq, Nat.reduceAdd, Nat.reduceSub, ite_true, ite_false, decide_eq_true_eq, Bool.false_eq_true, exists_const, decide_true, decide_false, List.forall_mem_cons, List.forall_mem_nil, Bool.not_true, Bool.not_false, Bool.not_eq_true, Nat.reduceLT, forall_const, implies_true, and_assoc, true_or, or_true, List.not_mem_nil, false_implies, Int.natCast_inj, not_true_eq_false, not_false_eq_true, and_false, false_and, po, map_fr_inj, fr_inj, shP, eqP, eqP0, sh0, shF, eqF, List.length_map, li, map_int_inj, shLZ, eqLZ, shL0, sp_poly_times, mulE_fold, n14]
      obtain ⟨zS, wS, zAA, wAA⟩ := z_sq sA sC
      refine ⟨2, sA.h, 2, sA.h, by decide, by omega, by omega, 10, zAA, 2, sC.h, by decide, by omega, by omega, ?_⟩
      refine hR13 _ ?_
      clear hR13
      refine sq_gen fun R14 hR14 => ?_
      suffices go : ∀ s15, dat s15 → R14 [.un, .own bag3, .d (.int i), .d (.list (x1.map .int)), .d (.list (x2.map .int)), .d (.list (x3.map .int)), .d (.tuple ((ca x1).map fr)), .d (.tuple ((ca x2).map fr)), .d (.tuple ((ca x3).map fr)), .d due, s10, s11, s12, .d (.tuple ((G3 (ca x1) (ca x2) (ca x3)).map fr)), .d (.tuple ((mulE (mulE (ca x1) (ca x1)) (ca x3)).map fr)), s15, s16, s17, s18, s19, s20, s21] by
        refine if_gen fun Rt Ru ht hu => ?_
        simp only [tdR, tdN, tdSq, tdE, tdIf, tdSet, tdF, tdRO, tdAsg, tdSub, tdAug, tdAugS, tdApp, tdPar, tdPar3, tdRaise, tV, tBo, tK, t2, t1, kI, kU, kEq, kEqS, kN, kIx, kST, kSL, kRv, kRvT, kCL, kCT, kRL, kRT, tCh, tTe, tNo, tAn, tOr', tAnV, DL.tOrV, kNo, tIfE, taC, tTp, tLs, tBi, kLen, kAbs, kMM, kInt, kTupc, kLisc, tSc, toN, toS, tOf, gNm, gNl, gCs, gTu, kIsi, kMn, kMx, kRp, tFz, tiS, tiO, tiR1, tiR2, tiRd, tiE, tCal, tCalB, startD, DL.startB, noIo_eq, nio_d, nio_un, nio_own, asD_d, asD_own, asD_io, CT, CNz, tYesD, ex0, tdFor, tdLc, wipeD, isDat_eq, dat_d, dat_un, Owns, setO, List.map_cons, List.map_nil, List.cons_append, List.nil_append, List.length_cons, List.length_nil, List.replicate, List.replicate_succ, List.replicate_zero, List.getElem?_cons_zero, List.getElem?_cons_succ, List.set_cons_zero, List.set_cons_succ, Option.some.injEq, SV.d.injEq, SV.own.injEq, SV.io.injEq, PyData.int.injEq, PyData.str.injEq, PyData.bool.injEq, PyData.tuple.injEq, PyData.list.injEq, exists_eq_left', exists_eq_left, exists_eq_right, exists_eq_right', exists_and_left, true_and, and_true, if_true, if_false, id, reduceCtorEq, false_or, or_false, exists_false, List.cons.injEq, and_self, SV.d.injEq, Nat.reduceAdd, Nat.reduceSub, ite_true, ite_false, decide_eq_true_eq, Bool.false_eq_true, exists_const, decide_true, decide_false, List.forall_mem_cons, List.forall_mem_nil, Bool.not_true, Bool.not_false, Bool.not_eq_true, Nat.reduceLT, forall_const, implies_true, and_assoc, true_or, or_true, List.not_mem_nil, false_implies, Int.natCast_inj, not_true_eq_false, not_false_eq_true, and_false, false_and, po, map_fr_inj, fr_inj, shP, eqP, eqP0, sh0, shF, eqF, List.length_map, li, map_int_inj, shLZ, eqLZ, shL0]
        refine ⟨Nat.zero_le _, ?_⟩
        by_cases hs : mulE (mulE (ca x1) (ca x1)) (ca x3) = []
        · rw [decide_eq_true hs, if_neg (by decide)]
          exact hu _ (go s15 d15)
        · rw [decide_eq_false hs, if_pos (by decide)]
          have nA : ca x1 ≠ [] := fun z => hs (by rw [mulE_nil mulE_tr tC, mulE_nil tA tA]; exact .inl (.inl z))
          have nC : ca x3 ≠ [] := fun z => hs (by rw [mulE_nil mulE_tr tC]; exact .inr z)
          obtain ⟨k, hf, w1, w2, w3, w4, w5, w6, w7, w8⟩ := z_flat sA sC nA nC
          have tS : Tr (mulE (mulE (ca x1) (ca x1)) (ca x3)) := mulE_tr
          have o1 := sqf_com tS hs
          have o2 := sqf_dvd tS hs
          have o3 := sqf_pow tS hs
          have tF := sqf_tr tS hs
          have nF := sqf_ne tS hs
          have pw9 := z_pow tF w5 w2
          generalize mulE (mulE (ca x1) (ca x1)) (ca x3) = sq at *
          refine ht _ (sq_gen fun R15 hR15 => ?_)
          clear ht hu
          simp only [tdR, tdN, tdSq, tdE, tdIf, tdSet, tdF, tdRO, tdAsg, tdSub, tdAug, tdAugS, tdApp, tdPar, tdPar3, tdRaise, tV, tBo, tK, t2, t1, kI, kU, kEq, kEqS, kN, kIx, kST, kSL, kRv, kRvT, kCL, kCT, kRL, kRT, tCh, tTe, tNo, tAn, tOr', tAnV, DL.tOrV, kNo, tIfE, taC, tTp, tLs, tBi, kLen, kAbs, kMM, kInt, kTupc, kLisc, tSc, toN, toS, tOf, gNm, gNl, gCs, gTu, kIsi, kMn, kMx, kRp, tFz, tiS, tiO, tiR1, tiR2, tiRd, tiE, tCal, tCalB, startD, DL.startB, noIo_eq, nio_d, nio_un, nio_own, asD_d, asD_own, asD_io, CT, CNz, tYesD, ex0, tdFor, tdLc, wipeD, isDat_eq, dat_d, dat_un, Owns, setO, List.map_cons, List.map_nil, List.cons_append, List.nil_append, List.length_cons, List.length_nil, List.replicate, List.replicate_succ, List.replicate_zero, List.getElem?_cons_zero, List.getElem?_cons_succ, List.set_cons_zero, List.set_cons_succ, Option.some.injEq, SV.d.injEq, SV.own.injEq, SV.io.injEq, PyData.int.injEq, PyData.str.injEq, PyData.bool.injEq, PyData.tuple.injEq, PyData.list.injEq, exists_eq_left', exists_eq_left, exists_eq_right, exists_eq_right', exists_and_left, true_and, and_true, if_true, if_false, id, reduceCtorEq, false_or, or_false, exists_false, List.cons.injEq, and_self, SV.d.injEq, Nat.reduceAdd, Nat.reduceSub, ite_true, ite_false, decide_eq_true_eq, Bool.false_eq_true, exists_const, decide_true, decide_false, List.forall_mem_cons, List.forall_mem_nil, Bool.not_true, Bool.not_false, Bool.not_eq_true, Nat.reduceLT, forall_const, implies_true, and_assoc, true_or, or_true, List.not_mem_nil, false_implies, Int.natCast_inj, not_true_eq_false, not_false_eq_true, and_false, false_and, po, map_fr_inj, fr_inj, shP, eqP, eqP0, sh0, shF, eqF, List.length_map, li, map_int_inj, shLZ, eqLZ, shL0, sp_squarefree, n15]
          refine ⟨hs, tS, 18, zS, by omega, by omega, k, w1, by omega, ?_⟩
          refine hR15 _ (if_gen fun Rt Ru ht hu => ?_)
          clear hR15
          simp only [tdR, tdN, tdSq, tdE, tdIf, tdSet, tdF, tdRO, tdAsg, tdSub, tdAug, tdAugS, tdApp, tdPar, tdPar3, tdRaise, tV, tBo, tK, t2, t1, kI, kU, kEq, kEqS, kN, kIx, kST, kSL, kRv, kRvT, kCL, kCT, kRL, kRT, tCh, tTe, tNo, tAn, tOr', tAnV, DL.tOrV, kNo, tIfE, taC, tTp, tLs, tBi, kLen, kAbs, kMM, kInt, kTupc, kLisc, tSc, toN, toS, tOf, gNm, gNl, gCs, gTu, kIsi, kMn, kMx, kRp, tFz, tiS, tiO, tiR1, tiR2, tiRd, tiE, tCal, tCalB, startD, DL.startB, noIo_eq, nio_d, nio_un, nio_own, asD_d, asD_own, asD_io, CT, CNz, tYesD, ex0, tdFor, tdLc, wipeD, isDat_eq, dat_d, dat_un, Owns, setO, List.map_cons, List.map_nil, List.cons_append, List.nil_append, List.length_cons, List.length_nil, List.replicate, List.replicate_succ, List.replicate_zero, List.getElem?_cons_zero, List.getElem?_cons_succ, List.set_cons_zero, List.set_cons_succ, Option.some.injEq, SV.d.injEq, SV.own.injEq, SV.io.injEq, PyData.int.injEq, PyData.str.injEq, PyData.bool.injEq, PyData.tuple.injEq, PyData.list.injEq, exists_eq_left', exists_eq_left, exists_eq_right, exists_eq_right', exists_and_left, true_and, and_true, if_true, if_false, id, reduceCtorEq, false_or, or_false, exists_false, List.cons.injEq, and_self, SV.d.injEq, Nat.reduceAdd, Nat.reduceSub, ite_true, ite_false, decide_eq_true_eq, Bool.false_eq_true, exists_const, decide_true, decide_false, List.forall_mem_cons, List.forall_mem_nil, Bool.not_true, Bool.not_false, Bool.not_eq_true, Nat.reduceLT, forall_const, implies_true, and_assoc, true_or, or_true, List.not_mem_nil, false_implies, Int.natCast_inj, not_true_eq_false, not_false_eq_true, and_false, false_and, po, map_fr_inj, fr_inj, shP, eqP, eqP0, sh0, shF, eqF, List.length_map, li, map_int_inj, shLZ, eqLZ, shL0, sp_common, sp_derived, sp_divided, sp_to_power, sp_with_unit, at2_1, eq11]
          have df := der_len (sqf sq)
          have tU := unit_tr tS
          have lU := unit_len sq
          have b18 : (sq.length + 1 - (sqf sq).length) * (hf + 1) ≤ 10 * 36469 := Nat.mul_le_mul (by omega) (by omega)
          obtain ⟨p1, p2, p3⟩ := pw9 sq.length wS
          have b9 : sq.length * (hf + 6) ≤ 9 * 36474 := Nat.mul_le_mul wS (by omega)
          have b47 : ((powP (sqf sq) sq.length).length + 1 - (unit sq).length) * (18 + 1) ≤ 47 * 19 := Nat.mul_le_mul (by omega) (by omega)
          refine ⟨hb_smL w2 (by omega), by omega, tF, der_tr _, hf + 6, w2.mono (by omega), der_hb w2 (by omega), w7, by omega, by omega, sizes2, by rw [sizeLine_eq]; decide, rfl, ?_⟩
          rw [decide_eq_true o1, if_neg (by decide)]
          refine ⟨fun z => absurd z nF, 18, hf, fun _ => ⟨tF, zS, w2, by omega, by omega, by omega, Nat.zero_le _, ?_⟩⟩
          rw [decide_eq_true o2, if_neg (by decide)]
          refine ⟨hf, w2, by omega, by omega, fun i hi => ?_, tS, 18, zS, by omega, by omega, fun z => absurd z (unit_ne hs), 1 + sq.length * (hf + 6), 18, fun _ => ⟨tU, p2, unit_hb tS zS, by omega, by omega, by omega, Nat.zero_le _, ?_⟩⟩
          · obtain ⟨p4, p5, p6⟩ := pw9 i (by omega)
            have b9 : i * (hf + 6) ≤ 9 * 36474 := Nat.mul_le_mul (by omega) (by omega)
            exact ⟨by omega, _, p5, by omega⟩
          · rw [decide_eq_true o3, if_neg (by decide)]
            exact hu _ (go _ trivial)
      intro s15 d15
      have n15 := dat_nio d15
      refine hR14 _ ?_
      clear hR14
      refine sq_gen fun R15 hR15 => ?_
      simp only [tdR, tdN, tdSq, tdE, tdIf, tdSet, tdF, tdRO, tdAsg, tdSub, tdAug, tdAugS, tdApp, tdPar, tdPar3, tdRaise, tV, tBo, tK, t2, t1, kI, kU, kEq, kEqS, kN, kIx, kST, kSL, kRv, kRvT, kCL, kCT, kRL, kRT, tCh, tTe, tNo, tAn, tOr', tAnV, DL.tOrV, kNo, tIfE, taC, tTp, tLs, tBi, kLen, kAbs, kMM, kInt, kTupc, kLisc, tSc, toN, toS, tOf, gNm, gNl, gCs, gTu, kIsi, kMn, kMx, kRp, tFz, tiS, tiO, tiR1, tiR2, tiRd, tiE, tCal, tCalB, startD, DL.startB, noIo_eq, nio_d, nio_un, nio_own, asD_d, asD_own, asD_io, CT, CNz, tYesD, ex0, tdFor, tdLc, wipeD, isDat_eq, dat_d, dat_un, Owns, setO, List.map_cons, List.map_nil, List.cons_append, List.nil_append, List.length_cons, List.length_nil, List.replicate, List.replicate_succ, List.replicate_zero, List.getElem?_cons_zero, List.getElem?_cons_succ, List.set_cons_zero, List.set_cons_succ, Option.some.injEq, SV.d.injEq, SV.own.injEq, SV.io.injEq, PyData.int.injEq, PyData.str.injEq, PyData.bool.injEq, PyData.tuple.injEq, PyData.list.injEq, exists_eq_left', exists_eq_left, exists_eq_right, exists_eq_right', exists_and_left, true_and, and_true, if_true, if_false, id, reduceCtorEq, false_or, or_false, exists_false, List.cons.injEq, and_self, SV.d.injEq, Nat.reduceAdd, Nat.reduceSub, ite_true, ite_false, decide_eq_true_eq, Bool.false_eq_true, exists_const, decide_true, decide_false, List.forall_mem_cons, List.forall_mem_nil, Bool.not_true, Bool.not_false, Bool.not_eq_true, Nat.reduceLT, forall_const, implies_true, and_assoc, true_or, or_true, List.not_mem_nil, false_implies, Int.natCast_inj, not_true_eq_false, not_false_eq_true, and_false, false_and, po, map_fr_inj, fr_inj, shP, eqP, eqP0, sh0, shF, eqF, List.length_map, li, map_int_inj, shLZ, eqLZ, shL0, sp__law_take, sp__law_fraction, n16]
      refine ⟨⟨_, rfl⟩, _, k3, by omega, by decide, fun v bag4 v0 v9 k4 => ⟨⟨_, rfl⟩, _, k4, by omega, by decide, fun w' bag5 w0 w3 k5 => ⟨Nat.lt_of_le_of_lt (Nat.log2_le_self _) (by omega), Nat.lt_of_le_of_lt (Nat.log2_le_self _) (by omega), by omega, ?_⟩⟩⟩
      obtain ⟨qa, qb⟩ := small_q (v := v - 4) (w := 1 + w') (by omega) (by omega) (by omega)
      refine hR15 _ ?_
      clear hR15
      generalize Rat.divInt (v - 4) (1 + w') = q at *
      refine sq_gen fun R16 hR16 => ?_
      simp only [tdR, tdN, tdSq, tdE, tdIf, tdSet, tdF, tdRO, tdAsg, tdSub, tdAug, tdAugS, tdApp, tdPar, tdPar3, tdRaise, tV, tBo, tK, t2, t1, kI, kU, kEq, kEqS, kN, kIx, kST, kSL, kRv, kRvT, kCL, kCT, kRL, kRT, tCh, tTe, tNo, tAn, tOr', tAnV, DL.tOrV, kNo, tIfE, taC, tTp, tLs, tBi, kLen, kAbs, kMM, kInt, kTupc, kLisc, tSc, toN, toS, tOf, gNm, gNl, gCs, gTu, kIsi, kMn, kMx, kRp, tFz, tiS, tiO, tiR1, tiR2, tiRd, tiE, tCal, tCalB, startD, DL.startB, noIo_eq, nio_d, nio_un, nio_own, asD_d, asD_own, asD_io, CT, CNz, tYesD, ex0, tdFor, tdLc, wipeD, isDat_eq, dat_d, dat_un, Owns, setO, List.map_cons, List.map_nil, List.cons_append, List.nil_append, List.length_cons, List.length_nil, List.replicate, List.replicate_succ, List.replicate_zero, List.getElem?_cons_zero, List.getElem?_cons_succ, List.set_cons_zero, List.set_cons_succ, Option.some.injEq, SV.d.injEq, SV.own.injEq, SV.io.injEq, PyData.int.injEq, PyData.str.injEq, PyData.bool.injEq, PyData.tuple.injEq, PyData.list.injEq, exists_eq_left', exists_eq_left, exists_eq_right, exists_eq_right', exists_and_left, true_and, and_true, if_true, if_false, id, reduceCtorEq, false_or, or_false, exists_false, List.cons.injEq, and_self, SV.d.injEq, Nat.reduceAdd, Nat.reduceSub, ite_true, ite_false, decide_eq_true_eq, Bool.false_eq_true, exists_const, decide_true, decide_false, List.forall_mem_cons, List.forall_mem_nil, Bool.not_true, Bool.not_false, Bool.not_eq_true, Nat.reduceLT, forall_const, implies_true, and_assoc, true_or, or_true, List.not_mem_nil, false_implies, Int.natCast_inj, not_true_eq_false, not_false_eq_true, and_false, false_and, po, map_fr_inj, fr_inj, shP, eqP, eqP0, sh0, shF, eqF, List.length_map, li, map_int_inj, shLZ, eqLZ, shL0, n17, n18]
      refine ⟨sizes2, hR16 _ ?_⟩
      clear hR16
      refine sq_gen fun R17 hR17 => for_gen fun R18 hR18 => ?_
      simp only [tdR, tdN, tdSq, tdE, tdIf, tdSet, tdF, tdRO, tdAsg, tdSub, tdAug, tdAugS, tdApp, tdPar, tdPar3, tdRaise, tV, tBo, tK, t2, t1, kI, kU, kEq, kEqS, kN, kIx, kST, kSL, kRv, kRvT, kCL, kCT, kRL, kRT, tCh, tTe, tNo, tAn, tOr', tAnV, DL.tOrV, kNo, tIfE, taC, tTp, tLs, tBi, kLen, kAbs, kMM, kInt, kTupc, kLisc, tSc, toN, toS, tOf, gNm, gNl, gCs, gTu, kIsi, kMn, kMx, kRp, tFz, tiS, tiO, tiR1, tiR2, tiRd, tiE, tCal, tCalB, startD, DL.startB, noIo_eq, nio_d, nio_un, nio_own, asD_d, asD_own, asD_io, CT, CNz, tYesD, ex0, tdFor, tdLc, wipeD, isDat_eq, dat_d, dat_un, Owns, setO, List.map_cons, List.map_nil, List.cons_append, List.nil_append, List.length_cons, List.length_nil, List.replicate, List.replicate_succ, List.replicate_zero, List.getElem?_cons_zero, List.getElem?_cons_succ, List.set_cons_zero, List.set_cons_succ, Option.some.injEq, SV.d.injEq, SV.own.injEq, SV.io.injEq, PyData.int.injEq, PyData.str.injEq, PyData.bool.injEq, PyData.tuple.injEq, PyData.list.injEq, exists_eq_left', exists_eq_left, exists_eq_right, exists_eq_right', exists_and_left, true_and, and_true, if_true, if_false, id, reduceCtorEq, false_or, or_false, exists_false, List.cons.injEq, and_self, SV.d.injEq, Nat.reduceAdd, Nat.reduceSub, ite_true, ite_false, decide_eq_true_eq, Bool.false_eq_true, exists_const, decide_true, decide_false, List.forall_mem_cons, List.forall_mem_nil, Bool.not_true, Bool.not_false, Bool.not_eq_true, Nat.reduceLT, forall_const, implies_true, and_assoc, true_or, or_true, List.not_mem_nil, false_implies, Int.natCast_inj, not_true_eq_false, not_false_eq_true, and_false, false_and, po, map_fr_inj, fr_inj, shP, eqP, eqP0, sh0, shF, eqF, List.length_map, li, map_int_inj, shLZ, eqLZ, shL0]
      refine hR18 _ _ _ ⟨rfl, fun j δ => ∃ s19, dat s19 ∧ δ = [.un, .own bag5, .d (.int i), .d (.list (x1.map .int)), .d (.list (x2.map .int)), .d (.list (x3.map .int)), .d (.tuple ((ca x1).map fr)), .d (.tuple ((ca x2).map fr)), .d (.tuple ((ca x3).map fr)), .d due, s10, s11, s12, .d (.tuple ((G3 (ca x1) (ca x2) (ca x3)).map fr)), .d (.tuple ((mulE (mulE (ca x1) (ca x1)) (ca x3)).map fr)), s15, .d (fr q), .d (.int (hv x1 q.num q.den j).1), .d (.int (hv x1 q.num q.den j).2), s19, s20, s21], ⟨s19, d19, rfl⟩, fun j x δ hx h => ?_, fun δ h => ?_⟩
      · obtain ⟨hj, rfl⟩ := rev_at hx
        obtain ⟨s19, d19, rfl⟩ := h
        have n19 := dat_nio d19
        clear hR17 hR18
        obtain ⟨b1, b2⟩ := hv_bd (xs := x1) (a0 := q.num) (a1 := (q.den : Int)) qa (by simpa using qb) m1 j
        refine gnm_gen fun R19 hR19 => ?_
        simp only [tdR, tdN, tdSq, tdE, tdIf, tdSet, tdF, tdRO, tdAsg, tdSub, tdAug, tdAugS, tdApp, tdPar, tdPar3, tdRaise, tV, tBo, tK, t2, t1, kI, kU, kEq, kEqS, kN, kIx, kST, kSL, kRv, kRvT, kCL, kCT, kRL, kRT, tCh, tTe, tNo, tAn, tOr', tAnV, DL.tOrV, kNo, tIfE, taC, tTp, tLs, tBi, kLen, kAbs, kMM, kInt, kTupc, kLisc, tSc, toN, toS, tOf, gNm, gNl, gCs, gTu, kIsi, kMn, kMx, kRp, tFz, tiS, tiO, tiR1, tiR2, tiRd, tiE, tCal, tCalB, startD, DL.startB, noIo_eq, nio_d, nio_un, nio_own, asD_d, asD_own, asD_io, CT, CNz, tYesD, ex0, tdFor, tdLc, wipeD, isDat_eq, dat_d, dat_un, Owns, setO, List.map_cons, List.map_nil, List.cons_append, List.nil_append, List.length_cons, List.length_nil, List.replicate, List.replicate_succ, List.replicate_zero, List.getElem?_cons_zero, List.getElem?_cons_succ, List.set_cons_zero, List.set_cons_succ, Option.some.injEq, SV.d.injEq, SV.own.injEq, SV.io.injEq, PyData.int.injEq, PyData.str.injEq, PyData.bool.injEq, PyData.tuple.injEq, PyData.list.injEq, exists_eq_left', exists_eq_left, exists_eq_right, exists_eq_right', exists_and_left, true_and, and_true, if_true, if_false, id, reduceCtorEq, false_or, or_false, exists_false, List.cons.injEq, and_self, SV.d.injEq, Nat.reduceAdd, Nat.reduceSub, ite_true, ite_false, decide_eq_true_eq, Bool.false_eq_true, exists_const, decide_true, decide_false, List.forall_mem_cons, List.forall_mem_nil, Bool.not_true, Bool.not_false, Bool.not_eq_true, Nat.reduceLT, forall_const, implies_true, and_assoc, true_or, or_true, List.not_mem_nil, false_implies, Int.natCast_inj, not_true_eq_false, not_false_eq_true, and_false, false_and, n19]
        refine hR19 _ ?_
        simp only [tdR, tdN, tdSq, tdE, tdIf, tdSet, tdF, tdRO, tdAsg, tdSub, tdAug, tdAugS, tdApp, tdPar, tdPar3, tdRaise, tV, tBo, tK, t2, t1, kI, kU, kEq, kEqS, kN, kIx, kST, kSL, kRv, kRvT, kCL, kCT, kRL, kRT, tCh, tTe, tNo, tAn, tOr', tAnV, DL.tOrV, kNo, tIfE, taC, tTp, tLs, tBi, kLen, kAbs, kMM, kInt, kTupc, kLisc, tSc, toN, toS, tOf, gNm, gNl, gCs, gTu, kIsi, kMn, kMx, kRp, tFz, tiS, tiO, tiR1, tiR2, tiRd, tiE, tCal, tCalB, startD, DL.startB, noIo_eq, nio_d, nio_un, nio_own, asD_d, asD_own, asD_io, CT, CNz, tYesD, ex0, tdFor, tdLc, wipeD, isDat_eq, dat_d, dat_un, Owns, setO, List.map_cons, List.map_nil, List.cons_append, List.nil_append, List.length_cons, List.length_nil, List.replicate, List.replicate_succ, List.replicate_zero, List.getElem?_cons_zero, List.getElem?_cons_succ, List.set_cons_zero, List.set_cons_succ, Option.some.injEq, SV.d.injEq, SV.own.injEq, SV.io.injEq, PyData.int.injEq, PyData.str.injEq, PyData.bool.injEq, PyData.tuple.injEq, PyData.list.injEq, exists_eq_left', exists_eq_left, exists_eq_right, exists_eq_right', exists_and_left, true_and, and_true, if_true, if_false, id, reduceCtorEq, false_or, or_false, exists_false, List.cons.injEq, and_self, SV.d.injEq, Nat.reduceAdd, Nat.reduceSub, ite_true, ite_false, decide_eq_true_eq, Bool.false_eq_true, exists_const, decide_true, decide_false, List.forall_mem_cons, List.forall_mem_nil, Bool.not_true, Bool.not_false, Bool.not_eq_true, Nat.reduceLT, forall_const, implies_true, and_assoc, true_or, or_true, List.not_mem_nil, false_implies, Int.natCast_inj, not_true_eq_false, not_false_eq_true, and_false, false_and, po, map_fr_inj, fr_inj, shP, eqP, eqP0, sh0, shF, eqF, List.length_map, li, map_int_inj, shLZ, eqLZ, shL0, fr, at2_0, at2_1]
        have p4 : 13 ^ j ≤ 13 ^ 4 := Nat.pow_le_pow_right (by decide) (by omega)
        have e4 : (13 : Nat) ^ 4 = 28561 := by decide
        have e60 : (2 : Nat) ^ 60 = 1152921504606846976 := by decide
        have i3 := m1 _ (iat_mem (l := x1) (i := x1.length - 1 - j) (by omega))
        have iu : (iat x1 (x1.length - 1 - j) * (hv x1 q.num (q.den : Int) j).2).natAbs ≤ 3 * 28561 := by rw [Int.natAbs_mul]; exact Nat.mul_le_mul i3 (by omega)
        have qd : ((q.den : Int)).natAbs ≤ 3 := by simpa using qb
        exact ⟨cmu_of (by omega) (by omega), cmu_of (by omega) (by omega), cmu_of (by omega) (by omega), cmu_of (by omega) (by omega), .d _, trivial, rfl, rfl, rfl⟩
      · obtain ⟨s19, d19, rfl⟩ := h
        have n19 := dat_nio d19
        rw [List.length_reverse, List.length_map] at *
        refine hR17 _ ?_
        clear hR17 hR18
        refine sq_gen fun R18 hR18 => if_gen fun Rt Ru ht hu => ?_
        simp only [tdR, tdN, tdSq, tdE, tdIf, tdSet, tdF, tdRO, tdAsg, tdSub, tdAug, tdAugS, tdApp, tdPar, tdPar3, tdRaise, tV, tBo, tK, t2, t1, kI, kU, kEq, kEqS, kN, kIx, kST, kSL, kRv, kRvT, kCL, kCT, kRL, kRT, tCh, tTe, tNo, tAn, tOr', tAnV, DL.tOrV, kNo, tIfE, taC, tTp, tLs, tBi, kLen, kAbs, kMM, kInt, kTupc, kLisc, tSc, toN, toS, tOf, gNm, gNl, gCs, gTu, kIsi, kMn, kMx, kRp, tFz, tiS, tiO, tiR1, tiR2, tiRd, tiE, tCal, tCalB, startD, DL.startB, noIo_eq, nio_d, nio_un, nio_own, asD_d, asD_own, asD_io, CT, CNz, tYesD, ex0, tdFor, tdLc, wipeD, isDat_eq, dat_d, dat_un, Owns, setO, List.map_cons, List.map_nil, List.cons_append, List.nil_append, List.length_cons, List.length_nil, List.replicate, List.replicate_succ, List.replicate_zero, List.getElem?_cons_zero, List.getElem?_cons_succ, List.set_cons_zero, List.set_cons_succ, Option.some.injEq, SV.d.injEq, SV.own.injEq, SV.io.injEq, PyData.int.injEq, PyData.str.injEq, PyData.bool.injEq, PyData.tuple.injEq, PyData.list.injEq, exists_eq_left', exists_eq_left, exists_eq_right, exists_eq_right', exists_and_left, true_and, and_true, if_true, if_false, id, reduceCtorEq, false_or, or_false, exists_false, List.cons.injEq, and_self, SV.d.injEq, Nat.reduceAdd, Nat.reduceSub, ite_true, ite_false, decide_eq_true_eq, Bool.false_eq_true, exists_const, decide_true, decide_false, List.forall_mem_cons, List.forall_mem_nil, Bool.not_true, Bool.not_false, Bool.not_eq_true, Nat.reduceLT, forall_const, implies_true, and_assoc, true_or, or_true, List.not_mem_nil, false_implies, Int.natCast_inj, not_true_eq_false, not_false_eq_true, and_false, false_and, po, map_fr_inj, fr_inj, shP, eqP, eqP0, sh0, shF, eqF, List.length_map, li, map_int_inj, shLZ, eqLZ, shL0, sp_value_at, sp__law_fraction]
        obtain ⟨b1, b2⟩ := hv_bd (xs := x1) (a0 := q.num) (a1 := (q.den : Int)) qa (by simpa using qb) m1 x1.length
        have p4 : 13 ^ x1.length ≤ 13 ^ 4 := Nat.pow_le_pow_right (by decide) l1
        have e4 : (13 : Nat) ^ 4 = 28561 := by decide
        refine ⟨mA, ⟨Nat.le_trans (Nat.log2_le_self _) (by omega), Nat.le_trans (Nat.log2_le_self _) (by omega)⟩, fun i => hv_sm qa qb m1 l1 i, Nat.lt_of_le_of_lt (Nat.log2_le_self _) (by omega), Nat.lt_of_le_of_lt (Nat.log2_le_self _) (by omega), hv_ne (den_ne q) _, ?_⟩
        rw [decide_eq_true val_eq.symm, if_neg (by decide)]
        refine hu _ (hR18 _ ?_)
        clear hu ht hR18
        generalize (hv x1 q.num (q.den : Int) x1.length).1 = vo
        generalize (hv x1 q.num (q.den : Int) x1.length).2 = vu
        refine sq_gen fun R19 hR19 => if_gen fun Rt Ru ht hu => ?_
        simp only [tdR, tdN, tdSq, tdE, tdIf, tdSet, tdF, tdRO, tdAsg, tdSub, tdAug, tdAugS, tdApp, tdPar, tdPar3, tdRaise, tV, tBo, tK, t2, t1, kI, kU, kEq, kEqS, kN, kIx, kST, kSL, kRv, kRvT, kCL, kCT, kRL, kRT, tCh, tTe, tNo, tAn, tOr', tAnV, DL.tOrV, kNo, tIfE, taC, tTp, tLs, tBi, kLen, kAbs, kMM, kInt, kTupc, kLisc, tSc, toN, toS, tOf, gNm, gNl, gCs, gTu, kIsi, kMn, kMx, kRp, tFz, tiS, tiO, tiR1, tiR2, tiRd, tiE, tCal, tCalB, startD, DL.startB, noIo_eq, nio_d, nio_un, nio_own, asD_d, asD_own, asD_io, CT, CNz, tYesD, ex0, tdFor, tdLc, wipeD, isDat_eq, dat_d, dat_un, Owns, setO, List.map_cons, List.map_nil, List.cons_append, List.nil_append, List.length_cons, List.length_nil, List.replicate, List.replicate_succ, List.replicate_zero, List.getElem?_cons_zero, List.getElem?_cons_succ, List.set_cons_zero, List.set_cons_succ, Option.some.injEq, SV.d.injEq, SV.own.injEq, SV.io.injEq, PyData.int.injEq, PyData.str.injEq, PyData.bool.injEq, PyData.tuple.injEq, PyData.list.injEq, exists_eq_left', exists_eq_left, exists_eq_right, exists_eq_right', exists_and_left, true_and, and_true, if_true, if_false, id, reduceCtorEq, false_or, or_false, exists_false, List.cons.injEq, and_self, SV.d.injEq, Nat.reduceAdd, Nat.reduceSub, ite_true, ite_false, decide_eq_true_eq, Bool.false_eq_true, exists_const, decide_true, decide_false, List.forall_mem_cons, List.forall_mem_nil, Bool.not_true, Bool.not_false, Bool.not_eq_true, Nat.reduceLT, forall_const, implies_true, and_assoc, true_or, or_true, List.not_mem_nil, false_implies, Int.natCast_inj, not_true_eq_false, not_false_eq_true, and_false, false_and, po, map_fr_inj, fr_inj, shP, eqP, eqP0, sh0, shF, eqF, List.length_map, li, map_int_inj, shLZ, eqLZ, shL0, sp_derived, sp__law_alike, sp_turned, sp__law_poly, n20]
        refine ⟨mA, by omega, by decide, by decide, by omega, by omega, ?_⟩
        refine lcb (fun i => (List.range i).map fun (j : Nat) => PyData.int (((1 + j : Nat) : Int) * iat x1 (1 + j))) (by simp only [tdR, tdN, tdSq, tdE, tdIf, tdSet, tdF, tdRO, tdAsg, tdSub, tdAug, tdAugS, tdApp, tdPar, tdPar3, tdRaise, tV, tBo, tK, t2, t1, kI, kU, kEq, kEqS, kN, kIx, kST, kSL, kRv, kRvT, kCL, kCT, kRL, kRT, tCh, tTe, tNo, tAn, tOr', tAnV, DL.tOrV, kNo, tIfE, taC, tTp, tLs, tBi, kLen, kAbs, kMM, kInt, kTupc, kLisc, tSc, toN, toS, tOf, gNm, gNl, gCs, gTu, kIsi, kMn, kMx, kRp, tFz, tiS, tiO, tiR1, tiR2, tiRd, tiE, tCal, tCalB, startD, DL.startB, noIo_eq, nio_d, nio_un, nio_own, asD_d, asD_own, asD_io, CT, CNz, tYesD, ex0, tdFor, tdLc, wipeD, isDat_eq, dat_d, dat_un, Owns, setO, List.map_cons, List.map_nil, List.cons_append, List.nil_append, List.length_cons, List.length_nil, List.replicate, List.replicate_succ, List.replicate_zero, List.getElem?_cons_zero, List.getElem?_cons_succ, List.set_cons_zero, List.set_cons_succ, Option.some.injEq, SV.d.injEq, SV.own.injEq, SV.io.injEq, PyData.int.injEq, PyData.str.injEq, PyData.bool.injEq, PyData.tuple.injEq, PyData.list.injEq, exists_eq_left', exists_eq_left, exists_eq_right, exists_eq_right', exists_and_left, true_and, and_true, if_true, if_false, id, reduceCtorEq, false_or, or_false, exists_false, List.cons.injEq, and_self, SV.d.injEq, Nat.reduceAdd, Nat.reduceSub, ite_true, ite_false, decide_eq_true_eq, Bool.false_eq_true, exists_const, decide_true, decide_false, List.forall_mem_cons, List.forall_mem_nil, Bool.not_true, Bool.not_false, Bool.not_eq_true, Nat.reduceLT, forall_const, implies_true, and_assoc, true_or, or_true, List.not_mem_nil, false_implies, Int.natCast_inj, not_true_eq_false, not_false_eq_true, and_false, false_and]; exact d20) (fun _ e => nomatch e) rfl (fun i x hx => ?_) ?_
        · obtain ⟨hi, rfl⟩ := rng1_nat hx
          simp only [tdR, tdN, tdSq, tdE, tdIf, tdSet, tdF, tdRO, tdAsg, tdSub, tdAug, tdAugS, tdApp, tdPar, tdPar3, tdRaise, tV, tBo, tK, t2, t1, kI, kU, kEq, kEqS, kN, kIx, kST, kSL, kRv, kRvT, kCL, kCT, kRL, kRT, tCh, tTe, tNo, tAn, tOr', tAnV, DL.tOrV, kNo, tIfE, taC, tTp, tLs, tBi, kLen, kAbs, kMM, kInt, kTupc, kLisc, tSc, toN, toS, tOf, gNm, gNl, gCs, gTu, kIsi, kMn, kMx, kRp, tFz, tiS, tiO, tiR1, tiR2, tiRd, tiE, tCal, tCalB, startD, DL.startB, noIo_eq, nio_d, nio_un, nio_own, asD_d, asD_own, asD_io, CT, CNz, tYesD, ex0, tdFor, tdLc, wipeD, isDat_eq, dat_d, dat_un, Owns, setO, List.map_cons, List.map_nil, List.cons_append, List.nil_append, List.length_cons, List.length_nil, List.replicate, List.replicate_succ, List.replicate_zero, List.getElem?_cons_zero, List.getElem?_cons_succ, List.set_cons_zero, List.set_cons_succ, Option.some.injEq, SV.d.injEq, SV.own.injEq, SV.io.injEq, PyData.int.injEq, PyData.str.injEq, PyData.bool.injEq, PyData.tuple.injEq, PyData.list.injEq, exists_eq_left', exists_eq_left, exists_eq_right, exists_eq_right', exists_and_left, true_and, and_true, if_true, if_false, id, reduceCtorEq, false_or, or_false, exists_false, List.cons.injEq, and_self, SV.d.injEq, Nat.reduceAdd, Nat.reduceSub, ite_true, ite_false, decide_eq_true_eq, Bool.false_eq_true, exists_const, decide_true, decide_false, List.forall_mem_cons, List.forall_mem_nil, Bool.not_true, Bool.not_false, Bool.not_eq_true, Nat.reduceLT, forall_const, implies_true, and_assoc, true_or, or_true, List.not_mem_nil, false_implies, Int.natCast_inj, not_true_eq_false, not_false_eq_true, and_false, false_and, po, map_fr_inj, fr_inj, shP, eqP, eqP0, sh0, shF, eqF, List.length_map, li, map_int_inj, shLZ, eqLZ, shL0]
          have e60 : (2 : Nat) ^ 60 = 1152921504606846976 := by decide
          have i3 := m1 _ (iat_mem (l := x1) (i := 1 + i) (by omega))
          exact ⟨_, atI_int (by omega), _, rfl, cmu_of (by omega) (by omega), lt_size (by rw [List.length_range]; omega), by rw [List.range_succ, List.map_append]; rfl⟩
        · simp only [tdR, tdN, tdSq, tdE, tdIf, tdSet, tdF, tdRO, tdAsg, tdSub, tdAug, tdAugS, tdApp, tdPar, tdPar3, tdRaise, tV, tBo, tK, t2, t1, kI, kU, kEq, kEqS, kN, kIx, kST, kSL, kRv, kRvT, kCL, kCT, kRL, kRT, tCh, tTe, tNo, tAn, tOr', tAnV, DL.tOrV, kNo, tIfE, taC, tTp, tLs, tBi, kLen, kAbs, kMM, kInt, kTupc, kLisc, tSc, toN, toS, tOf, gNm, gNl, gCs, gTu, kIsi, kMn, kMx, kRp, tFz, tiS, tiO, tiR1, tiR2, tiRd, tiE, tCal, tCalB, startD, DL.startB, noIo_eq, nio_d, nio_un, nio_own, asD_d, asD_own, asD_io, CT, CNz, tYesD, ex0, tdFor, tdLc, wipeD, isDat_eq, dat_d, dat_un, Owns, setO, List.map_cons, List.map_nil, List.cons_append, List.nil_append, List.length_cons, List.length_nil, List.replicate, List.replicate_succ, List.replicate_zero, List.getElem?_cons_zero, List.getElem?_cons_succ, List.set_cons_zero, List.set_cons_succ, Option.some.injEq, SV.d.injEq, SV.own.injEq, SV.io.injEq, PyData.int.injEq, PyData.str.injEq, PyData.bool.injEq, PyData.tuple.injEq, PyData.list.injEq, exists_eq_left', exists_eq_left, exists_eq_right, exists_eq_right', exists_and_left, true_and, and_true, if_true, if_false, id, reduceCtorEq, false_or, or_false, exists_false, List.cons.injEq, and_self, SV.d.injEq, Nat.reduceAdd, Nat.reduceSub, ite_true, ite_false, decide_eq_true_eq, Bool.false_eq_true, exists_const, decide_true, decide_false, List.forall_mem_cons, List.forall_mem_nil, Bool.not_true, Bool.not_false, Bool.not_eq_true, Nat.reduceLT, forall_const, implies_true, and_assoc, true_or, or_true, List.not_mem_nil, false_implies, Int.natCast_inj, not_true_eq_false, not_false_eq_true, and_false, false_and, po, map_fr_inj, fr_inj, shP, eqP, eqP0, sh0, shF, eqF, List.length_map, li, map_int_inj, shLZ, eqLZ, shL0, rngD_len]
          have er : ((x1.length : Int) - 1).toNat = x1.length - 1 := by omega
          have dl := der_len (ca x1)
          have tl := trim_len (ca x1).reverse
          rw [List.length_reverse] at tl
          rw [er]
          refine ⟨(List.range (x1.length - 1)).map fun (j : Nat) => ((1 + j : Nat) : Int) * iat x1 (1 + j), by rw [List.map_map]; rfl, by rw [List.length_map, List.length_range]; omega, der_eq x1, (ali_po (by omega) (mem_sz (der_hb sA.h (by omega)) (by decide))).2.1, x1.reverse, (List.map_reverse ..).symm, by rw [List.length_reverse]; omega, by rw [turn_eq], (ali_po (by omega) (mem_sz (by rw [← turn_eq]; exact (hb_ca fun x hx => m1 x (List.mem_reverse.mp hx)).trim) (by decide))).2.1, ?_⟩
          refine hu _ (hR19 _ ?_)
          clear hu ht hR19
          refine sq_gen fun R20 hR20 => ?_
          simp only [tdR, tdN, tdSq, tdE, tdIf, tdSet, tdF, tdRO, tdAsg, tdSub, tdAug, tdAugS, tdApp, tdPar, tdPar3, tdRaise, tV, tBo, tK, t2, t1, kI, kU, kEq, kEqS, kN, kIx, kST, kSL, kRv, kRvT, kCL, kCT, kRL, kRT, tCh, tTe, tNo, tAn, tOr', tAnV, DL.tOrV, kNo, tIfE, taC, tTp, tLs, tBi, kLen, kAbs, kMM, kInt, kTupc, kLisc, tSc, toN, toS, tOf, gNm, gNl, gCs, gTu, kIsi, kMn, kMx, kRp, tFz, tiS, tiO, tiR1, tiR2, tiRd, tiE, tCal, tCalB, startD, DL.startB, noIo_eq, nio_d, nio_un, nio_own, asD_d, asD_own, asD_io, CT, CNz, tYesD, ex0, tdFor, tdLc, wipeD, isDat_eq, dat_d, dat_un, Owns, setO, List.map_cons, List.map_nil, List.cons_append, List.nil_append, List.length_cons, List.length_nil, List.replicate, List.replicate_succ, List.replicate_zero, List.getElem?_cons_zero, List.getElem?_cons_succ, List.set_cons_zero, List.set_cons_succ, Option.some.injEq, SV.d.injEq, SV.own.injEq, SV.io.injEq, PyData.int.injEq, PyData.str.injEq, PyData.bool.injEq, PyData.tuple.injEq, PyData.list.injEq, exists_eq_left', exists_eq_left, exists_eq_right, exists_eq_right', exists_and_left, true_and, and_true, if_true, if_false, id, reduceCtorEq, false_or, or_false, exists_false, List.cons.injEq, and_self, SV.d.injEq, Nat.reduceAdd, Nat.reduceSub, ite_true, ite_false, decide_eq_true_eq, Bool.false_eq_true, exists_const, decide_true, decide_false, List.forall_mem_cons, List.forall_mem_nil, Bool.not_true, Bool.not_false, Bool.not_eq_true, Nat.reduceLT, forall_const, implies_true, and_assoc, true_or, or_true, List.not_mem_nil, false_implies, Int.natCast_inj, not_true_eq_false, not_false_eq_true, and_false, false_and, po, map_fr_inj, fr_inj, shP, eqP, eqP0, sh0, shF, eqF, List.length_map, li, map_int_inj, shLZ, eqLZ, shL0, sp__law_take, n21]
          refine ⟨⟨_, rfl⟩, _, k5, by omega, by decide, fun mv bag6 v0 v4 k6 => ?_⟩
          refine hR20 _ ?_
          clear hR20
          refine sq_gen fun R21 hR21 => if_gen fun Rt Ru ht hu => ?_
          obtain ⟨mn, rfl⟩ : ∃ mn : Nat, mv = mn := ⟨mv.toNat, by omega⟩
          suffices go : Ru [.un, .own bag6, .d (.int i), .d (.list (x1.map .int)), .d (.list (x2.map .int)), .d (.list (x3.map .int)), .d (.tuple ((ca x1).map fr)), .d (.tuple ((ca x2).map fr)), .d (.tuple ((ca x3).map fr)), .d due, s10, s11, s12, .d (.tuple ((G3 (ca x1) (ca x2) (ca x3)).map fr)), .d (.tuple ((mulE (mulE (ca x1) (ca x1)) (ca x3)).map fr)), s15, .d (fr q), .d (.int vo), .d (.int vu), s19, .un, .d (.int mn)] by
            simp only [tdR, tdN, tdSq, tdE, tdIf, tdSet, tdF, tdRO, tdAsg, tdSub, tdAug, tdAugS, tdApp, tdPar, tdPar3, tdRaise, tV, tBo, tK, t2, t1, kI, kU, kEq, kEqS, kN, kIx, kST, kSL, kRv, kRvT, kCL, kCT, kRL, kRT, tCh, tTe, tNo, tAn, tOr', tAnV, DL.tOrV, kNo, tIfE, taC, tTp, tLs, tBi, kLen, kAbs, kMM, kInt, kTupc, kLisc, tSc, toN, toS, tOf, gNm, gNl, gCs, gTu, kIsi, kMn, kMx, kRp, tFz, tiS, tiO, tiR1, tiR2, tiRd, tiE, tCal, tCalB, startD, DL.startB, noIo_eq, nio_d, nio_un, nio_own, asD_d, asD_own, asD_io, CT, CNz, tYesD, ex0, tdFor, tdLc, wipeD, isDat_eq, dat_d, dat_un, Owns, setO, List.map_cons, List.map_nil, List.cons_append, List.nil_append, List.length_cons, List.length_nil, List.replicate, List.replicate_succ, List.replicate_zero, List.getElem?_cons_zero, List.getElem?_cons_succ, List.set_cons_zero, List.set_cons_succ, Option.some.injEq, SV.d.injEq, SV.own.injEq, SV.io.injEq, PyData.int.injEq, PyData.str.injEq, PyData.bool.injEq, PyData.tuple.injEq, PyData.list.injEq, exists_eq_left', exists_eq_left, exists_eq_right, exists_eq_right', exists_and_left, true_and, and_true, if_true, if_false, id, reduceCtorEq, false_or, or_false, exists_false, List.cons.injEq, and_self, SV.d.injEq, Nat.reduceAdd, Nat.reduceSub, ite_true, ite_false, decide_eq_true_eq, Bool.false_eq_true, exists_const, decide_true, decide_false, List.forall_mem_cons, List.forall_mem_nil, Bool.not_true, Bool.not_false, Bool.not_eq_true, Nat.reduceLT, forall_const, implies_true, and_assoc, true_or, or_true, List.not_mem_nil, false_implies, Int.natCast_inj, not_true_eq_false, not_false_eq_true, and_false, false_and, po, map_fr_inj, fr_inj, shP, eqP, eqP0, sh0, shF, eqF, List.length_map, li, map_int_inj, shLZ, eqLZ, shL0, sp_shifted, sp__law_alike, sp__law_poly]
            refine ⟨by omega, by omega, Nat.zero_le _, ?_⟩
            by_cases hx1 : x1 = []
            · rw [decide_eq_true hx1, if_neg (by decide), if_pos (ca_nil.mpr hx1)]
              exact ⟨Nat.zero_le _, rfl, (ali_po (l := []) (by decide) (fun _ h => nomatch h)).2.1, go⟩
            · rw [decide_eq_false hx1, if_pos (by decide), if_neg (fun z => hx1 (ca_nil.mp z))]
              have eR : reps ((mn : Int)).toNat [PyData.int 0] = (List.replicate mn (0 : Int)).map PyData.int := by
                rw [Int.toNat_natCast, reps_int]
              rw [eR]
              refine ⟨by rw [sizeLine_eq]; decide, by omega, by omega, by rw [sizeLine_eq]; omega, by rw [List.length_map, List.length_replicate, sizeLine_eq]; omega, List.replicate mn 0 ++ x1, by rw [List.map_append], by rw [List.length_append, List.length_replicate]; omega, shift_eq tA hx1 mn, ?_, go⟩
              refine (ali_po (by rw [List.length_append, List.length_replicate]; omega) fun a ha => ?_).2.1
              rcases List.mem_append.mp ha with h | h
              · rw [(List.mem_replicate.mp h).2]; exact sz_zero
              · exact mem_sz sA.h (by decide) a h
          refine hu _ (hR21 _ (if_gen fun Rt Ru ht hu => ?_))
          clear hR21
          suffices fin : Ru [.un, .own bag6, .d (.int i), .d (.list (x1.map .int)), .d (.list (x2.map .int)), .d (.list (x3.map .int)), .d (.tuple ((ca x1).map fr)), .d (.tuple ((ca x2).map fr)), .d (.tuple ((ca x3).map fr)), .d due, s10, s11, s12, .d (.tuple ((G3 (ca x1) (ca x2) (ca x3)).map fr)), .d (.tuple ((mulE (mulE (ca x1) (ca x1)) (ca x3)).map fr)), s15, .d (fr q), .d (.int vo), .d (.int vu), s19, .un, .d (.int mn)] by
            simp only [tdR, tdN, tdSq, tdE, tdIf, tdSet, tdF, tdRO, tdAsg, tdSub, tdAug, tdAugS, tdApp, tdPar, tdPar3, tdRaise, tV, tBo, tK, t2, t1, kI, kU, kEq, kEqS, kN, kIx, kST, kSL, kRv, kRvT, kCL, kCT, kRL, kRT, tCh, tTe, tNo, tAn, tOr', tAnV, DL.tOrV, kNo, tIfE, taC, tTp, tLs, tBi, kLen, kAbs, kMM, kInt, kTupc, kLisc, tSc, toN, toS, tOf, gNm, gNl, gCs, gTu, kIsi, kMn, kMx, kRp, tFz, tiS, tiO, tiR1, tiR2, tiRd, tiE, tCal, tCalB, startD, DL.startB, noIo_eq, nio_d, nio_un, nio_own, asD_d, asD_own, asD_io, CT, CNz, tYesD, ex0, tdFor, tdLc, wipeD, isDat_eq, dat_d, dat_un, Owns, setO, List.map_cons, List.map_nil, List.cons_append, List.nil_append, List.length_cons, List.length_nil, List.replicate, List.replicate_succ, List.replicate_zero, List.getElem?_cons_zero, List.getElem?_cons_succ, List.set_cons_zero, List.set_cons_succ, Option.some.injEq, SV.d.injEq, SV.own.injEq, SV.io.injEq, PyData.int.injEq, PyData.str.injEq, PyData.bool.injEq, PyData.tuple.injEq, PyData.list.injEq, exists_eq_left', exists_eq_left, exists_eq_right, exists_eq_right', exists_and_left, true_and, and_true, if_true, if_false, id, reduceCtorEq, false_or, or_false, exists_false, List.cons.injEq, and_self, SV.d.injEq, Nat.reduceAdd, Nat.reduceSub, ite_true, ite_false, decide_eq_true_eq, Bool.false_eq_true, exists_const, decide_true, decide_false, List.forall_mem_cons, List.forall_mem_nil, Bool.not_true, Bool.not_false, Bool.not_eq_true, Nat.reduceLT, forall_const, implies_true, and_assoc, true_or, or_true, List.not_mem_nil, false_implies, Int.natCast_inj, not_true_eq_false, not_false_eq_true, and_false, false_and, po, map_fr_inj, fr_inj, shP, eqP, eqP0, sh0, shF, eqF, List.length_map, li, map_int_inj, shLZ, eqLZ, shL0, sp_lowest, sp_scaled]
            refine ⟨Nat.zero_le _, ?_⟩
            by_cases hx1 : x1 = []
            · rw [decide_eq_true hx1, if_neg (by decide)]; exact fin
            · rw [decide_eq_false hx1, if_pos (by decide)]
              have nA : ca x1 ≠ [] := fun z => hx1 (ca_nil.mp z)
              obtain ⟨k, g1, g2, g3⟩ := low_ex tA nA
              refine ⟨by omega, k, g1, g2, g3, by omega, by omega, ?_⟩
              rw [Int.toNat_natCast]
              refine lcb (fun i => (nzs (ca x1) i).map fun (i : Nat) => PyData.int (i : Int)) (by simp only [tdR, tdN, tdSq, tdE, tdIf, tdSet, tdF, tdRO, tdAsg, tdSub, tdAug, tdAugS, tdApp, tdPar, tdPar3, tdRaise, tV, tBo, tK, t2, t1, kI, kU, kEq, kEqS, kN, kIx, kST, kSL, kRv, kRvT, kCL, kCT, kRL, kRT, tCh, tTe, tNo, tAn, tOr', tAnV, DL.tOrV, kNo, tIfE, taC, tTp, tLs, tBi, kLen, kAbs, kMM, kInt, kTupc, kLisc, tSc, toN, toS, tOf, gNm, gNl, gCs, gTu, kIsi, kMn, kMx, kRp, tFz, tiS, tiO, tiR1, tiR2, tiRd, tiE, tCal, tCalB, startD, DL.startB, noIo_eq, nio_d, nio_un, nio_own, asD_d, asD_own, asD_io, CT, CNz, tYesD, ex0, tdFor, tdLc, wipeD, isDat_eq, dat_d, dat_un, Owns, setO, List.map_cons, List.map_nil, List.cons_append, List.nil_append, List.length_cons, List.length_nil, List.replicate, List.replicate_succ, List.replicate_zero, List.getElem?_cons_zero, List.getElem?_cons_succ, List.set_cons_zero, List.set_cons_succ, Option.some.injEq, SV.d.injEq, SV.own.injEq, SV.io.injEq, PyData.int.injEq, PyData.str.injEq, PyData.bool.injEq, PyData.tuple.injEq, PyData.list.injEq, exists_eq_left', exists_eq_left, exists_eq_right, exists_eq_right', exists_and_left, true_and, and_true, if_true, if_false, id, reduceCtorEq, false_or, or_false, exists_false, List.cons.injEq, and_self, SV.d.injEq, Nat.reduceAdd, Nat.reduceSub, ite_true, ite_false, decide_eq_true_eq, Bool.false_eq_true, exists_const, decide_true, decide_false, List.forall_mem_cons, List.forall_mem_nil, Bool.not_true, Bool.not_false, Bool.not_eq_true, Nat.reduceLT, forall_const, implies_true, and_assoc, true_or, or_true, List.not_mem_nil, false_implies, Int.natCast_inj, not_true_eq_false, not_false_eq_true, and_false, false_and]) (fun _ e => nomatch e) rfl (fun i x hx => ?_) ?_
              · obtain ⟨hi, rfl⟩ := rngD_nat hx
                simp only [tdR, tdN, tdSq, tdE, tdIf, tdSet, tdF, tdRO, tdAsg, tdSub, tdAug, tdAugS, tdApp, tdPar, tdPar3, tdRaise, tV, tBo, tK, t2, t1, kI, kU, kEq, kEqS, kN, kIx, kST, kSL, kRv, kRvT, kCL, kCT, kRL, kRT, tCh, tTe, tNo, tAn, tOr', tAnV, DL.tOrV, kNo, tIfE, taC, tTp, tLs, tBi, kLen, kAbs, kMM, kInt, kTupc, kLisc, tSc, toN, toS, tOf, gNm, gNl, gCs, gTu, kIsi, kMn, kMx, kRp, tFz, tiS, tiO, tiR1, tiR2, tiRd, tiE, tCal, tCalB, startD, DL.startB, noIo_eq, nio_d, nio_un, nio_own, asD_d, asD_own, asD_io, CT, CNz, tYesD, ex0, tdFor, tdLc, wipeD, isDat_eq, dat_d, dat_un, Owns, setO, List.map_cons, List.map_nil, List.cons_append, List.nil_append, List.length_cons, List.length_nil, List.replicate, List.replicate_succ, List.replicate_zero, List.getElem?_cons_zero, List.getElem?_cons_succ, List.set_cons_zero, List.set_cons_succ, Option.some.injEq, SV.d.injEq, SV.own.injEq, SV.io.injEq, PyData.int.injEq, PyData.str.injEq, PyData.bool.injEq, PyData.tuple.injEq, PyData.list.injEq, exists_eq_left', exists_eq_left, exists_eq_right, exists_eq_right', exists_and_left, true_and, and_true, if_true, if_false, id, reduceCtorEq, false_or, or_false, exists_false, List.cons.injEq, and_self, SV.d.injEq, Nat.reduceAdd, Nat.reduceSub, ite_true, ite_false, decide_eq_true_eq, Bool.false_eq_true, exists_const, decide_true, decide_false, List.forall_mem_cons, List.forall_mem_nil, Bool.not_true, Bool.not_false, Bool.not_eq_true, Nat.reduceLT, forall_const, implies_true, and_assoc, true_or, or_true, List.not_mem_nil, false_implies, Int.natCast_inj, not_true_eq_false, not_false_eq_true, and_false, false_and, po, map_fr_inj, fr_inj, shP, eqP, eqP0, sh0, shF, eqF, List.length_map, li, map_int_inj, shLZ, eqLZ, shL0]
                refine ⟨_, atI_int hi, rfl, rfl, ?_⟩
                have ez : PyData.eqv (.int (iat x1 i)) (.int 0) = decide (iat x1 i = 0) := rfl
                rw [ez, nzs_succ]
                by_cases e : iat x1 i = 0
                · rw [decide_eq_true e, if_neg (by decide), if_pos (ca_zero.mpr e), List.append_nil]
                · rw [decide_eq_false e, if_pos (by decide), if_neg (fun z => e (ca_zero.mp z)), List.map_append]
                  exact ⟨lt_size (Nat.le_trans (nzs_len (ca x1) i) (by omega)), rfl⟩
              · simp only [tdR, tdN, tdSq, tdE, tdIf, tdSet, tdF, tdRO, tdAsg, tdSub, tdAug, tdAugS, tdApp, tdPar, tdPar3, tdRaise, tV, tBo, tK, t2, t1, kI, kU, kEq, kEqS, kN, kIx, kST, kSL, kRv, kRvT, kCL, kCT, kRL, kRT, tCh, tTe, tNo, tAn, tOr', tAnV, DL.tOrV, kNo, tIfE, taC, tTp, tLs, tBi, kLen, kAbs, kMM, kInt, kTupc, kLisc, tSc, toN, toS, tOf, gNm, gNl, gCs, gTu, kIsi, kMn, kMx, kRp, tFz, tiS, tiO, tiR1, tiR2, tiRd, tiE, tCal, tCalB, startD, DL.startB, noIo_eq, nio_d, nio_un, nio_own, asD_d, asD_own, asD_io, CT, CNz, tYesD, ex0, tdFor, tdLc, wipeD, isDat_eq, dat_d, dat_un, Owns, setO, List.map_cons, List.map_nil, List.cons_append, List.nil_append, List.length_cons, List.length_nil, List.replicate, List.replicate_succ, List.replicate_zero, List.getElem?_cons_zero, List.getElem?_cons_succ, List.set_cons_zero, List.set_cons_succ, Option.some.injEq, SV.d.injEq, SV.own.injEq, SV.io.injEq, PyData.int.injEq, PyData.str.injEq, PyData.bool.injEq, PyData.tuple.injEq, PyData.list.injEq, exists_eq_left', exists_eq_left, exists_eq_right, exists_eq_right', exists_and_left, true_and, and_true, if_true, if_false, id, reduceCtorEq, false_or, or_false, exists_false, List.cons.injEq, and_self, SV.d.injEq, Nat.reduceAdd, Nat.reduceSub, ite_true, ite_false, decide_eq_true_eq, Bool.false_eq_true, exists_const, decide_true, decide_false, List.forall_mem_cons, List.forall_mem_nil, Bool.not_true, Bool.not_false, Bool.not_eq_true, Nat.reduceLT, forall_const, implies_true, and_assoc, true_or, or_true, List.not_mem_nil, false_implies, Int.natCast_inj, not_true_eq_false, not_false_eq_true, and_false, false_and, po, map_fr_inj, fr_inj, shP, eqP, eqP0, sh0, shF, eqF, List.length_map, li, map_int_inj, shLZ, eqLZ, shL0, rngD_len]
                have el : x1.length = (ca x1).length := by rw [ca_len]
                rw [el]
                refine ⟨(nzs (ca x1) (ca x1).length).map fun (i : Nat) => (i : Int), by rw [List.map_map]; rfl, List.length_pos_iff.mpr fun z => ?_, fun m hm hl => ⟨rfl, rfl, ?_⟩⟩
                · have q1 : k ∈ nzs (ca x1) (ca x1).length := nzs_mem.mpr ⟨g1, g2⟩
                  rw [List.map_eq_nil_iff.mp z] at q1
                  cases q1
                · have em := min_eq g1 g2 g3 hm hl
                  have ez : PyData.eqv (.int (k : Int)) (.int m) = true := by rw [em]; exact decide_eq_true rfl
                  rw [ez, if_neg (by decide)]
                  refine ⟨sizes2, 0, rfl, mA, sm_zero, by omega, Nat.zero_le _, ?_⟩
                  rw [if_pos rfl, decide_eq_true rfl, if_neg (by decide)]
                  exact fin
          refine hu _ ?_
          unfold tdN
          exact ⟨.d (.int i), .d (.list (x1.map .int)), .d (.list (x2.map .int)), .d (.list (x3.map .int)), .d (.tuple ((ca x1).map fr)), .d (.tuple ((ca x2).map fr)), .d (.tuple ((ca x3).map fr)), .d due, s10, s11, s12, .d (.tuple ((G3 (ca x1) (ca x2) (ca x3)).map fr)), .d (.tuple ((mulE (mulE (ca x1) (ca x1)) (ca x3)).map fr)), s15, .d (fr q), .d (.int vo), .d (.int vu), s19, .un, .d (.int mn), bag6, ⟨trivial, trivial, trivial, trivial, trivial, trivial, trivial, trivial, d10, d11, d12, trivial, trivial, d15, trivial, trivial, trivial, d19, trivial, trivial⟩, k6.mono (by omega), rfl⟩
end
end K70
namespace K70
open PySem PySem.Spec L2 DL
open PyProof.Rows hiding St

section
variable {w : World} {K : PySem.W.Frag} {mg : Str → Option Value} {base h : Heap} {CN : Addr}
def s_bag : Stmt := nthS pw.main.body 34
theorem sc_bag : FnScope ["script", "cell"] ["script"] (defScope s_bag) := ⟨rfl, rfl, rfl, by decide +kernel, rfl, by decide +kernel, by decide +kernel⟩
theorem ok_bag {f : Addr} {fd : FuncData} (F : Fun K "_law_bag" "_law_bag" s_bag f fd) (ha : mg "abs" = none) : FnOk pw w K mg base (L2.CX pw w) 2 f fd ["script"] (spBag K) := by
  refine F.okX sc_bag (fun vs H Q E h => h.1) fun cdv A outer s H vs Q E hr h => ⟨tBag K, ?_, ?_⟩
  · exact pss_one (ps_ret (pe_lst (pa_cons pe_int (pa_cons pe_int (pa_cons pe_int (pa_cons (pe_lc (own := [("cell", 1)]) rfl sc_bag.nd (pi_seq (pe_slice sl_list (pv 0) po_none (po_some pe_int))) (blkOk_by (by kernel_rfl)) (fun _ _ _ _ _ => pg_name (i := 1) sc_bag.nd rfl (Or.inl rfl)) (fun _ _ _ _ _ => pts_nil) (fun _ _ _ _ _ => pe_callB call_abs (by rfl) ha (by decide +kernel) (pa_cons (pv 1) pa_nil))) pa_nil))))))
  · obtain ⟨_, a, ns, rfl, hS, hl, hq⟩ := h
    exact bag_read hS hl hq
theorem top_mk {x : Str} {st : Stmt} {f : Addr} {oc : Value} {od an : Option Addr} {sl : Array (Option Value)} {kV dc pm cd ct : Value} (X : K.In h) (G : h.Ns mainGlobals mg) (a : PySem.W.nsIn K mainGlobals x = some (some (.ref f)))
    (l : K.lookup f = some ⟨oc, od, .func (PySem.W.fnOf x x (defArgs st) (defBody st) (defScope st) .none kV dc pm an cd ct), sl⟩) (c : PySem.W.codeIn K cd x = true) (k : PySem.W.keepIn K (.ref f) = true) : TopF K mg x st :=
  ⟨f, _, fun_mk (st := st) l c k, PySem.W.mg_of X G a⟩
theorem con_mk {x : Str} {y : D} {p : Addr} {od : Option Addr} {sl : Array (Option Value)} {i j : Int} {t1 t2 : Tok} {n : Nat} (X : K.In h) (G : h.Ns mainGlobals mg) (a : PySem.W.nsIn K mainGlobals x = some (some (.ref p)))
    (l : K.lookup p = some ⟨.type "tuple", od, .seq #[.int i t1, .int j t2] n, sl⟩) (hy : y = .tuple [.int i, .int j]) : ConD K mg x y := by
  subst hy
  exact ⟨p, PySem.W.mg_of X G a, fun H A => .tup (.inr ⟨_, _, _, l, rfl, rfl, by show 2 ≤ sizeLine; rw [sizeLine_eq]; decide, (.cons (show L2.RelV (.int i) (.int i t1) from ⟨_, rfl⟩) (.cons (show L2.RelV (.int j) (.int j t2) from ⟨_, rfl⟩) .nil))⟩) (.cons (.int i) (.cons (.int j) .nil))⟩
theorem exmI {S : Addr} (b : PySem.W.subIn K (.ref S) (.type "BaseException") = some true) (i : PySem.W.isClsIn K S = true) (t : PySem.W.typeIn K (.ref S) = some (.type "type")) (s : PySem.W.subIn K (.ref S) (.ref S) = some true) : PySem.W.exmOne K (.ref S) (.ref S) = some true := by
  unfold PySem.W.isClsIn at i
  unfold PySem.W.exmOne PySem.W.kitCls
  simp [b, i, t, s]
theorem exc_mk {x : Str} {C : Addr} (X : K.In h) (G : h.Ns mainGlobals mg) (a : PySem.W.nsIn K mainGlobals x = some (some (.ref C))) (q : PySem.W.excIn K C [.type "ValueError", .type "Exception", .type "BaseException", .type "object"] "ValueError.__new__" = true)
    (k : PySem.W.keepIn K (.ref C) = true) (b : PySem.W.subIn K (.ref C) (.type "BaseException") = some true) (t : PySem.W.typeIn K (.ref C) = some (.type "type")) (i : PySem.W.isClsIn K C = true) (s : PySem.W.subIn K (.ref C) (.ref C) = some true) : ExcD K mg x C :=
  ⟨PySem.W.mg_of X G a, q, k, b, t, exmI b i t s⟩
theorem end_mk {fa f : Addr} {oc : Value} {od an : Option Addr} {sl : Array (Option Value)} {kV dc pm cd ct : Value} (hfa : mg "law" = some (.ref fa)) (X : K.In h) (G : h.Ns mainGlobals mg) (T : ∃ CN, Txt K mg CN) (TB : TopF K mg "_law_bag" s_bag) (a : PySem.W.nsIn K mainGlobals "law" = some (some (.ref f)))
    (l : K.lookup f = some ⟨oc, od, .func (PySem.W.fnOf "law" "law" (defArgs s_law) (defBody s_law) (defScope s_law) .none kV dc pm an cd ct), sl⟩) (c : PySem.W.codeIn K cd "law" = true) (k : PySem.W.keepIn K (.ref f) = true) :
    ∃ fd : FuncData, (∀ (s : Shared) (u : Value), BindsTo s fd ⟨[u], []⟩ [("script", u)]) ∧
      ∀ base : Heap, K.In base → base.Ns mainGlobals mg → base.NoSeer → FnG pw w K mg base (L2.CX pw w) 45 fa fd ["script"] (spLaw K 63) := by
  have e := hfa.symm.trans (PySem.W.mg_of X G a)
  cases e
  obtain ⟨CN, T⟩ := T
  obtain ⟨g, gd, Fb, hg⟩ := TB.ex
  refine ⟨_, fun s u => .of_eq rfl, fun base _ _ hS => ok_law T hS ⟨g, gd, ok_bag Fb T.b_abs, hg, Fb.kp, Fb.binds (ps := ["script"]) fun _ _ _ _ _ _ us hl => match us, hl with | [_], _ => rfl⟩ (fun_mk (st := s_law) l c k)⟩
end
end K70
open PySem PySem.W PyProof.Rows
set_option maxRecDepth 100000 in
set_option maxHeartbeats 0 in
theorem PySem.Challenge.cw_streamwebs_k70_polynomials_holds : PySem.Challenge.rw_streamwebs_k70_polynomials.Holds := by
  w_on; o_law; k_head; (case hw => w_witness2)
  k_fill
  refine DL.walk_ofG (l := PySem.Challenge.rw_streamwebs_k70_polynomials) (n := 63) (k := 45) (x := "script") rfl (by decide) rfl ⟨rfl, by decide, by decide⟩ (by decide) (fun w h Y => PySem.W.kIn_of Y) ?F
  case F =>
    intro w mg fa h KX G hmg
    refine' K70.end_mk hmg KX G ⟨_, ?T⟩ ?TB ?la ?ll ?lc ?lk
    case T =>
      refine' ⟨?b_abs, ?b_bool, ?b_enumerate, ?b_int, ?b_isinstance, ?b_len, ?b_list, ?b_max, ?b_min, ?b_range, ?b_repr, ?b_tuple, ?c_NIL, ?c_UNIT, ?e_Nothing, ?f_is_int, ?f_common_divisor, ?f_made, ?f_plus, ?f_times, ?f_over_by, ?f_is_count, ?f_trimmed, ?f_term, ?f_opposite, ?f_poly_plus, ?f_poly_minus, ?f_scaled, ?f_shifted, ?f_poly_times, ?f_to_power, ?f_divided, ?f_with_unit, ?f_common, ?f_value_at, ?f_derived, ?f_squarefree, ?f_lowest, ?f_turned, ?f__law_take, ?f__law_alike, ?f__law_gcd, ?f__law_fraction, ?f__law_trim, ?f__law_padd, ?f__law_pneg, ?f__law_pmul, ?f__law_poly, ?f__law_ints, ?f__law_made⟩
      case b_abs => refine' PySem.W.mg_none_of KX G ?z_abs; (case z_abs => k_is)
      case b_bool => refine' PySem.W.mg_none_of KX G ?z_bool; (case z_bool => k_is)
      case b_enumerate => refine' PySem.W.mg_none_of KX G ?z_enumerate; (case z_enumerate => k_is)
      case b_int => refine' PySem.W.mg_none_of KX G ?z_int; (case z_int => k_is)
      case b_isinstance => refine' PySem.W.mg_none_of KX G ?z_isinstance; (case z_isinstance => k_is)
      case b_len => refine' PySem.W.mg_none_of KX G ?z_len; (case z_len => k_is)
      case b_list => refine' PySem.W.mg_none_of KX G ?z_list; (case z_list => k_is)
      case b_max => refine' PySem.W.mg_none_of KX G ?z_max; (case z_max => k_is)
      case b_min => refine' PySem.W.mg_none_of KX G ?z_min; (case z_min => k_is)
      case b_range => refine' PySem.W.mg_none_of KX G ?z_range; (case z_range => k_is)
      case b_repr => refine' PySem.W.mg_none_of KX G ?z_repr; (case z_repr => k_is)
      case b_tuple => refine' PySem.W.mg_none_of KX G ?z_tuple; (case z_tuple => k_is)
      case c_NIL => refine' K70.con_mk KX G ?a_NIL ?l_NIL ?y_NIL; (case a_NIL => k_is); (case l_NIL => k_is); (case y_NIL => rfl)
      case c_UNIT => refine' K70.con_mk KX G ?a_UNIT ?l_UNIT ?y_UNIT; (case a_UNIT => k_is); (case l_UNIT => k_is); (case y_UNIT => rfl)
      case e_Nothing => refine' K70.exc_mk KX G ?xa ?xq ?xk ?xb ?xt ?xi ?xs; (case xa => k_is); (case xq => k_exc); (case xk => k_is); (case xb => k_is); (case xt => k_is); (case xi => k_is); (case xs => first | rfl | k_is)
      case f_is_int => refine' K70.top_mk KX G ?a1is_int ?l1is_int ?c1is_int ?k1is_int; (case a1is_int => k_is); (case l1is_int => k_is); (case c1is_int => k_is); (case k1is_int => k_is)
      case f_common_divisor => refine' K70.top_mk KX G ?a1common_divisor ?l1common_divisor ?c1common_divisor ?k1common_divisor; (case a1common_divisor => k_is); (case l1common_divisor => k_is); (case c1common_divisor => k_is); (case k1common_divisor => k_is)
      case f_made => refine' K70.top_mk KX G ?a1made ?l1made ?c1made ?k1made; (case a1made => k_is); (case l1made => k_is); (case c1made => k_is); (case k1made => k_is)
      case f_plus => refine' K70.top_mk KX G ?a1plus ?l1plus ?c1plus ?k1plus; (case a1plus => k_is); (case l1plus => k_is); (case c1plus => k_is); (case k1plus => k_is)
      case f_times => refine' K70.top_mk KX G ?a1times ?l1times ?c1times ?k1times; (case a1times => k_is); (case l1times => k_is); (case c1times => k_is); (case k1times => k_is)
      case f_over_by => refine' K70.top_mk KX G ?a1over_by ?l1over_by ?c1over_by ?k1over_by; (case a1over_by => k_is); (case l1over_by => k_is); (case c1over_by => k_is); (case k1over_by => k_is)
      case f_is_count => refine' K70.top_mk KX G ?a1is_count ?l1is_count ?c1is_count ?k1is_count; (case a1is_count => k_is); (case l1is_count => k_is); (case c1is_count => k_is); (case k1is_count => k_is)
      case f_trimmed => refine' K70.top_mk KX G ?a1trimmed ?l1trimmed ?c1trimmed ?k1trimmed; (case a1trimmed => k_is); (case l1trimmed => k_is); (case c1trimmed => k_is); (case k1trimmed => k_is)
      case f_term => refine' K70.top_mk KX G ?a1term ?l1term ?c1term ?k1term; (case a1term => k_is); (case l1term => k_is); (case c1term => k_is); (case k1term => k_is)
      case f_opposite => refine' K70.top_mk KX G ?a1opposite ?l1opposite ?c1opposite ?k1opposite; (case a1opposite => k_is); (case l1opposite => k_is); (case c1opposite => k_is); (case k1opposite => k_is)
      case f_poly_plus => refine' K70.top_mk KX G ?a1poly_plus ?l1poly_plus ?c1poly_plus ?k1poly_plus; (case a1poly_plus => k_is); (case l1poly_plus => k_is); (case c1poly_plus => k_is); (case k1poly_plus => k_is)
      case f_poly_minus => refine' K70.top_mk KX G ?a1poly_minus ?l1poly_minus ?c1poly_minus ?k1poly_minus; (case a1poly_minus => k_is); (case l1poly_minus => k_is); (case c1poly_minus => k_is); (case k1poly_minus => k_is)
      case f_scaled => refine' K70.top_mk KX G ?a1scaled ?l1scaled ?c1scaled ?k1scaled; (case a1scaled => k_is); (case l1scaled => k_is); (case c1scaled => k_is); (case k1scaled => k_is)
      case f_shifted => refine' K70.top_mk KX G ?a1shifted ?l1shifted ?c1shifted ?k1shifted; (case a1shifted => k_is); (case l1shifted => k_is); (case c1shifted => k_is); (case k1shifted => k_is)
      case f_poly_times => refine' K70.top_mk KX G ?a1poly_times ?l1poly_times ?c1poly_times ?k1poly_times; (case a1poly_times => k_is); (case l1poly_times => k_is); (case c1poly_times => k_is); (case k1poly_times => k_is)
      case f_to_power => refine' K70.top_mk KX G ?a1to_power ?l1to_power ?c1to_power ?k1to_power; (case a1to_power => k_is); (case l1to_power => k_is); (case c1to_power => k_is); (case k1to_power => k_is)
      case f_divided => refine' K70.top_mk KX G ?a1divided ?l1divided ?c1divided ?k1divided; (case a1divided => k_is); (case l1divided => k_is); (case c1divided => k_is); (case k1divided => k_is)
      case f_with_unit => refine' K70.top_mk KX G ?a1with_unit ?l1with_unit ?c1with_unit ?k1with_unit; (case a1with_unit => k_is); (case l1with_unit => k_is); (case c1with_unit => k_is); (case k1with_unit => k_is)
      case f_common => refine' K70.top_mk KX G ?a1common ?l1common ?c1common ?k1common; (case a1common => k_is); (case l1common => k_is); (case c1common => k_is); (case k1common => k_is)
      case f_value_at => refine' K70.top_mk KX G ?a1value_at ?l1value_at ?c1value_at ?k1value_at; (case a1value_at => k_is); (case l1value_at => k_is); (case c1value_at => k_is); (case k1value_at => k_is)
      case f_derived => refine' K70.top_mk KX G ?a1derived ?l1derived ?c1derived ?k1derived; (case a1derived => k_is); (case l1derived => k_is); (case c1derived => k_is); (case k1derived => k_is)
      case f_squarefree => refine' K70.top_mk KX G ?a1squarefree ?l1squarefree ?c1squarefree ?k1squarefree; (case a1squarefree => k_is); (case l1squarefree => k_is); (case c1squarefree => k_is); (case k1squarefree => k_is)
      case f_lowest => refine' K70.top_mk KX G ?a1lowest ?l1lowest ?c1lowest ?k1lowest; (case a1lowest => k_is); (case l1lowest => k_is); (case c1lowest => k_is); (case k1lowest => k_is)
      case f_turned => refine' K70.top_mk KX G ?a1turned ?l1turned ?c1turned ?k1turned; (case a1turned => k_is); (case l1turned => k_is); (case c1turned => k_is); (case k1turned => k_is)
      case f__law_take => refine' K70.top_mk KX G ?a1_law_take ?l1_law_take ?c1_law_take ?k1_law_take; (case a1_law_take => k_is); (case l1_law_take => k_is); (case c1_law_take => k_is); (case k1_law_take => k_is)
      case f__law_alike => refine' K70.top_mk KX G ?a1_law_alike ?l1_law_alike ?c1_law_alike ?k1_law_alike; (case a1_law_alike => k_is); (case l1_law_alike => k_is); (case c1_law_alike => k_is); (case k1_law_alike => k_is)
      case f__law_gcd => refine' K70.top_mk KX G ?a1_law_gcd ?l1_law_gcd ?c1_law_gcd ?k1_law_gcd; (case a1_law_gcd => k_is); (case l1_law_gcd => k_is); (case c1_law_gcd => k_is); (case k1_law_gcd => k_is)
      case f__law_fraction => refine' K70.top_mk KX G ?a1_law_fraction ?l1_law_fraction ?c1_law_fraction ?k1_law_fraction; (case a1_law_fraction => k_is); (case l1_law_fraction => k_is); (case c1_law_fraction => k_is); (case k1_law_fraction => k_is)
      case f__law_trim => refine' K70.top_mk KX G ?a1_law_trim ?l1_law_trim ?c1_law_trim ?k1_law_trim; (case a1_law_trim => k_is); (case l1_law_trim => k_is); (case c1_law_trim => k_is); (case k1_law_trim => k_is)
      case f__law_padd => refine' K70.top_mk KX G ?a1_law_padd ?l1_law_padd ?c1_law_padd ?k1_law_padd; (case a1_law_padd => k_is); (case l1_law_padd => k_is); (case c1_law_padd => k_is); (case k1_law_padd => k_is)
      case f__law_pneg => refine' K70.top_mk KX G ?a1_law_pneg ?l1_law_pneg ?c1_law_pneg ?k1_law_pneg; (case a1_law_pneg => k_is); (case l1_law_pneg => k_is); (case c1_law_pneg => k_is); (case k1_law_pneg => k_is)
      case f__law_pmul => refine' K70.top_mk KX G ?a1_law_pmul ?l1_law_pmul ?c1_law_pmul ?k1_law_pmul; (case a1_law_pmul => k_is); (case l1_law_pmul => k_is); (case c1_law_pmul => k_is); (case k1_law_pmul => k_is)
      case f__law_poly => refine' K70.top_mk KX G ?a1_law_poly ?l1_law_poly ?c1_law_poly ?k1_law_poly; (case a1_law_poly => k_is); (case l1_law_poly => k_is); (case c1_law_poly => k_is); (case k1_law_poly => k_is)
      case f__law_ints => refine' K70.top_mk KX G ?a1_law_ints ?l1_law_ints ?c1_law_ints ?k1_law_ints; (case a1_law_ints => k_is); (case l1_law_ints => k_is); (case c1_law_ints => k_is); (case k1_law_ints => k_is)
      case f__law_made => refine' K70.top_mk KX G ?a1_law_made ?l1_law_made ?c1_law_made ?k1_law_made; (case a1_law_made => k_is); (case l1_law_made => k_is); (case c1_law_made => k_is); (case k1_law_made => k_is)
    case TB => refine' K70.top_mk KX G ?a1bag ?l1bag ?c1bag ?k1bag; (case a1bag => k_is); (case l1bag => k_is); (case c1bag => k_is); (case k1bag => k_is)
    (case la => k_is); (case ll => k_is); (case lc => k_is); (case lk => k_is)

