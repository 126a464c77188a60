import PyProof.Rows.All
import Wide.All
import OpenK.AllK
import Wide.FinOn
import HandS.ForMost
import HandS.Exc
import HandS.ExcOwn
import HandS.TryOnly
import HandS.Lambda
import HandS.EndTab
import HandS.IsInst
import HandS.TupMul
import HandS.TupAny
import HandS.Conv
import HandS.Flow
import HandS.Style
import HandS.Wide
import HandS.Defaults
import HandS.WordsExc
import PyProof.ListMulRoad
import PyProof.FactsAll.tuple_2
import HandS.Zip
import HandS.ExcIs
import HandS.HeadWalk
import KE.KNestM
import HandS.CallLocal
import PySem.Challenge.RW_rootsbydigits_k02_whole_sums_of_polys
set_option Elab.async false
set_option linter.all false
set_option maxRecDepth 100000
set_option maxHeartbeats 2000000
/-! The data layer: values as trees without addresses. -/
namespace L3
open PySem PySem.Spec L2

/-- a value as a tree -/
inductive D where
  | non | bl (b : Bool) | int (i : Int) | str (x : Str)
  | tup (ds : List D) | lst (ds : List D) | dct | obj (v : V)

/-- the lists that nobody will change any more -/
abbrev Gh := Addr → Option (List V)

/-- what stays: all but lists, dicts, sets, instances that are one's own -/
def Rigid : HO → Prop
  | .lst _ => False
  | .dK _ => False
  | .dT _ => False
  | .set _ _ => False
  | .ins _ _ _ => False
  | .tbl _ => False
  | _ => True
/-- the part of the heap that draws and tables change -/
structure Wd where
  vol : Addr → Prop
  ok : Hp → Prop
  loc : ∀ H H' : Hp, (∀ b o, H b = some o → (vol b ∨ Rigid o) → H' b = some o) → (∀ b ps, H' b = some (.tbl ps) → H b = some (.tbl ps)) → ok H → ok H'
  there : ∀ H b, ok H → vol b → ∃ o, H b = some o ∧ ¬ Rigid o
mutual
def At (K : PySem.W.Frag) (W : Wd) (H : Hp) (G : Gh) : D → V → Prop
  | .non, v => v = .non
  | .bl b, v => v = .bl b
  | .int i, v => v = .int i
  | .str x, v => v = .str x
  | .tup ds, v => ∃ a vs, v = .ref a ∧ SqT K H a vs ∧ Ats K W H G ds vs
  | .lst ds, v => ∃ a vs, v = .ref a ∧ G a = some vs ∧ Ats K W H G ds vs
  | .dct, v => ∃ a, v = .ref a ∧ H a = some (.dK []) ∧ ¬ W.vol a
  | .obj u, v => v = u
def Ats (K : PySem.W.Frag) (W : Wd) (H : Hp) (G : Gh) : List D → List V → Prop
  | [], vs => vs = []
  | d :: ds, vs => ∃ v r, vs = v :: r ∧ At K W H G d v ∧ Ats K W H G ds r
end
mutual
/-- no list, no dict within -/
def noL : D → Bool
  | .lst _ => false
  | .dct => false
  | .tup ds => noLs ds
  | _ => true
def noLs : List D → Bool
  | [] => true
  | d :: ds => noL d && noLs ds
end

structure Ct where
  K : PySem.W.Frag
  W : Wd
  H0 : Hp
  G0 : Gh
  mg : Str → Option Value

structure Ext (W : Wd) (H : Hp) (G : Gh) (H' : Hp) (G' : Gh) : Prop where
  same : ∀ b o, ¬ W.vol b → H b = some o → H' b = some o
  g : ∀ a vs, G a = some vs → G' a = some vs
  new : ∀ a vs, G' a = some vs → G a = some vs ∨ (H a = none ∧ H' a = some (.lst vs))
  ok : W.ok H'

/-- the frozen lists stand -/
structure GhOk (W : Wd) (H : Hp) (G : Gh) : Prop where
  at_ : ∀ a vs, G a = some vs → H a = some (.lst vs) ∧ ¬ W.vol a
  ok : W.ok H

/-- an expression's result: a value that may be kept, a new list of one's own, a list that a name holds -/
inductive R where
  | val (d : D) | own (ds : List D) | bor (ds : List D)
@[simp] def R.data : R → D
  | .val d => d
  | .own ds => .lst ds
  | .bor ds => .lst ds
def Rep (C : Ct) (Hs H : Hp) (G : Gh) : R → V → Prop
  | .val d, v => At C.K C.W H G d v
  | .own ds, v => ∃ a vs, v = .ref a ∧ Hs a = none ∧ H a = some (.lst vs) ∧ G a = none ∧ Ats C.K C.W H G ds vs
  | .bor ds, v => ∃ a vs, v = .ref a ∧ C.H0 a = none ∧ ¬ C.W.vol a ∧ H a = some (.lst vs) ∧ G a = none ∧ Ats C.K C.W H G ds vs

/-- a slot's content -/
inductive Sl where
  | val (d : D) | own (ds : List D)
def SlAt (C : Ct) (H : Hp) (G : Gh) : Sl → V → Prop
  | .val d, v => At C.K C.W H G d v
  | .own ds, v => ∃ a vs, v = .ref a ∧ C.H0 a = none ∧ ¬ C.W.vol a ∧ H a = some (.lst vs) ∧ G a = none ∧ Ats C.K C.W H G ds vs
abbrev De := List (Option Sl)

structure Frm (C : Ct) (H : Hp) (G : Gh) (σ : St) (δ : De) : Prop where
  len : σ.length = δ.length
  gh : GhOk C.W H G
  h0 : C.W.ok C.H0
  ext : Ext C.W C.H0 C.G0 H G
  sl : ∀ (i : Nat) (s : Sl), δ[i]? = some (some s) → ∃ v, σ[i]? = some (some v) ∧ SlAt C H G s v
  ap : ∀ (i j : Nat) (ds es : List D) (v : V), δ[i]? = some (some (.own ds)) → δ[j]? = some (some (.own es)) → σ[i]? = some (some v) → σ[j]? = some (some v) → i = j

section
variable {K : PySem.W.Frag} {W : Wd} {C : Ct} {H H' H1 H2 Hs Hs' : Hp} {G G' G1 G2 : Gh} {σ : St} {δ : De}
theorem Ext.refl (h : W.ok H) : Ext W H G H G := ⟨fun _ _ _ h => h, fun _ _ h => h, fun _ _ h => .inl h, h⟩
theorem Wd.some_of (W : Wd) (h : W.ok H) {a : Addr} (q : H a = none) : ¬ W.vol a := fun hv => by
  obtain ⟨o, e, _⟩ := W.there H a h hv
  rw [q] at e; cases e
theorem Wd.rigid (W : Wd) (h : W.ok H) {a : Addr} {o : HO} (q : H a = some o) (r : Rigid o) : ¬ W.vol a := fun hv => by
  obtain ⟨u, e, n⟩ := W.there H a h hv
  rw [q] at e; cases e; exact n r
theorem Ext.free (e : Ext W H G H' G') {a : Addr} (h : H' a = none) : H a = none := by
  cases q : H a with
  | none => rfl
  | some o => rw [e.same a o (W.some_of e.ok h) q] at h; cases h
theorem Ext.trans (a : Ext W H G H1 G1) (b : Ext W H1 G1 H2 G2) (hok : W.ok H) : Ext W H G H2 G2 := by
  refine ⟨fun c o n h => b.same c o n (a.same c o n h), fun c vs h => b.g c vs (a.g c vs h), fun c vs h => ?_, b.ok⟩
  rcases b.new c vs h with h1 | ⟨h1, h2⟩
  · rcases a.new c vs h1 with h3 | ⟨h3, h4⟩
    · exact .inl h3
    · exact .inr ⟨h3, b.same c _ (W.some_of hok h3) h4⟩
  · exact .inr ⟨a.free h1, h2⟩
theorem Ext.rigid (e : Ext W H G H' G') (hok : W.ok H) {a : Addr} {o : HO} (q : H a = some o) (r : Rigid o) : H' a = some o := e.same a o (W.rigid hok q r) q
theorem Ext.tup (e : Ext W H G H' G') (hok : W.ok H) {a : Addr} {xs : List V} (h : SqT K H a xs) : SqT K H' a xs := by
  rcases h with (h | ⟨o, h⟩) | h
  · exact .inl (.inl (e.rigid hok h trivial))
  · exact .inl (.inr ⟨o, e.rigid hok h trivial⟩)
  · exact .inr h
theorem Ext.lst (e : Ext W H G H' G') (hok : W.ok H) {a : Addr} {xs : List V} (hv : ¬ W.vol a) (h : SqL K H a xs) : SqL K H' a xs := by
  rcases h with (h | ⟨o, h⟩) | h
  · exact .inl (.inl (e.same _ _ hv h))
  · exact .inl (.inr ⟨o, e.rigid hok h trivial⟩)
  · exact .inr h
/-- what an At leans on -/
structure Up (K : PySem.W.Frag) (W : Wd) (H : Hp) (G : Gh) (H' : Hp) (G' : Gh) : Prop where
  tup : ∀ a xs, SqT K H a xs → SqT K H' a xs
  dct : ∀ a, H a = some (.dK []) → ¬ W.vol a → H' a = some (.dK [])
  g : ∀ a vs, G a = some vs → G' a = some vs
theorem Ext.up (e : Ext W H G H' G') (hok : W.ok H) : Up K W H G H' G' := ⟨fun _ _ => e.tup hok, fun a h n => e.same a _ n h, e.g⟩
mutual
theorem At.up (u : Up K W H G H' G') : ∀ (d : D) (v : V), At K W H G d v → At K W H' G' d v
  | .non, v, h => h
  | .bl b, v, h => h
  | .int i, v, h => h
  | .str x, v, h => h
  | .tup ds, v, h => by
    obtain ⟨a, vs, e, hs, ha⟩ := h
    exact ⟨a, vs, e, u.tup _ _ hs, Ats.up u ds vs ha⟩
  | .lst ds, v, h => by
    obtain ⟨a, vs, e, hs, ha⟩ := h
    exact ⟨a, vs, e, u.g _ _ hs, Ats.up u ds vs ha⟩
  | .dct, v, h => by
    obtain ⟨a, e, hs, n⟩ := h
    exact ⟨a, e, u.dct _ hs n, n⟩
  | .obj u, v, h => h
theorem Ats.up (u : Up K W H G H' G') : ∀ (ds : List D) (vs : List V), Ats K W H G ds vs → Ats K W H' G' ds vs
  | [], vs, h => h
  | d :: ds, vs, h => by
    obtain ⟨v, r, e, h1, h2⟩ := h
    exact ⟨v, r, e, At.up u d v h1, Ats.up u ds r h2⟩
end
mutual
/-- what holds no list asks nothing of the ghost -/
theorem At.noL (t : ∀ a xs, SqT K H a xs → SqT K H' a xs) : ∀ (d : D) (v : V), noL d = true → At K W H G d v → At K W H' G' d v
  | .non, v, _, h => h
  | .bl b, v, _, h => h
  | .int i, v, _, h => h
  | .str x, v, _, h => h
  | .tup ds, v, n, h => by
    obtain ⟨a, vs, e, hs, ha⟩ := h
    exact ⟨a, vs, e, t _ _ hs, Ats.noL t ds vs (by simpa [L3.noL] using n) ha⟩
  | .lst ds, v, n, h => by simp [L3.noL] at n
  | .dct, v, n, h => by simp [L3.noL] at n
  | .obj u, v, _, h => h
theorem Ats.noL (t : ∀ a xs, SqT K H a xs → SqT K H' a xs) : ∀ (ds : List D) (vs : List V), noLs ds = true → Ats K W H G ds vs → Ats K W H' G' ds vs
  | [], vs, _, h => h
  | d :: ds, vs, n, h => by
    obtain ⟨v, r, e, h1, h2⟩ := h
    have n' : L3.noL d = true ∧ noLs ds = true := by simpa [L3.noLs] using n
    exact ⟨v, r, e, At.noL t d v n'.1 h1, Ats.noL t ds r n'.2 h2⟩
end
theorem Ats.len : ∀ {ds : List D} {vs : List V}, Ats K W H G ds vs → ds.length = vs.length
  | [], vs, h => by
    have h : vs = [] := h
    subst h; rfl
  | d :: ds, vs, h => by
    obtain ⟨v, r, rfl, _, h2⟩ := h
    simp [Ats.len h2]
theorem Ats.get : ∀ {ds : List D} {vs : List V} {i : Nat} {d : D}, Ats K W H G ds vs → ds[i]? = some d → ∃ v, vs[i]? = some v ∧ At K W H G d v
  | [], _, _, _, _, e => by simp at e
  | c :: ds, vs, 0, d, h, e => by
    obtain ⟨v, r, rfl, h1, _⟩ := h
    simp at e; subst e; exact ⟨v, rfl, h1⟩
  | c :: ds, vs, i + 1, d, h, e => by
    obtain ⟨v, r, rfl, _, h2⟩ := h
    obtain ⟨u, q, z⟩ := Ats.get (i := i) h2 (by simpa using e)
    exact ⟨u, by simpa using q, z⟩
theorem Ats.getV {ds : List D} {vs : List V} {i : Nat} {v : V} (h : Ats K W H G ds vs) (e : vs[i]? = some v) : ∃ d, ds[i]? = some d ∧ At K W H G d v := by
  have hl := h.len
  have hi : i < vs.length := (List.getElem?_eq_some_iff.mp e).1
  have q : ds[i]? = some (ds[i]'(by omega)) := List.getElem?_eq_getElem _
  obtain ⟨u, e2, a⟩ := h.get q
  rw [e] at e2; cases e2
  exact ⟨_, q, a⟩
theorem Ats.append : ∀ {ds es : List D} {vs ws : List V}, Ats K W H G ds vs → Ats K W H G es ws → Ats K W H G (ds ++ es) (vs ++ ws)
  | [], es, vs, ws, h, h2 => by
    have h : vs = [] := h
    subst h; exact h2
  | d :: ds, es, vs, ws, h, h2 => by
    obtain ⟨v, r, rfl, h1, h3⟩ := h
    exact ⟨v, r ++ ws, rfl, h1, Ats.append h3 h2⟩
theorem Ats.one {d : D} {v : V} (h : At K W H G d v) : Ats K W H G [d] [v] := ⟨v, [], rfl, h, rfl⟩
theorem Ats.of_get : ∀ {ds : List D} {vs : List V}, ds.length = vs.length → (∀ (i : Nat) (d : D) (v : V), ds[i]? = some d → vs[i]? = some v → At K W H G d v) → Ats K W H G ds vs
  | [], [], _, _ => rfl
  | [], _ :: _, e, _ => by simp at e
  | _ :: _, [], e, _ => by simp at e
  | d :: ds, v :: vs, e, h => ⟨v, vs, rfl, h 0 d v rfl rfl, Ats.of_get (by simpa using e) fun i d v h1 h2 => h (i + 1) d v (by simpa using h1) (by simpa using h2)⟩
theorem Ats.set {ds : List D} {vs : List V} {i : Nat} {d : D} {v : V} (h : Ats K W H G ds vs) (hv : At K W H G d v) : Ats K W H G (ds.set i d) (vs.set i v) := by
  have hl := h.len
  refine Ats.of_get (by simpa using hl) fun j c u e1 e2 => ?_
  by_cases hj : i = j
  · subst hj
    have h1 : i < ds.length := by have := (List.getElem?_eq_some_iff.mp e1).1; simpa using this
    rw [List.getElem?_set_self h1] at e1
    rw [List.getElem?_set_self (by omega)] at e2
    cases e1; cases e2; exact hv
  · rw [List.getElem?_set_ne hj] at e1 e2
    obtain ⟨w, q, a⟩ := h.get e1
    rw [e2] at q; cases q; exact a
theorem Ats.take {ds : List D} {vs : List V} (n : Nat) (h : Ats K W H G ds vs) : Ats K W H G (ds.take n) (vs.take n) := by
  have hl := h.len
  refine Ats.of_get (by simp [hl]) fun j c u e1 e2 => ?_
  rw [List.getElem?_take] at e1 e2
  split at e1
  · rename_i hj
    rw [if_pos hj] at e2
    obtain ⟨w, q, a⟩ := h.get e1
    rw [e2] at q; cases q; exact a
  · cases e1
theorem Ats.drop {ds : List D} {vs : List V} (n : Nat) (h : Ats K W H G ds vs) : Ats K W H G (ds.drop n) (vs.drop n) := by
  have hl := h.len
  refine Ats.of_get (by simp [hl]) fun j c u e1 e2 => ?_
  rw [List.getElem?_drop] at e1 e2
  obtain ⟨w, q, a⟩ := h.get e1
  rw [e2] at q; cases q; exact a
theorem GhOk.up (g : GhOk W H G) (e : Ext W H G H' G') : GhOk W H' G' := by
  refine ⟨fun a vs h => ?_, e.ok⟩
  rcases e.new a vs h with h1 | ⟨h1, h2⟩
  · exact ⟨e.same a _ (g.at_ a vs h1).2 (g.at_ a vs h1).1, (g.at_ a vs h1).2⟩
  · exact ⟨h2, W.some_of g.ok h1⟩
theorem Ext.notG (e : Ext W H G H' G') {a : Addr} {o : HO} (h : H a = some o) (n : G a = none) : G' a = none := by
  cases q : G' a with
  | none => rfl
  | some vs =>
    rcases e.new a vs q with h1 | ⟨h1, _⟩
    · rw [n] at h1; cases h1
    · rw [h] at h1; cases h1
theorem SlAt.up {s : Sl} {v : V} (g : W.ok H) (e : Ext W H G H' G') (hC : C.W = W) (h : SlAt C H G s v) : SlAt C H' G' s v := by
  subst hC
  cases s with
  | val d => exact At.up (e.up g) d v h
  | own ds =>
    obtain ⟨a, vs, e1, h0, nv, h1, h2, h3⟩ := h
    exact ⟨a, vs, e1, h0, nv, e.same _ _ nv h1, e.notG h1 h2, Ats.up (e.up g) _ _ h3⟩
theorem Frm.up (f : Frm C H G σ δ) (e : Ext C.W H G H' G') : Frm C H' G' σ δ := by
  refine ⟨f.len, f.gh.up e, f.h0, f.ext.trans e f.h0, fun i s hs => ?_, f.ap⟩
  obtain ⟨v, e1, h⟩ := f.sl i s hs
  exact ⟨v, e1, h.up f.gh.ok e rfl⟩
/-- a result carried on -/
theorem Rep.up {r : R} {v : V} (h : Rep C Hs H G r v) (g : C.W.ok H) (e : Ext C.W H G H' G') (e0 : ∀ a, Hs a = none → Hs' a = none) (hv : C.W.ok Hs) : Rep C Hs' H' G' r v := by
  cases r with
  | val d => exact At.up (e.up g) d v h
  | own ds =>
    obtain ⟨a, vs, e1, h0, h1, h2, h3⟩ := h
    exact ⟨a, vs, e1, e0 a h0, e.same _ _ (C.W.some_of hv h0) h1, e.notG h1 h2, Ats.up (e.up g) _ _ h3⟩
  | bor ds =>
    obtain ⟨a, vs, e1, n0, nv, h1, h2, h3⟩ := h
    exact ⟨a, vs, e1, n0, nv, e.same _ _ nv h1, e.notG h1 h2, Ats.up (e.up g) _ _ h3⟩
/-- a result that is a list may be read -/
theorem Rep.list {r : R} {v : V} {ds : List D} (h : Rep C Hs H G r v) (g : GhOk C.W H G) (e : r.data = .lst ds) : ∃ a vs, v = .ref a ∧ H a = some (.lst vs) ∧ Ats C.K C.W H G ds vs := by
  cases r with
  | val d =>
    have e' : d = .lst ds := e
    subst e'
    obtain ⟨a, vs, e1, h1, h2⟩ := h
    exact ⟨a, vs, e1, (g.at_ a vs h1).1, h2⟩
  | own es =>
    cases e
    obtain ⟨a, vs, e1, h0, h1, h2, h3⟩ := h
    exact ⟨a, vs, e1, h1, h3⟩
  | bor es =>
    cases e
    obtain ⟨a, vs, e1, n0, nv, h1, h2, h3⟩ := h
    exact ⟨a, vs, e1, h1, h3⟩
theorem Rep.tup {r : R} {v : V} {ds : List D} (h : Rep C Hs H G r v) (e : r.data = .tup ds) : ∃ a vs, v = .ref a ∧ SqT C.K H a vs ∧ Ats C.K C.W H G ds vs := by
  cases r with
  | val d =>
    have e' : d = .tup ds := e
    subst e'
    exact h
  | own es => cases e
  | bor es => cases e
theorem Rep.flat {r : R} {v : V} {d : D} (h : Rep C Hs H G r v) (e : r.data = d) (n : ∀ ds, d ≠ .lst ds) : At C.K C.W H G d v := by
  cases r with
  | val c =>
    have e' : c = d := e
    subst e'
    exact h
  | own es => exact absurd e.symm (n es)
  | bor es => exact absurd e.symm (n es)
theorem Rep.int {r : R} {v : V} {i : Int} (h : Rep C Hs H G r v) (e : r.data = .int i) : v = .int i := h.flat e (by intro _ z; cases z)
theorem Rep.bl {r : R} {v : V} {i : Bool} (h : Rep C Hs H G r v) (e : r.data = .bl i) : v = .bl i := h.flat e (by intro _ z; cases z)
theorem Rep.str {r : R} {v : V} {i : Str} (h : Rep C Hs H G r v) (e : r.data = .str i) : v = .str i := h.flat e (by intro _ z; cases z)
@[simp] def nb : R → Prop
  | .bor _ => False
  | _ => True
@[simp] def nbs : List R → Prop
  | [] => True
  | r :: rs => nb r ∧ nbs rs
def Reps (C : Ct) (Hs H : Hp) (G : Gh) : List R → List V → Prop
  | [], vs => vs = []
  | r :: rs, vs => ∃ v us, vs = v :: us ∧ Rep C Hs H G r v ∧ Reps C Hs H G rs us
theorem Reps.up : ∀ {rs : List R} {vs : List V}, Reps C Hs H G rs vs → C.W.ok H → Ext C.W H G H' G' → (∀ a, Hs a = none → Hs' a = none) → C.W.ok Hs → Reps C Hs' H' G' rs vs
  | [], _, h, _, _, _, _ => h
  | r :: rs, _, ⟨v, us, e, h1, h2⟩, g, x, e0, hv => ⟨v, us, e, h1.up g x e0 hv, Reps.up h2 g x e0 hv⟩
def lstOf : Option HO → Option (List V)
  | some (.lst l) => some l
  | _ => none
theorem lstOf_some {o : Option HO} {l : List V} (h : lstOf o = some l) : o = some (.lst l) := by
  unfold lstOf at h
  split at h
  · cases h; rfl
  · cases h
/-- the new lists among the values are frozen -/
def fz (Hs H : Hp) (G : Gh) (vs : List V) : Gh := fun a => match G a with
  | some l => some l
  | none => if V.ref a ∈ vs ∧ (Hs a).isNone = true then lstOf (H a) else none
theorem fz_old {vs : List V} {a : Addr} {l : List V} (h : G a = some l) : fz Hs H G vs a = some l := by unfold fz; rw [h]
theorem fz_new {vs : List V} {a : Addr} {l : List V} (h : fz Hs H G vs a = some l) : G a = some l ∨ (Hs a = none ∧ H a = some (.lst l) ∧ V.ref a ∈ vs) := by
  unfold fz at h
  split at h
  · rename_i q; cases h; exact .inl q
  · split at h
    · rename_i q
      exact .inr ⟨by simpa using q.2, lstOf_some h, q.1⟩
    · cases h
theorem fz_at {vs : List V} {a : Addr} {l : List V} (h : H a = some (.lst l)) (hs : Hs a = none) (hm : V.ref a ∈ vs) (g : GhOk W H G) : fz Hs H G vs a = some l := by
  unfold fz
  split
  · rename_i q
    have := (g.at_ _ _ q).1
    rw [h] at this; cases this; rfl
  · rw [if_pos ⟨hm, by simp [hs]⟩, h]; rfl
theorem fz_ext {G0 : Gh} {vs : List V} (e : Ext W Hs G0 H G) : Ext W Hs G0 H (fz Hs H G vs) :=
  ⟨e.same, fun a l h => fz_old (e.g a l h), fun a l h => (fz_new h).elim (fun h => e.new a l h) fun h => .inr ⟨h.1, h.2.1⟩, e.ok⟩
theorem fz_up {vs : List V} : Up K W H G H (fz Hs H G vs) := ⟨fun _ _ h => h, fun _ h _ => h, fun _ _ h => fz_old h⟩
/-- kept values -/
theorem Reps.fz {all : List V} (g : GhOk C.W H G) : ∀ {rs : List R} {vs : List V}, Reps C Hs H G rs vs → nbs rs → (∀ v ∈ vs, v ∈ all) → Ats C.K C.W H (fz Hs H G all) (rs.map R.data) vs
  | [], _, h, _, _ => h
  | r :: rs, _, ⟨v, us, e, h1, h2⟩, n, hm => by
    subst e
    refine ⟨v, us, rfl, ?_, Reps.fz g h2 n.2 fun u hu => hm u (List.mem_cons_of_mem _ hu)⟩
    cases r with
    | val d => exact At.up fz_up d v h1
    | own ds =>
      obtain ⟨a, ws, rfl, h0, h3, h4, h5⟩ := h1
      exact ⟨a, ws, rfl, fz_at h3 h0 (hm _ List.mem_cons_self) g, Ats.up fz_up _ _ h5⟩
    | bor ds => exact n.1.elim
/-- a new object -/
theorem Ext.laid {p : Addr} {o : HO} {G0 : Gh} (e : Ext W Hs G0 H G) (hp : H p = none) (nt : ∀ ps, o ≠ .tbl ps := by intro _ z; cases z) : Ext W Hs G0 (upd H p o) G := by
  refine ⟨fun b u n h => ?_, e.g, fun a l h => ?_, ?_⟩
  · rw [upd_ne (ne_of_none (e.same b u n h) hp)]; exact e.same b u n h
  · rcases e.new a l h with h1 | ⟨h1, h2⟩
    · exact .inl h1
    · exact .inr ⟨h1, by rw [upd_ne (ne_of_none h2 hp)]; exact h2⟩
  · refine W.loc H _ (fun b u h _ => by rw [upd_ne (ne_of_none h hp)]; exact h) (fun b ps h => ?_) e.ok
    by_cases hb : b = p
    · subst hb; rw [upd_same] at h; exact absurd (Option.some.inj h) (nt ps)
    · rwa [upd_ne hb] at h
theorem Up.laid {p : Addr} {o : HO} (hp : H p = none) : Up K W H G (upd H p o) G := by
  have k : ∀ b u, H b = some u → upd H p o b = some u := fun b u h => by rw [upd_ne (ne_of_none h hp)]; exact h
  refine ⟨fun a xs h => ?_, fun a h _ => k a _ h, fun _ _ h => h⟩
  rcases h with (h | ⟨u, h⟩) | h
  · exact .inl (.inl (k _ _ h))
  · exact .inl (.inr ⟨u, k _ _ h⟩)
  · exact .inr h
end
end L3

set_option maxRecDepth 100000
set_option maxHeartbeats 2000000
/-! The data layer: expressions. -/
namespace L3
open PySem PySem.Spec L2

abbrev WE := De → (R → Prop) → Prop
abbrev WA := De → (List R → Prop) → Prop
abbrev WT := De → (Bool → Prop) → Prop
/-- the reading of an expression whose data reading is w -/
def tOf (C : Ct) (w : WE) : TE := fun σ H Q => ∃ G δ q, Frm C H G σ δ ∧ w δ q ∧ ∀ v r H' G', Ext C.W H G H' G' → Rep C H H' G' r v → q r → Q v H'
def aOf (C : Ct) (w : WA) : TA := fun σ H Q => ∃ G δ q, Frm C H G σ δ ∧ w δ q ∧ ∀ vs rs H' G', Ext C.W H G H' G' → Reps C H H' G' rs vs → q rs → Q vs H'
def bOf (C : Ct) (w : WT) : TT := fun σ H Q => ∃ G δ q, Frm C H G σ δ ∧ w δ q ∧ ∀ b H' G', Ext C.W H G H' G' → q b → Q b H'

section
variable {X : Cx} {C : Ct} {e a b : Expr} {es : List Expr} {wa wb wc : WE} {wr : WA} {pos : Pos} {H H' Hs : Hp} {G G' : Gh} {σ : St} {δ : De}
theorem PE.str {t t' : TE} (h : PE X e t) (hi : ∀ σ H Q, t' σ H Q → t σ H Q) : PE X e t' := ⟨fun pins s σ H Q I q => h.run pins s σ H Q I (hi σ H Q q)⟩
theorem PA.str {t t' : TA} (h : PA X es t) (hi : ∀ σ H Q, t' σ H Q → t σ H Q) : PA X es t' := ⟨fun pos pins s σ H Q I q => h.run pos pins s σ H Q I (hi σ H Q q)⟩
theorem PT.str {t t' : TT} (h : PT X e t) (hi : ∀ σ H Q, t' σ H Q → t σ H Q) : PT X e t' := ⟨fun pins s σ H Q I q => h.run pins s σ H Q I (hi σ H Q q)⟩
theorem PW.str {t t' : TT} (h : PW X e t) (hi : ∀ σ H Q, t' σ H Q → t σ H Q) : PW X e t' := ⟨fun wh pins s σ H Q I q => h.run wh pins s σ H Q I (hi σ H Q q)⟩

theorem run {w : WE} {q : R → Prop} {Q : VK} (f : Frm C H G σ δ) (hw : w δ q) (k : ∀ v r H' G', Ext C.W H G H' G' → Frm C H' G' σ δ → Rep C H H' G' r v → q r → Q v H') : tOf C w σ H Q :=
  ⟨G, δ, q, f, hw, fun v r H' G' e p hq => k v r H' G' e (f.up e) p hq⟩
theorem runA {w : WA} {q : List R → Prop} {Q : List V → Hp → Prop} (f : Frm C H G σ δ) (hw : w δ q) (k : ∀ v r H' G', Ext C.W H G H' G' → Frm C H' G' σ δ → Reps C H H' G' r v → q r → Q v H') : aOf C w σ H Q :=
  ⟨G, δ, q, f, hw, fun v r H' G' e p hq => k v r H' G' e (f.up e) p hq⟩
theorem runT {w : WT} {q : Bool → Prop} {Q : Bool → Hp → Prop} (f : Frm C H G σ δ) (hw : w δ q) (k : ∀ b H' G', Ext C.W H G H' G' → Frm C H' G' σ δ → q b → Q b H') : bOf C w σ H Q :=
  ⟨G, δ, q, f, hw, fun b H' G' e hq => k b H' G' e (f.up e) hq⟩

/-! ### names, constants -/
@[simp] def wVar (i : Nat) : WE := fun δ q => match δ[i]? with
  | some (some (.val d)) => q (.val d)
  | some (some (.own ds)) => q (.bor ds)
  | _ => False
@[simp] def wC (d : D) : WE := fun _ q => q (.val d)
theorem de_var (i : Nat) {x : Str} (hN : X.N[i]? = some x := by rfl) (hv : Vis X.env.scope x := by first | exact Or.inl rfl | exact Or.inr (Or.inl rfl) | exact Or.inr (Or.inr rfl)) (hd : (x == ("__debug__" : Str)) = false := by decide)
    (hcd : (x == ("__classdict__" : Str)) = false := by decide) : PE X (.Name x pos) (tOf C (wVar i)) :=
  PE.str (pe_var hN hv hd hcd) fun σ H Q ⟨G, δ, q, f, hw, k⟩ => by
    unfold wVar at hw
    split at hw
    · rename_i d e
      obtain ⟨v, e1, h1⟩ := f.sl i _ e
      exact ⟨v, e1, k v (.val d) H G (.refl f.gh.ok) h1 hw⟩
    · rename_i ds e
      obtain ⟨v, e1, h1⟩ := f.sl i _ e
      exact ⟨v, e1, k v (.bor ds) H G (.refl f.gh.ok) h1 hw⟩
    · exact hw.elim
theorem de_const {d : D} {v : V} (h : PE X e (tC v)) (hd : ∀ H G, At C.K C.W H G d v) : PE X e (tOf C (wC d)) :=
  PE.str h fun σ H Q ⟨G, δ, q, f, hw, k⟩ => k v _ H G (.refl f.gh.ok) (show Rep C H H G (.val d) v from hd H G) hw
theorem de_int {i : Int} {j : Nat} : PE X (.Constant (.int i) j pos) (tOf C (wC (.int i))) := de_const pe_int fun _ _ => rfl
theorem de_bl {i : Bool} {j : Nat} : PE X (.Constant (.bool i) j pos) (tOf C (wC (.bl i))) := de_const pe_bl fun _ _ => rfl
theorem de_non {j : Nat} : PE X (.Constant .none j pos) (tOf C (wC .non)) := de_const pe_non fun _ _ => rfl
theorem de_str {i : Str} {j : Nat} : PE X (.Constant (.str i) j pos) (tOf C (wC (.str i))) := de_const pe_str fun _ _ => rfl
/-- a module's constant that is an int, a text, an object -/
theorem de_glob {x : Str} {v : V} {u : Value} {d : D} (hg : Gl X x) (hm : X.mg x = some u) (r : RelV v u) (hd : ∀ H G, At C.K C.W H G d v) (hdb : (x == ("__debug__" : Str)) = false := by decide) : PE X (.Name x pos) (tOf C (wC d)) :=
  de_const (pe_glob hg hm r hdb) hd

/-! ### argument lists, displays -/
@[simp] def wNil : WA := fun _ q => q []
@[simp] def wCons (wa : WE) (wr : WA) : WA := fun δ q => wa δ fun r => wr δ fun rs => q (r :: rs)
theorem da_nil : PA X [] (aOf C wNil) := PA.str pa_nil fun σ H Q ⟨G, δ, q, f, hw, k⟩ => k [] [] H G (.refl f.gh.ok) rfl hw
theorem da_cons (ha : PE X e (tOf C wa)) (hr : PA X es (aOf C wr)) (hs : starEach (e :: es) X.env = (false, eval e X.env) :: starEach es X.env := by rfl) : PA X (e :: es) (aOf C (wCons wa wr)) :=
  PA.str (pa_cons ha hr hs) fun σ H Q ⟨G, δ, q, f, hw, k⟩ => run f hw fun v r H1 G1 e1 f1 p1 q1 => runA f1 q1 fun vs rs H2 G2 e2 f2 p2 q2 =>
    k (v :: vs) (r :: rs) H2 G2 (e1.trans e2 f.gh.ok) ⟨v, vs, rfl, p1.up f1.gh.ok e2 (fun _ h => h) f.gh.ok, p2.up f2.gh.ok (.refl f2.gh.ok) (fun _ h => e1.free h) f1.gh.ok⟩ q2
@[simp] def wTup (wr : WA) : WE := fun δ q => wr δ fun rs => nbs rs ∧ rs.length ≤ 1000 ∧ q (.val (.tup (rs.map R.data)))
@[simp] def wLst (wr : WA) : WE := fun δ q => wr δ fun rs => nbs rs ∧ rs.length ≤ 1000 ∧ q (.own (rs.map R.data))
theorem Reps.len : ∀ {rs : List R} {vs : List V}, Reps C Hs H G rs vs → rs.length = vs.length
  | [], _, h => by
    have h : _ = [] := h
    subst h; rfl
  | r :: rs, _, ⟨v, us, e, _, h2⟩ => by subst e; simp [Reps.len h2]
theorem line1000 {n : Nat} (h : n ≤ 1000) : n ≤ sizeLine := Nat.le_trans h (by decide)
theorem de_tup {x1 : Nat} (h : PA X es (aOf C wr)) : PE X (.Tuple es x1 pos) (tOf C (wTup wr)) :=
  PE.str (pe_tup h) fun σ H Q ⟨G, δ, q, f, hw, k⟩ => runA f hw fun vs rs H1 G1 e1 f1 p1 ⟨n, hl, q1⟩ =>
    ⟨line1000 (by rw [← p1.len]; exact hl), fun p hp => k _ (.val (.tup (rs.map R.data))) _ (fz H H1 G1 vs) (Ext.laid (fz_ext e1) hp) ⟨p, vs, rfl, .inl (.inl upd_same), Ats.up (Up.laid hp) _ _ (p1.fz f1.gh n fun _ h => h)⟩ q1⟩
theorem fz_none {vs : List V} {p : Addr} (h : H p = none) (g : GhOk C.W H G) : fz Hs H G vs p = none := by
  cases q : fz Hs H G vs p with
  | none => rfl
  | some l =>
    rcases fz_new q with z | ⟨_, z, _⟩
    · rw [(g.at_ _ _ z).1] at h; cases h
    · rw [z] at h; cases h
theorem de_lst (h : PA X es (aOf C wr)) : PE X (.List es pos) (tOf C (wLst wr)) :=
  PE.str (pe_lst h) fun σ H Q ⟨G, δ, q, f, hw, k⟩ => runA f hw fun vs rs H1 G1 e1 f1 p1 ⟨n, hl, q1⟩ =>
    ⟨line1000 (by rw [← p1.len]; exact hl), fun p hp => k _ (.own (rs.map R.data)) _ (fz H H1 G1 vs) (Ext.laid (fz_ext e1) hp) ⟨p, vs, rfl, e1.free hp, upd_same, fz_none hp f1.gh, Ats.up (Up.laid hp) _ _ (p1.fz f1.gh n fun _ h => h)⟩ q1⟩

/-! ### operators -/
/-- what an operator's rule asks, from the data -/
def OpD (C : Ct) (r : R2) (w : D → D → (R → Prop) → Prop) : Prop := ∀ (H : Hp) (G : Gh) (r1 r2 : R) (x y : V) (Hs : Hp) (q : R → Prop) (Q : VK), GhOk C.W H G → C.W.ok Hs → (∀ a, H a = none → Hs a = none) → Rep C Hs H G r1 x → Rep C Hs H G r2 y → w r1.data r2.data q →
  (∀ v s H' G', Ext C.W H G H' G' → Rep C Hs H' G' s v → q s → Q v H') → r x y H Q
@[simp] def wOp (w : D → D → (R → Prop) → Prop) (wa wb : WE) : WE := fun δ q => wa δ fun r1 => wb δ fun r2 => w r1.data r2.data q
theorem op_run {r : R2} {w : D → D → (R → Prop) → Prop} (hr : OpD C r w) : ∀ σ H Q, tOf C (wOp w wa wb) σ H Q → tOp r (tOf C wa) (tOf C wb) σ H Q := fun σ H Q ⟨G, δ, q, f, hw, k⟩ =>
  run f hw fun x r1 H1 G1 e1 f1 p1 q1 => run f1 q1 fun y r2 H2 G2 e2 f2 p2 q2 =>
    hr H2 G2 r1 r2 x y H q Q f2.gh f.gh.ok (fun a h => e1.free (e2.free h)) (p1.up f1.gh.ok e2 (fun _ h => h) f.gh.ok) (p2.up f2.gh.ok (.refl f2.gh.ok) (fun _ h => e1.free h) f1.gh.ok) q2
      fun v s H3 G3 e3 p3 q3 => k v s H3 G3 ((e1.trans e2 f.gh.ok).trans e3 f.gh.ok) p3 q3
theorem de_op {op : Operator} {r : R2} {w : D → D → (R → Prop) → Prop} (ho : OpR X (binaryOp op) r) (hr : OpD C r w) (ha : PE X a (tOf C wa)) (hb : PE X b (tOf C wb)) : PE X (.BinOp a op b pos) (tOf C (wOp w wa wb)) :=
  PE.str (pe_op ho ha hb) (op_run hr)
theorem OpR.or {f : Value → Value → Sem Value} {r1 r2 : R2} (h1 : OpR X f r1) (h2 : OpR X f r2) : OpR X f (fun x y H Q => r1 x y H Q ∨ r2 x y H Q) := fun pins s σ H x y v u Q I rx ry h => h.elim (h1 pins s σ H x y v u Q I rx ry) (h2 pins s σ H x y v u Q I rx ry)

/-- two ints: c asked, g given -/
@[simp] def w2i (c : Int → Int → Prop) (g : Int → Int → D) : D → D → (R → Prop) → Prop
  | .int i, .int j, q => c i j ∧ q (.val (g i j))
  | _, _, _ => False
theorem opd_i {c : Int → Int → Prop} {g : Int → Int → D} {gv : Int → Int → V} (hg : ∀ i j H G, At C.K C.W H G (g i j) (gv i j)) : OpD C (rI c gv) (w2i c g) := fun H G r1 r2 x y Hs q Q gh _ _ h1 h2 w k => by
  unfold w2i at w
  split at w
  · rename_i i j e1 e2
    exact ⟨i, j, h1.int e1, h2.int e2, w.1, k _ _ H G (.refl gh.ok) (show Rep C Hs H G (.val (g i j)) _ from hg i j H G) w.2⟩
  · exact w.elim
theorem opd_i0 {g : Int → Int → D} {gv : Int → Int → V} (hg : ∀ i j H G, At C.K C.W H G (g i j) (gv i j)) : OpD C (rI0 gv) (w2i (fun _ _ => True) g) := fun H G r1 r2 x y Hs q Q gh _ _ h1 h2 w k => by
  unfold w2i at w
  split at w
  · rename_i i j e1 e2
    exact ⟨i, j, h1.int e1, h2.int e2, k _ _ H G (.refl gh.ok) (show Rep C Hs H G (.val (g i j)) _ from hg i j H G) w.2⟩
  · exact w.elim
/-- + -/
@[simp] def addW : D → D → (R → Prop) → Prop
  | .int i, .int j, q => q (.val (.int (i + j)))
  | .str a, .str b, q => a.length + b.length ≤ sizeLine ∧ q (.val (.str (a ++ b)))
  | .tup a, .tup b, q => a.length + b.length ≤ sizeLine ∧ q (.val (.tup (a ++ b)))
  | .lst a, .lst b, q => a.length + b.length ≤ sizeLine ∧ q (.own (a ++ b))
  | _, _, _ => False
def rAddS : R2 := fun x y H Q => ∃ i j, x = .str i ∧ y = .str j ∧ i.length + j.length ≤ sizeLine ∧ Q (.str (i ++ j)) H
def rAddA (K : PySem.W.Frag) : R2 := fun x y H Q => rI0 (fun i j => .int (i + j)) x y H Q ∨ rAddS x y H Q ∨ rCatA K x y H Q ∨ rCat x y H Q
theorem op_addA : OpR X (binaryOp .Add) (rAddA X.K) := op_add.or (OpR.or (r1 := rAddS) op_add_str (op_catA.or op_cat))
theorem opd_add (hK : C.K = X.K) : OpD C (rAddA X.K) addW := fun H G r1 r2 x y Hs q Q gh hks hfree h1 h2 w k => by
  rw [← hK]
  unfold addW at w
  split at w
  · rename_i i j e1 e2
    exact .inl ⟨i, j, h1.int e1, h2.int e2, k _ _ H G (.refl gh.ok) (show Rep C Hs H G (.val (.int (i + j))) _ from rfl) w⟩
  · rename_i i j e1 e2
    exact .inr (.inl ⟨i, j, h1.str e1, h2.str e2, w.1, k _ _ H G (.refl gh.ok) (show Rep C Hs H G (.val (.str (i ++ j))) _ from rfl) w.2⟩)
  · rename_i i j e1 e2
    obtain ⟨a, vs, rfl, s1, a1⟩ := h1.tup e1
    obtain ⟨b, us, rfl, s2, a2⟩ := h2.tup e2
    refine .inr (.inr (.inl ⟨a, b, vs, us, rfl, rfl, s1, s2, by rw [← a1.len, ← a2.len]; exact w.1, fun z => ?_, fun _ z => ?_, fun _ _ p hp => ?_⟩))
    · subst z
      have z : i = [] := List.eq_nil_of_length_eq_zero (by rw [a1.len]; rfl)
      subst z
      exact k _ _ H G (.refl gh.ok) (show Rep C Hs H G (.val (.tup ([] ++ j))) _ from ⟨b, us, rfl, s2, a2⟩) w.2
    · subst z
      have z : j = [] := List.eq_nil_of_length_eq_zero (by rw [a2.len]; rfl)
      subst z
      exact k _ _ H G (.refl gh.ok) (show Rep C Hs H G (.val (.tup (i ++ []))) _ from ⟨a, vs, rfl, s1, by rw [List.append_nil]; exact a1⟩) w.2
    · exact k _ _ _ G (Ext.laid (.refl gh.ok) hp) (show Rep C Hs _ G (.val (.tup (i ++ j))) _ from ⟨p, _, rfl, .inl (.inl upd_same), Ats.up (Up.laid hp) _ _ (a1.append a2)⟩) w.2
  · rename_i i j e1 e2
    obtain ⟨a, vs, rfl, s1, a1⟩ := h1.list gh e1
    obtain ⟨b, us, rfl, s2, a2⟩ := h2.list gh e2
    refine .inr (.inr (.inr ⟨a, b, vs, us, rfl, rfl, s1, s2, by rw [← a1.len, ← a2.len]; exact w.1, fun p hp => ?_⟩))
    refine k _ _ _ G (Ext.laid (.refl gh.ok) hp) (show Rep C Hs _ G (.own (i ++ j)) _ from ⟨p, _, rfl, hfree p hp, upd_same, ?_, Ats.up (Up.laid hp) _ _ (a1.append a2)⟩) w.2
    cases z : G p with
    | none => rfl
    | some l => rw [(gh.at_ _ _ z).1] at hp; cases hp
  · exact w.elim
theorem de_add (hK : C.K = X.K) (ha : PE X a (tOf C wa)) (hb : PE X b (tOf C wb)) : PE X (.BinOp a .Add b pos) (tOf C (wOp addW wa wb)) := de_op op_addA (opd_add hK) ha hb
theorem de_sub (ha : PE X a (tOf C wa)) (hb : PE X b (tOf C wb)) : PE X (.BinOp a .Sub b pos) (tOf C (wOp (w2i (fun _ _ => True) fun i j => .int (i - j)) wa wb)) := de_op op_sub (opd_i0 fun _ _ _ _ => rfl) ha hb
theorem de_mod (ha : PE X a (tOf C wa)) (hb : PE X b (tOf C wb)) : PE X (.BinOp a .Mod b pos) (tOf C (wOp (w2i (fun _ j => 0 < j) fun i j => .int (i % j)) wa wb)) := de_op op_mod (opd_i fun _ _ _ _ => rfl) ha hb
theorem de_fdiv (ha : PE X a (tOf C wa)) (hb : PE X b (tOf C wb)) : PE X (.BinOp a .FloorDiv b pos) (tOf C (wOp (w2i CDivW fun i j => .int (i / j)) wa wb)) := de_op op_fdivW (opd_i fun _ _ _ _ => rfl) ha hb
end
end L3

set_option maxRecDepth 100000
set_option maxHeartbeats 4000000
/-! The data layer: a tuple times an int, of any number. -/
namespace L3
open PySem PySem.Spec PyProof.Rows L2
theorem mulT_same (l : Addr) (items : Array Value) (n : Nat) (dd : Option Addr) (sl : Array (Option Value)) (x : Int) (u : Tok) (c0 : (decide (x < -(2 ^ 63)) || decide (x ≥ 2 ^ 63)) = false) (c1 : (items.isEmpty || x == 1) = true) :
    Meets (Builtin.«tuple.__mul__» ⟨[.ref l, .int x u], []⟩) (fun _ R s => s.heap.get? l = some { cls := .type "tuple", dict := dd, data := .seq items n, slots := sl } ∧ R (.ok (.ret (.ref l))) s) :=
  .of_wp fun prog w A R s h => by
    obtain ⟨hp, g, d, tk, os⟩ := s
    obtain ⟨hl, h⟩ := h
    have f1 := AutoSeq1.idx_int
    wp_walk using wpAny_loadPart' hl
    repeat (first
      | (refine wpAny_ite_false (decide_eq_false (by rw [c0]; exact Bool.false_ne_true)) ?_; wp_walk using wpAny_loadPart' hl)
      | (refine wpAny_ite_true (decide_eq_true c1) ?_; wp_walk using wpAny_loadPart' hl))
    exact ⟨_, rfl, h⟩
theorem mulT_none (l : Addr) (items : Array Value) (n : Nat) (dd : Option Addr) (sl : Array (Option Value)) (x : Int) (u : Tok) (c0 : (decide (x < -(2 ^ 63)) || decide (x ≥ 2 ^ 63)) = false) (c1 : (items.isEmpty || x == 1) = false) (c2 : (decide (x ≤ 0) || items.isEmpty) = true) :
    Meets (Builtin.«tuple.__mul__» ⟨[.ref l, .int x u], []⟩) (fun _ R s => s.heap.get? l = some { cls := .type "tuple", dict := dd, data := .seq items n, slots := sl } ∧
      R (.ok (.ret (Value.ref s.heap.objs.size))) { s with heap := s.heap.push { cls := Value.type "tuple", data := Data.seq #[] }, toks := s.toks }) :=
  .of_wp fun prog w A R s h => by
    obtain ⟨hp, g, d, tk, os⟩ := s
    obtain ⟨hl, h⟩ := h
    have f1 := AutoSeq1.idx_int
    wp_walk using wpAny_loadPart' hl
    repeat (first
      | (refine wpAny_ite_false (decide_eq_false (by rw [c0]; exact Bool.false_ne_true)) ?_; wp_walk using wpAny_loadPart' hl)
      | (refine wpAny_ite_false (decide_eq_false (by rw [c1]; exact Bool.false_ne_true)) ?_; wp_walk using wpAny_loadPart' hl)
      | (refine wpAny_ite_true (decide_eq_true c2) ?_; wp_walk using wpAny_loadPart' hl))
    exact ⟨_, rfl, h⟩
def rRepA (K : PySem.W.Frag) : R2 := fun x y H Q => ∃ l k xs, x = .ref l ∧ y = .int k ∧ SqT K H l xs ∧ -1000000 ≤ k ∧ k ≤ 1000000 ∧ xs.length * k.toNat ≤ 1000000 ∧
  (xs = [] ∨ k = 1 → Q (.ref l) H) ∧ (¬ (xs = [] ∨ k = 1) → ∀ p, H p = none → Q (.ref p) (upd H p (.tup (List.replicate k.toNat xs).flatten)))
theorem op_repA {X : Cx} : OpR X (binaryOp .Mult) (rRepA X.K) := by
  intro pins s σ H x y v u Q I rx ry h
  obtain ⟨l, k, xs, rfl, rfl, hT, h1, h2, hz, q1, q2⟩ := h
  cases rx
  obtain ⟨t, rfl⟩ := ry
  obtain ⟨its, r, ⟨⟨cls, dd, data, sl⟩, ho, hc, n, hd⟩, hs⟩ := I.tuple hT
  simp only at hc hd
  subst hc hd
  have hle : its.length = xs.length := r.length.symm
  have c0 : (decide (k < -(2 ^ 63)) || decide (k ≥ 2 ^ 63)) = false := by
    rw [decide_eq_false (by omega), decide_eq_false (by omega)] <;> rfl
  have he : its.toArray.isEmpty = true ↔ xs = [] := by
    constructor
    · intro z
      have z' : its.length = 0 := by
        cases its with
        | nil => rfl
        | cons a b => cases z
      exact List.eq_nil_of_length_eq_zero (by omega)
    · intro z
      subst z
      have z' : its = [] := List.eq_nil_of_length_eq_zero hle
      subst z'; rfl
  have mk : ∀ {M : Shared → (Result → Shared → Prop) → Prop}, True := fun {_} => trivial
  by_cases hsame : xs = [] ∨ k = 1
  · have c1 : (its.toArray.isEmpty || k == 1) = true := by
      rcases hsame with z | z
      · rw [he.mpr z]; rfl
      · rw [z]; simp
    refine wpAny_binaryOp_repeat_ref (T := "tuple") (U := "int") (by decide) ⟨_, ho, rfl⟩ (fun s' => typeIs_int s' k t) noFill_tuple_mul F.fills_int_mul F.slot_int_rmul repeat_tuple F.slot_int_index.lookup
      (call_meets F.slot_int_rmul (typeIs_int s k t) F.entry_int_rmul (F.args_int_rmul_2 _ _) (int_rmul_tuple k t l its.toArray n dd sl)
        ⟨ho, rfl, ⟨_, ho, rfl⟩, call_meets F.slot_tuple_mul ⟨_, ho, rfl⟩ F.entry_tuple_mul (F.args_tuple_mul_2 _ _) (mulT_same l its.toArray n dd sl k t c0 c1) ⟨ho, ?_⟩⟩)
    exact ⟨.ref l, H, I, rfl, q1 hsame⟩
  · have hne : its.toArray.isEmpty = false := Bool.eq_false_iff.mpr fun z => hsame (.inl (he.mp z))
    have c1 : (its.toArray.isEmpty || k == 1) = false := by
      rw [hne, Bool.false_or]
      exact beq_eq_false_iff_ne.mpr fun z => hsame (.inr z)
    by_cases h0 : k ≤ 0
    · have c2 : (decide (k ≤ 0) || its.toArray.isEmpty) = true := by rw [decide_eq_true h0]; rfl
      refine wpAny_binaryOp_repeat_ref (T := "tuple") (U := "int") (by decide) ⟨_, ho, rfl⟩ (fun s' => typeIs_int s' k t) noFill_tuple_mul F.fills_int_mul F.slot_int_rmul repeat_tuple F.slot_int_index.lookup
        (call_meets F.slot_int_rmul (typeIs_int s k t) F.entry_int_rmul (F.args_int_rmul_2 _ _) (int_rmul_tuple k t l its.toArray n dd sl)
          ⟨ho, rfl, ⟨_, ho, rfl⟩, call_meets F.slot_tuple_mul ⟨_, ho, rfl⟩ F.entry_tuple_mul (F.args_tuple_mul_2 _ _) (mulT_none l its.toArray n dd sl k t c0 c1 c2) ⟨ho, ?_⟩⟩)
      have ek : k.toNat = 0 := by omega
      have q3 := q2 hsame s.heap.objs.size (I.hok.fresh (Nat.le_refl _))
      rw [ek] at q3
      refine ⟨.ref s.heap.objs.size, _, I.laid (t' := s.toks) (o := .tup (List.replicate 0 xs).flatten) (fun b ob q => Heap.get?_push_of_some _ q) (Nat.le_refl _) ?_, rfl, q3⟩
      exact ⟨Nat.zero_le _, [], .nil, IsTup.new _ _⟩
    · have c2 : (decide (k ≤ 0) || its.toArray.isEmpty) = false := by
        rw [hne, Bool.or_false]
        exact decide_eq_false h0
      have hsz0 : its.toArray.size = xs.length := by rw [List.size_toArray, hle]
      have hm : ((its.toArray.size : Nat) : Int) * k ≤ 1000000 := by
        rw [hsz0]
        have e : k = ((k.toNat : Nat) : Int) := by omega
        rw [e, ← Int.natCast_mul]
        omega
      have flen : (List.replicate k.toNat its).flatten.length ≤ sizeLine := by
        rw [PyProof.Rows.lm_len_rep_flat, hle, sizeLine_eq, Nat.mul_comm]
        omega
      have c4 : Builtin.Tuple.tupleTooMany (((its.toArray.size : Nat) : Int) * k) = false := by
        unfold Builtin.Tuple.tupleTooMany
        rw [sizeLine_eq]
        exact decide_eq_false (by omega)
      refine wpAny_binaryOp_repeat_ref (T := "tuple") (U := "int") (by decide) ⟨_, ho, rfl⟩ (fun s' => typeIs_int s' k t) noFill_tuple_mul F.fills_int_mul F.slot_int_rmul repeat_tuple F.slot_int_index.lookup
        (call_meets F.slot_int_rmul (typeIs_int s k t) F.entry_int_rmul (F.args_int_rmul_2 _ _) (int_rmul_tuple k t l its.toArray n dd sl)
          ⟨ho, rfl, ⟨_, ho, rfl⟩, call_meets F.slot_tuple_mul ⟨_, ho, rfl⟩ F.entry_tuple_mul (F.args_tuple_mul_2 _ _) (tuple_mulW l its.toArray n dd sl k t c0 c1 c2 (by omega) c4 (by rw [size_rep, List.size_toArray]; exact flen)) ⟨ho, ?_⟩⟩)
      rw [size_rep]
      refine ⟨.ref s.heap.objs.size, _, I.laid (t' := s.toks) (o := .tup (List.replicate k.toNat xs).flatten) (fun b ob q => Heap.get?_push_of_some _ q) (Nat.le_refl _) ?_, rfl, q2 hsame _ (I.hok.fresh (Nat.le_refl _))⟩
      exact ⟨by rw [PyProof.Rows.lm_len_rep_flat, sizeLine_eq, Nat.mul_comm]; omega, _, r.rep k.toNat, IsTup.new _ _⟩
end L3

set_option maxRecDepth 100000
set_option maxHeartbeats 4000000
/-! The data layer: more expressions. -/
namespace L3
open PySem PySem.Spec L2

/-! ### * -/
@[simp] def mulW : D → D → (R → Prop) → Prop
  | .int i, .int j, q => CMul i j ∧ q (.val (.int (i * j)))
  | .lst a, .int k, q => -1000000 ≤ k ∧ k ≤ 1000000 ∧ a.length * k.toNat ≤ 1000000 ∧ q (.own (List.replicate k.toNat a).flatten)
  | .tup a, .int k, q => -1000000 ≤ k ∧ k ≤ 1000000 ∧ a.length * k.toNat ≤ 1000000 ∧ q (.val (.tup (List.replicate k.toNat a).flatten))
  | _, _, _ => False
def rMulA (K : PySem.W.Frag) : R2 := fun x y H Q => rI CMul (fun i j => .int (i * j)) x y H Q ∨ rRep x y H Q ∨ rRepA K x y H Q
section
variable {X : Cx} {C : Ct} {e a b c : Expr} {es : List Expr} {wa wb wc : WE} {wr : WA} {pos : Pos} {K : PySem.W.Frag} {W : Wd} {H H' Hs : Hp} {G G' : Gh} {σ : St} {δ : De}
theorem Ats.rep {ds : List D} {vs : List V} (h : Ats K W H G ds vs) : ∀ n : Nat, Ats K W H G (List.replicate n ds).flatten (List.replicate n vs).flatten
  | 0 => rfl
  | n + 1 => by
    rw [List.replicate_succ, List.replicate_succ, List.flatten_cons, List.flatten_cons]
    exact h.append (Ats.rep h n)
theorem GhOk.none (g : GhOk W H G) {p : Addr} (h : H p = none) : G p = none := by
  cases z : G p with
  | none => rfl
  | some l => rw [(g.at_ _ _ z).1] at h; cases h
/-- a new list, a new tuple -/
theorem own_new {v : List V} {ds : List D} {p : Addr} (g : GhOk C.W H G) (hp : H p = none) (hs : Hs p = none) (ha : Ats C.K C.W H G ds v) : Rep C Hs (upd H p (.lst v)) G (.own ds) (.ref p) :=
  ⟨p, v, rfl, hs, upd_same, g.none hp, Ats.up (Up.laid hp) _ _ ha⟩
theorem tup_new {v : List V} {ds : List D} {p : Addr} (hp : H p = none) (ha : Ats C.K C.W H G ds v) : Rep C Hs (upd H p (.tup v)) G (.val (.tup ds)) (.ref p) :=
  ⟨p, v, rfl, .inl (.inl upd_same), Ats.up (Up.laid hp) _ _ ha⟩
theorem opd_mul (hK : C.K = X.K) : OpD C (rMulA X.K) mulW := fun H G r1 r2 x y Hs q Q gh hks hfree h1 h2 w k => by
  rw [← hK]
  unfold mulW at w
  split at w
  · rename_i i j e1 e2
    exact .inl ⟨i, j, h1.int e1, h2.int e2, w.1, k _ (.val (.int (i * j))) H G (.refl gh.ok) rfl w.2⟩
  · rename_i i j e1 e2
    obtain ⟨a, vs, rfl, s1, a1⟩ := h1.list gh e1
    refine .inr (.inl ⟨a, j, vs, rfl, h2.int e2, s1, by omega, by omega, ?_, fun p hp => k _ _ _ G (Ext.laid (.refl gh.ok) hp) (own_new gh hp (hfree p hp) (a1.rep _)) w.2.2.2⟩)
    rw [← a1.len]
    exact Nat.le_trans w.2.2.1 (by decide)
  · rename_i i j e1 e2
    obtain ⟨a, vs, rfl, s1, a1⟩ := h1.tup e1
    have hl := a1.len
    refine .inr (.inr ⟨a, j, vs, rfl, h2.int e2, s1, w.1, w.2.1, by rw [← hl]; exact w.2.2.1, fun z => ?_, fun _ p hp => k _ _ _ G (Ext.laid (.refl gh.ok) hp) (tup_new hp (a1.rep _)) w.2.2.2⟩)
    refine k _ (.val (.tup (List.replicate j.toNat i).flatten)) H G (.refl gh.ok) ⟨a, vs, rfl, s1, ?_⟩ w.2.2.2
    rcases z with z | z
    · subst z
      have z : i = [] := List.eq_nil_of_length_eq_zero (by rw [hl]; rfl)
      subst z
      have e : ∀ n : Nat, (List.replicate n ([] : List D)).flatten = [] := fun n => by induction n with
        | zero => rfl
        | succ n ih => rw [List.replicate_succ, List.flatten_cons, ih]; rfl
      rw [e]; rfl
    · subst z
      have e : (List.replicate (1 : Int).toNat i).flatten = i := by simp
      rw [e]; exact a1
  · exact w.elim
theorem de_mul (hK : C.K = X.K) (ha : PE X a (tOf C wa)) (hb : PE X b (tOf C wb)) : PE X (.BinOp a .Mult b pos) (tOf C (wOp mulW wa wb)) := de_op (OpR.or op_mul (op_rep.or op_repA)) (opd_mul hK) ha hb
theorem de_pow (ha : PE X a (tOf C wa)) (hb : PE X b (tOf C wb)) : PE X (.BinOp a .Pow b pos) (tOf C (wOp (w2i CPow fun i j => .int (i ^ j.toNat)) wa wb)) := de_op op_pow (opd_i fun _ _ _ _ => rfl) ha hb

/-! ### data for == -/
mutual
def toP : D → PyData
  | .non => .none
  | .bl b => .bool b
  | .int i => .int i
  | .str x => .str x
  | .tup ds => .tuple (toPs ds)
  | .lst ds => .list (toPs ds)
  | .dct => .none
  | .obj _ => .none
def toPs : List D → List PyData
  | [] => []
  | d :: ds => toP d :: toPs ds
end
mutual
/-- data alone, at most so deep -/
def dpt : D → Nat → Bool
  | .non, _ => true
  | .bl _, _ => true
  | .int _, _ => true
  | .str x, _ => (PyData.str x).canLay0
  | .tup ds, n => match n with | 0 => false | n + 1 => dpts ds n
  | .lst ds, n => match n with | 0 => false | n + 1 => dpts ds n
  | .dct, _ => false
  | .obj _, _ => false
def dpts : List D → Nat → Bool
  | [], _ => true
  | d :: ds, n => dpt d n && dpts ds n
end
mutual
theorem dpt_ok : ∀ (d : D) (n : Nat), dpt d n = true → (toP d).canLay0 = true ∧ (toP d).depth ≤ n
  | .non, n, _ => ⟨rfl, Nat.zero_le _⟩
  | .bl b, n, _ => ⟨rfl, Nat.zero_le _⟩
  | .int i, n, _ => ⟨rfl, Nat.zero_le _⟩
  | .str x, n, h => ⟨h, Nat.zero_le _⟩
  | .tup ds, 0, h => by cases h
  | .tup ds, n + 1, h => by
    obtain ⟨h1, h2⟩ := dpts_ok ds n h
    exact ⟨h1, Nat.succ_le_succ h2⟩
  | .lst ds, 0, h => by cases h
  | .lst ds, n + 1, h => by
    obtain ⟨h1, h2⟩ := dpts_ok ds n h
    exact ⟨h1, Nat.succ_le_succ h2⟩
  | .dct, n, h => by cases h
  | .obj _, n, h => by cases h
theorem dpts_ok : ∀ (ds : List D) (n : Nat), dpts ds n = true → PyData.canLayAll0 (toPs ds) = true ∧ PyData.depthAll (toPs ds) ≤ n
  | [], n, _ => ⟨rfl, Nat.zero_le _⟩
  | d :: ds, n, h => by
    have h' : dpt d n = true ∧ dpts ds n = true := by simpa [dpts] using h
    obtain ⟨a1, a2⟩ := dpt_ok d n h'.1
    obtain ⟨b1, b2⟩ := dpts_ok ds n h'.2
    refine ⟨?_, ?_⟩
    · show ((toP d).canLay0 && PyData.canLayAll0 (toPs ds)) = true
      rw [a1, b1]; rfl
    · show max (toP d).depth (PyData.depthAll (toPs ds)) ≤ n
      omega
end
theorem dpt_shaped {d : D} (h : dpt d 40 = true) : SeqAt.shaped (toP d) = true := by
  obtain ⟨h1, h2⟩ := dpt_ok d 40 h
  unfold SeqAt.shaped
  rw [h1, decide_eq_true (by omega)]; rfl
mutual
theorem At.dp (g : GhOk W H G) : ∀ (d : D) (v : V) (n : Nat), dpt d n = true → At K W H G d v → Dp K H v (toP d)
  | .non, v, n, _, h => by
    have h : v = .non := h
    subst h; exact .non
  | .bl b, v, n, _, h => by
    have h : v = .bl b := h
    subst h; exact .bl b
  | .int i, v, n, _, h => by
    have h : v = .int i := h
    subst h; exact .int i
  | .str x, v, n, _, h => by
    have h : v = .str x := h
    subst h; exact .str x
  | .tup ds, v, 0, z, h => by cases z
  | .tup ds, v, n + 1, z, h => by
    obtain ⟨a, vs, rfl, h1, h2⟩ := h
    exact .tup h1 (Ats.dp g ds vs n z h2)
  | .lst ds, v, 0, z, h => by cases z
  | .lst ds, v, n + 1, z, h => by
    obtain ⟨a, vs, rfl, h1, h2⟩ := h
    exact .lst (.inl (.inl (g.at_ _ _ h1).1)) (Ats.dp g ds vs n z h2)
  | .dct, v, n, z, h => by cases z
  | .obj _, v, n, z, h => by cases z
theorem Ats.dp (g : GhOk W H G) : ∀ (ds : List D) (vs : List V) (n : Nat), dpts ds n = true → Ats K W H G ds vs → DpAll K H vs (toPs ds)
  | [], vs, n, _, h => by
    have h : vs = [] := h
    subst h; exact .nil
  | d :: ds, vs, n, z, h => by
    have z' : dpt d n = true ∧ dpts ds n = true := by simpa [dpts] using z
    obtain ⟨v, r, rfl, h1, h2⟩ := h
    exact .cons (At.dp g d v n z'.1 h1) (Ats.dp g ds r n z'.2 h2)
end
theorem Rep.dp {r : R} {v : V} (h : Rep C Hs H G r v) (g : GhOk C.W H G) (z : dpt r.data 40 = true) : Dp C.K H v (toP r.data) := by
  cases r with
  | val d => exact At.dp g d v 40 z h
  | own ds =>
    obtain ⟨a, vs, rfl, h1, h2⟩ := h.list g rfl
    exact .lst (.inl (.inl h1)) (Ats.dp g ds vs 39 z h2)
  | bor ds =>
    obtain ⟨a, vs, rfl, h1, h2⟩ := h.list g rfl
    exact .lst (.inl (.inl h1)) (Ats.dp g ds vs 39 z h2)
/-- == of data -/
def eqP (d e : D) : Bool := PyData.eqv (toP d) (toP e)
@[simp] def eqW (neg : Bool) (d e : D) (q : R → Prop) : Prop := dpt d 40 = true ∧ dpt e 40 = true ∧ q (.val (.bl (if neg then !eqP d e else eqP d e)))
theorem opd_eq (hK : C.K = X.K) : OpD C (rEqD X.K) (eqW false) := fun H G r1 r2 x y Hs q Q gh hks hfree h1 h2 w k => by
  rw [← hK]
  obtain ⟨w1, w2, w3⟩ := w
  exact ⟨_, _, h1.dp gh w1, h2.dp gh w2, dpt_shaped w1, dpt_shaped w2, k _ _ H G (.refl gh.ok) (show Rep C Hs H G (.val (.bl _)) _ from rfl) w3⟩
theorem opd_ne (hK : C.K = X.K) : OpD C (rNeD X.K) (eqW true) := fun H G r1 r2 x y Hs q Q gh hks hfree h1 h2 w k => by
  rw [← hK]
  obtain ⟨w1, w2, w3⟩ := w
  exact ⟨_, _, h1.dp gh w1, h2.dp gh w2, dpt_shaped w1, dpt_shaped w2, k _ _ H G (.refl gh.ok) (show Rep C Hs H G (.val (.bl _)) _ from rfl) w3⟩
/-! ### in -/
def toV : D → Option V
  | .non => some .non
  | .bl b => some (.bl b)
  | .int i => some (.int i)
  | .str x => some (.str x)
  | _ => none
def toVs : List D → Option (List V)
  | [] => some []
  | d :: ds => match toV d, toVs ds with
    | some v, some vs => some (v :: vs)
    | _, _ => none
theorem toV_at {d : D} {v u : V} (e : toV d = some u) (h : At K W H G d v) : v = u ∧ flatV u = true := by
  cases d with
  | non => cases e; exact ⟨h, rfl⟩
  | bl b => cases e; exact ⟨h, rfl⟩
  | int b => cases e; exact ⟨h, rfl⟩
  | str b => cases e; exact ⟨h, rfl⟩
  | tup _ => cases e
  | lst _ => cases e
  | dct => cases e
  | obj _ => cases e
theorem toVs_at : ∀ {ds : List D} {vs us : List V}, toVs ds = some us → Ats K W H G ds vs → vs = us ∧ us.all flatV = true
  | [], vs, us, e, h => by
    have h : vs = [] := h
    cases e; exact ⟨h, rfl⟩
  | d :: ds, vs, us, e, h => by
    obtain ⟨v, r, rfl, h1, h2⟩ := h
    unfold toVs at e
    split at e
    · rename_i v' vs' e1 e2
      cases e
      obtain ⟨a1, a2⟩ := toV_at e1 h1
      obtain ⟨b1, b2⟩ := toVs_at e2 h2
      subst a1 b1
      exact ⟨rfl, by simp [a2, b2]⟩
    · cases e
@[simp] def inW (neg : Bool) (d e : D) (q : R → Prop) : Prop := match e with
  | .tup ds => ∃ v vs, toV d = some v ∧ toVs ds = some vs ∧ q (.val (.bl (if neg then !inV v vs else inV v vs)))
  | .lst ds => ∃ v vs, toV d = some v ∧ toVs ds = some vs ∧ q (.val (.bl (if neg then !inV v vs else inV v vs)))
  | _ => False
theorem opd_in (hK : C.K = X.K) (neg : Bool) : OpD C (rIn X.K neg) (inW neg) := fun H G r1 r2 x y Hs q Q gh hks hfree h1 h2 w k => by
  rw [← hK]
  have flat : ∀ {v : V}, toV r1.data = some v → x = v ∧ flatV v = true := fun {v} e => toV_at e (h1.flat (d := r1.data) rfl fun ds z => by rw [z] at e; cases e)
  unfold inW at w
  split at w
  · rename_i ds e
    obtain ⟨v, vs, e1, e2, w⟩ := w
    obtain ⟨a, us, rfl, s1, a1⟩ := h2.tup e
    obtain ⟨rfl, f1⟩ := flat e1
    obtain ⟨rfl, f2⟩ := toVs_at e2 a1
    exact ⟨a, us, rfl, .inr s1, f1, f2, k _ _ H G (.refl gh.ok) (show Rep C Hs H G (.val (.bl _)) _ from rfl) w⟩
  · rename_i ds e
    obtain ⟨v, vs, e1, e2, w⟩ := w
    obtain ⟨a, us, rfl, s1, a1⟩ := h2.list gh e
    obtain ⟨rfl, f1⟩ := flat e1
    obtain ⟨rfl, f2⟩ := toVs_at e2 a1
    exact ⟨a, us, rfl, .inl (.inl (.inl s1)), f1, f2, k _ _ H G (.refl gh.ok) (show Rep C Hs H G (.val (.bl _)) _ from rfl) w⟩
  · exact w.elim
/-! ### is None -/
@[simp] def isNonW (neg : Bool) (d e : D) (q : R → Prop) : Prop := match d, e with
  | .non, .non => q (.val (.bl (!neg)))
  | .obj _, _ => False
  | _, .non => q (.val (.bl neg))
  | _, _ => False
theorem isNon_run {neg : Bool} {d : D} {r2 : R} {y : V} {q : R → Prop} (h2 : Rep C Hs H G r2 y) (w : isNonW neg d r2.data q) : y = .non := by
  unfold isNonW at w
  split at w
  · rename_i e; exact h2.flat e (by intro _ z; cases z)
  · exact w.elim
  · rename_i e; exact h2.flat e (by intro _ z; cases z)
  · exact w.elim
theorem isNon_val {neg : Bool} {r1 : R} {x : V} {d : D} {q : R → Prop} (h1 : Rep C Hs H G r1 x) (w : isNonW neg r1.data d q) : q (.val (.bl (if neg then !decide (x = .non) else decide (x = .non)))) := by
  have ne : (∀ z, r1.data ≠ .obj z) → r1.data ≠ .non → x ≠ .non := fun no nn z => by
    subst z
    cases r1 with
    | val d =>
      cases d with
      | non => exact nn rfl
      | obj u => exact no u rfl
      | bl b => cases h1
      | int b => cases h1
      | str b => cases h1
      | tup b => obtain ⟨_, _, z, _⟩ := h1; cases z
      | lst b => obtain ⟨_, _, z, _⟩ := h1; cases z
      | dct => obtain ⟨_, z, _⟩ := h1; cases z
    | own ds => obtain ⟨_, _, z, _⟩ := h1; cases z
    | bor ds => obtain ⟨_, _, z, _⟩ := h1; cases z
  have key : ∀ d0, r1.data = d0 → isNonW neg d0 d q → q (.val (.bl (if neg then !decide (x = .non) else decide (x = .non)))) := fun d0 e0 w => by
    have yes : d0 = .non → d = .non → q (.val (.bl (!neg))) → q (.val (.bl (if neg then !decide (x = .non) else decide (x = .non)))) := fun a b w2 => by
      subst a
      have z : x = .non := h1.flat e0 (by intro _ z; cases z)
      subst z
      cases neg <;> simpa using w2
    have no : (∀ z, d0 ≠ .obj z) → d0 ≠ .non → q (.val (.bl neg)) → q (.val (.bl (if neg then !decide (x = .non) else decide (x = .non)))) := fun a b w => by
      have z : x ≠ .non := ne (fun z y => a z (e0.symm.trans y)) fun y => b (e0.symm.trans y)
      cases neg <;> simpa [z] using w
    cases d0 with
    | obj u => cases d <;> exact w.elim
    | non =>
      cases d with
      | non => exact yes rfl rfl w
      | _ => exact w.elim
    | _ =>
      cases d with
      | non => exact no (fun _ z => by cases z) (fun z => by cases z) w
      | _ => exact w.elim
  exact key _ rfl w
theorem opd_isN : OpD C (fun x y H Q => y = .non ∧ Q (.bl (decide (x = .non))) H) (isNonW false) := fun H G r1 r2 x y Hs q Q gh hks hfree h1 h2 w k =>
  ⟨isNon_run h2 w, k _ (.val (.bl _)) H G (.refl gh.ok) rfl (isNon_val (neg := false) h1 w)⟩
theorem opd_notN : OpD C (fun x y H Q => y = .non ∧ Q (.bl (!decide (x = .non))) H) (isNonW true) := fun H G r1 r2 x y Hs q Q gh hks hfree h1 h2 w k =>
  ⟨isNon_run h2 w, k _ (.val (.bl _)) H G (.refl gh.ok) rfl (isNon_val (neg := true) h1 w)⟩

/-! ### comparisons: values and tests -/
theorem de_cmp {op : CmpOp} {r : R2} {w : D → D → (R → Prop) → Prop} (ho : OpR X (compareOp op) r) (hr : OpD C r w) (ha : PE X a (tOf C wa)) (hb : PE X b (tOf C wb)) (hm : behindInMarks op b = false) : PE X (.Compare a [op] [b] pos) (tOf C (wOp w wa wb)) :=
  PE.str (pe_cmpR ho ha hb hm) (op_run hr)
@[simp] def wTst (w : WE) : WT := fun δ q => w δ fun r => match r with
  | .val (.bl b) => q b
  | _ => False
theorem tst_run {w : WE} {t : TE} (h : ∀ σ H Q, tOf C w σ H Q → t σ H Q) : ∀ σ H Q, bOf C (wTst w) σ H Q → tTest t σ H Q := fun σ H Q ⟨G, δ, q, f, hw, k⟩ =>
  h σ H _ ⟨G, δ, _, f, hw, fun v r H' G' e p hq => by
    split at hq
    · rename_i b
      exact ⟨b, p, k b H' G' e hq⟩
    · exact hq.elim⟩
theorem dt_cmp {op : CmpOp} {r : R2} {w : D → D → (R → Prop) → Prop} (ho : OpR X (compareOp op) r) (hr : OpD C r w) (ha : PE X a (tOf C wa)) (hb : PE X b (tOf C wb)) (hm : behindInMarks op b = false) : PT X (.Compare a [op] [b] pos) (bOf C (wTst (wOp w wa wb))) :=
  PT.str (pt_cmpR ho ha hb hm) (tst_run (op_run hr))
/-- the rule of a comparison -/
structure Cmp (X : Cx) (C : Ct) (op : CmpOp) (w : D → D → (R → Prop) → Prop) : Prop where
  ex : ∃ r : R2, OpR X (compareOp op) r ∧ OpD C r w
@[simp] def ltW := w2i (fun _ _ => True) fun i j => .bl (decide (i < j))
@[simp] def leW := w2i (fun _ _ => True) fun i j => .bl (decide (i ≤ j))
@[simp] def gtW := w2i (fun _ _ => True) fun i j => .bl (decide (j < i))
@[simp] def geW := w2i (fun _ _ => True) fun i j => .bl (decide (j ≤ i))
theorem c_lt : Cmp X C .Lt ltW := ⟨_, op_lt, opd_i0 fun _ _ _ _ => rfl⟩
theorem c_le : Cmp X C .LtE leW := ⟨_, op_le, opd_i0 fun _ _ _ _ => rfl⟩
theorem c_gt : Cmp X C .Gt gtW := ⟨_, op_gt, opd_i0 fun _ _ _ _ => rfl⟩
theorem c_ge : Cmp X C .GtE geW := ⟨_, op_ge, opd_i0 fun _ _ _ _ => rfl⟩
theorem c_eq (hu : X.A.units + 64 < cLine) (hK : C.K = X.K) : Cmp X C .Eq (eqW false) := ⟨_, op_eqD hu, opd_eq hK⟩
theorem c_ne (hu : X.A.units + 64 < cLine) (hK : C.K = X.K) : Cmp X C .NotEq (eqW true) := ⟨_, op_neD hu, opd_ne hK⟩
theorem c_in (hK : C.K = X.K) : Cmp X C .In (inW false) := ⟨_, op_in_seq, opd_in hK false⟩
theorem c_notIn (hK : C.K = X.K) : Cmp X C .NotIn (inW true) := ⟨_, op_notIn_seq, opd_in hK true⟩
theorem c_is : Cmp X C .Is (isNonW false) := ⟨_, op_isN, opd_isN⟩
theorem c_isNot : Cmp X C .IsNot (isNonW true) := ⟨_, op_notN, opd_notN⟩
theorem de_cmpC {op : CmpOp} {w : D → D → (R → Prop) → Prop} (c : Cmp X C op w) (ha : PE X a (tOf C wa)) (hb : PE X b (tOf C wb)) (hm : behindInMarks op b = false := by first | exact nobehind _ (by decide) (by decide) | rfl) : PE X (.Compare a [op] [b] pos) (tOf C (wOp w wa wb)) :=
  let ⟨_, ho, hr⟩ := c.ex; de_cmp ho hr ha hb hm
theorem dt_cmpC {op : CmpOp} {w : D → D → (R → Prop) → Prop} (c : Cmp X C op w) (ha : PE X a (tOf C wa)) (hb : PE X b (tOf C wb)) (hm : behindInMarks op b = false := by first | exact nobehind _ (by decide) (by decide) | rfl) : PT X (.Compare a [op] [b] pos) (bOf C (wTst (wOp w wa wb))) :=
  let ⟨_, ho, hr⟩ := c.ex; dt_cmp ho hr ha hb hm
/-- a op b op' c -/
@[simp] def wCh (w w' : D → D → (R → Prop) → Prop) (wa wb wc : WE) : WE := fun δ q => wa δ fun r1 => wb δ fun r2 => w r1.data r2.data fun s => match s with
  | .val (.bl true) => wc δ fun r3 => w' r2.data r3.data q
  | .val (.bl false) => q (.val (.bl false))
  | _ => False
theorem ch_run {r r' : R2} {w w' : D → D → (R → Prop) → Prop} (hr : OpD C r w) (hr' : OpD C r' w') : ∀ σ H Q, tOf C (wCh w w' wa wb wc) σ H Q → tChain r r' (tOf C wa) (tOf C wb) (tOf C wc) σ H Q := fun σ H Q ⟨G, δ, q, f, hw, k⟩ =>
  run f hw fun x r1 H1 G1 e1 f1 p1 q1 => run f1 q1 fun y r2 H2 G2 e2 f2 p2 q2 =>
    hr H2 G2 r1 r2 x y H _ _ f2.gh f.gh.ok (fun a h => e1.free (e2.free h)) (p1.up f1.gh.ok e2 (fun _ h => h) f.gh.ok) (p2.up f2.gh.ok (.refl f2.gh.ok) (fun _ h => e1.free h) f1.gh.ok) q2
      fun v s H3 G3 e3 p3 q3 => by
        have f3 := f2.up e3
        split at q3
        · refine ⟨true, p3, ?_⟩
          rw [if_pos rfl]
          refine run f3 q3 fun z r3 H4 G4 e4 f4 p4 q4 => ?_
          have e24 := e3.trans e4 f2.gh.ok
          exact hr' H4 G4 r2 r3 y z H q Q f4.gh f.gh.ok (fun a h => e1.free (e2.free (e24.free h))) ((p2.up f2.gh.ok e24 (fun _ h => e1.free h) f1.gh.ok)) (p4.up f4.gh.ok (.refl f4.gh.ok) (fun _ h => e1.free (e2.free (e3.free h))) f3.gh.ok) q4
            fun v s H5 G5 e5 p5 q5 => k v s H5 G5 (((e1.trans e2 f.gh.ok).trans e24 f.gh.ok).trans e5 f.gh.ok) p5 q5
        · refine ⟨false, p3, ?_⟩
          rw [if_neg Bool.false_ne_true]
          exact k _ (.val (.bl false)) H3 G3 ((e1.trans e2 f.gh.ok).trans e3 f.gh.ok) rfl q3
        · exact q3.elim
theorem de_ch {op op' : CmpOp} {w w' : D → D → (R → Prop) → Prop} (c1 : Cmp X C op w) (c2 : Cmp X C op' w') (ha : PE X a (tOf C wa)) (hb : PE X b (tOf C wb)) (hc : PE X c (tOf C wc)) (hm : lastMarks [op, op'] [b, c] = false := by with_unfolding_all rfl) :
    PE X (.Compare a [op, op'] [b, c] pos) (tOf C (wCh w w' wa wb wc)) := let ⟨_, h1, d1⟩ := c1.ex; let ⟨_, h2, d2⟩ := c2.ex; PE.str (pe_chain h1 h2 ha hb hc hm) (ch_run d1 d2)
theorem dt_ch {op op' : CmpOp} {w w' : D → D → (R → Prop) → Prop} (c1 : Cmp X C op w) (c2 : Cmp X C op' w') (ha : PE X a (tOf C wa)) (hb : PE X b (tOf C wb)) (hc : PE X c (tOf C wc)) (hm : lastMarks [op, op'] [b, c] = false := by with_unfolding_all rfl) :
    PT X (.Compare a [op, op'] [b, c] pos) (bOf C (wTst (wCh w w' wa wb wc))) := let ⟨_, h1, d1⟩ := c1.ex; let ⟨_, h2, d2⟩ := c2.ex; PT.str (pt_chain h1 h2 ha hb hc hm) (tst_run (ch_run d1 d2))
end
end L3

set_option maxRecDepth 100000
set_option maxHeartbeats 4000000
/-! The data layer: and, or, not, tests, subscripts, slices, built-ins, calls. -/
namespace L3
open PySem PySem.Spec L2
section
variable {X : Cx} {C : Ct} {e a b c : Expr} {es rest : List Expr} {wa wb wc : WE} {ta tb : WT} {wr : WA} {pos p : Pos} {K : PySem.W.Frag} {W : Wd} {H H' Hs : Hp} {G G' : Gh} {σ : St} {δ : De}

/-! ### and, or, not as values -/
@[simp] def wAnd (wa wb : WE) : WE := fun δ q => wa δ fun r => match r with
  | .val (.bl true) => wb δ q
  | .val (.bl false) => q (.val (.bl false))
  | _ => False
@[simp] def wOr (wa wb : WE) : WE := fun δ q => wa δ fun r => match r with
  | .val (.bl true) => q (.val (.bl true))
  | .val (.bl false) => wb δ q
  | _ => False
@[simp] def wNot (wa : WE) : WE := fun δ q => wa δ fun r => match r with
  | .val (.bl c) => q (.val (.bl (!c)))
  | _ => False
theorem de_one {op : BoolOp} (h : PE X a (tOf C wa)) : PE X (.BoolOp op [a] pos) (tOf C wa) := pe_one h
theorem de_and (ha : PE X a (tOf C wa)) (hb : PE X (.BoolOp .And (b :: rest) pos) (tOf C wb)) : PE X (.BoolOp .And (a :: b :: rest) pos) (tOf C (wAnd wa wb)) :=
  PE.str (pe_and ha hb) fun σ H Q ⟨G, δ, q, f, hw, k⟩ => run f hw fun v r H1 G1 e1 f1 p1 q1 => by
    split at q1
    · refine ⟨true, p1, ?_⟩
      rw [if_pos rfl]
      exact run f1 q1 fun v r H2 G2 e2 f2 p2 q2 => k v r H2 G2 (e1.trans e2 f.gh.ok) (p2.up f2.gh.ok (.refl f2.gh.ok) (fun _ h => e1.free h) f1.gh.ok) q2
    · refine ⟨false, p1, ?_⟩
      rw [if_neg Bool.false_ne_true]
      exact k _ (.val (.bl false)) H1 G1 e1 rfl q1
    · exact q1.elim
theorem de_or (ha : PE X a (tOf C wa)) (hb : PE X (.BoolOp .Or (b :: rest) pos) (tOf C wb)) : PE X (.BoolOp .Or (a :: b :: rest) pos) (tOf C (wOr wa wb)) :=
  PE.str (pe_or ha hb) fun σ H Q ⟨G, δ, q, f, hw, k⟩ => run f hw fun v r H1 G1 e1 f1 p1 q1 => by
    split at q1
    · refine ⟨true, p1, ?_⟩
      rw [if_pos rfl]
      exact k _ (.val (.bl true)) H1 G1 e1 rfl q1
    · refine ⟨false, p1, ?_⟩
      rw [if_neg Bool.false_ne_true]
      exact run f1 q1 fun v r H2 G2 e2 f2 p2 q2 => k v r H2 G2 (e1.trans e2 f.gh.ok) (p2.up f2.gh.ok (.refl f2.gh.ok) (fun _ h => e1.free h) f1.gh.ok) q2
    · exact q1.elim
theorem de_not (ha : PE X a (tOf C wa)) : PE X (.UnaryOp .Not a pos) (tOf C (wNot wa)) :=
  PE.str (pe_not ha) fun σ H Q ⟨G, δ, q, f, hw, k⟩ => run f hw fun v r H1 G1 e1 f1 p1 q1 => by
    split at q1
    · rename_i c
      exact ⟨c, p1, k _ (.val (.bl (!c))) H1 G1 e1 rfl q1⟩
    · exact q1.elim
theorem de_neg (ha : PE X a (tOf C wa)) : PE X (.UnaryOp .USub a pos) (tOf C (fun δ q => wa δ fun r => match r with | .val (.int i) => q (.val (.int (-i))) | _ => False)) :=
  PE.str (pe_un un_neg ha) fun σ H Q ⟨G, δ, q, f, hw, k⟩ => run f hw fun v r H1 G1 e1 f1 p1 q1 => by
    split at q1
    · rename_i c
      exact ⟨c, p1, k _ (.val (.int (-c))) H1 G1 e1 rfl q1⟩
    · exact q1.elim
/-! ### tests -/
@[simp] def truD : D → Option Bool
  | .non => some false
  | .bl b => some b
  | .int i => some (i != 0)
  | .tup ds => some (!ds.isEmpty)
  | .lst ds => some (!ds.isEmpty)
  | _ => none
@[simp] def wTru (w : WE) : WT := fun δ q => w δ fun r => match truD r.data with
  | some b => q b
  | none => False
theorem Ats.isEmpty {ds : List D} {vs : List V} (h : Ats K W H G ds vs) : ds.isEmpty = vs.isEmpty := by
  have hl := h.len
  cases ds <;> cases vs <;> simp_all
theorem tru_of (hK : C.K = X.K) (g : GhOk C.W H G) {r : R} {v : V} {b : Bool} (h : Rep C Hs H G r v) (e : truD r.data = some b) : TruV X.K v H b := by
  rw [← hK]
  generalize hd : r.data = d at e
  cases d with
  | non => cases e; rw [h.flat hd (by intro _ z; cases z)]; rfl
  | bl c => cases e; rw [h.bl hd]; rfl
  | int i => cases e; rw [h.int hd]; rfl
  | tup ds =>
    cases e
    obtain ⟨a, vs, rfl, h1, h2⟩ := h.tup hd
    exact .inr (.inl ⟨vs, h1, by rw [h2.isEmpty]⟩)
  | lst ds =>
    cases e
    obtain ⟨a, vs, rfl, h1, h2⟩ := h.list g hd
    exact .inl ⟨vs, .inl (.inl h1), by rw [h2.isEmpty]⟩
  | str x => cases e
  | dct => cases e
  | obj u => cases e
theorem dt_tru (hK : C.K = X.K) (ha : PE X a (tOf C wa)) (he : ∀ whole, isTrue a X.env whole = (do let v ← whole; standAt a.pos; holding [v] (truthy v)) := by intro _; rfl) : PT X a (bOf C (wTru wa)) :=
  PT.str (pt_truth ha he) fun σ H Q ⟨G, δ, q, f, hw, k⟩ => run f hw fun v r H1 G1 e1 f1 p1 q1 => by
    split at q1
    · rename_i b e
      exact ⟨b, tru_of hK f1.gh p1 e, k b H1 G1 e1 q1⟩
    · exact q1.elim
@[simp] def wAndT (ta tb : WT) : WT := fun δ q => ta δ fun c => match c with | true => tb δ q | false => q false
@[simp] def wOrT (ta tb : WT) : WT := fun δ q => ta δ fun c => match c with | true => q true | false => tb δ q
@[simp] def wNotT (ta : WT) : WT := fun δ q => ta δ fun c => q (!c)
theorem dw_and1 (ha : PT X a (bOf C ta)) : PW X (.BoolOp .And [a] pos) (bOf C ta) := pw_and1 ha
theorem dw_or1 (ha : PT X a (bOf C ta)) : PW X (.BoolOp .Or [a] pos) (bOf C ta) := pw_or1 ha
theorem dw_and (ha : PT X a (bOf C ta)) (hb : PW X (.BoolOp .And (b :: rest) pos) (bOf C tb)) : PW X (.BoolOp .And (a :: b :: rest) pos) (bOf C (wAndT ta tb)) :=
  PW.str (pw_and ha hb) fun σ H Q ⟨G, δ, q, f, hw, k⟩ => runT f hw fun c H1 G1 e1 f1 q1 => by
    cases c with
    | true => rw [if_pos rfl]; exact runT f1 q1 fun c H2 G2 e2 f2 q2 => k c H2 G2 (e1.trans e2 f.gh.ok) q2
    | false => rw [if_neg Bool.false_ne_true]; exact k false H1 G1 e1 q1
theorem dw_or (ha : PT X a (bOf C ta)) (hb : PW X (.BoolOp .Or (b :: rest) pos) (bOf C tb)) : PW X (.BoolOp .Or (a :: b :: rest) pos) (bOf C (wOrT ta tb)) :=
  PW.str (pw_or ha hb) fun σ H Q ⟨G, δ, q, f, hw, k⟩ => runT f hw fun c H1 G1 e1 f1 q1 => by
    cases c with
    | false => rw [if_neg Bool.false_ne_true]; exact runT f1 q1 fun c H2 G2 e2 f2 q2 => k c H2 G2 (e1.trans e2 f.gh.ok) q2
    | true => rw [if_pos rfl]; exact k true H1 G1 e1 q1
theorem dt_pw (h : PW X e (bOf C ta)) : PT X e (bOf C ta) := h.pt
theorem dt_not (ha : PT X a (bOf C ta)) : PT X (.UnaryOp .Not a pos) (bOf C (wNotT ta)) :=
  PT.str (pt_not ha) fun σ H Q ⟨G, δ, q, f, hw, k⟩ => runT f hw fun c H1 G1 e1 f1 q1 => k _ H1 G1 e1 q1
@[simp] def wIf (t : WT) (wa wb : WE) : WE := fun δ q => t δ fun c => match c with | true => wa δ q | false => wb δ q
theorem de_if {c : Expr} (hc : PT X c (bOf C ta)) (ha : PE X a (tOf C wa)) (hb : PE X b (tOf C wb)) : PE X (.IfExp c a b pos) (tOf C (wIf ta wa wb)) :=
  PE.str (pe_ifExp hc ha hb) fun σ H Q ⟨G, δ, q, f, hw, k⟩ => runT f hw fun c H1 G1 e1 f1 q1 => by
    cases c with
    | true => rw [if_pos rfl]; exact run f1 q1 fun v r H2 G2 e2 f2 p2 q2 => k v r H2 G2 (e1.trans e2 f.gh.ok) (p2.up f2.gh.ok (.refl f2.gh.ok) (fun _ h => e1.free h) f1.gh.ok) q2
    | false => rw [if_neg Bool.false_ne_true]; exact run f1 q1 fun v r H2 G2 e2 f2 p2 q2 => k v r H2 G2 (e1.trans e2 f.gh.ok) (p2.up f2.gh.ok (.refl f2.gh.ok) (fun _ h => e1.free h) f1.gh.ok) q2

/-! ### subscripts, slices -/
@[simp] def ixW : D → D → (R → Prop) → Prop
  | .lst ds, .int i, q => match atI ds i with | some d => q (.val d) | none => False
  | .tup ds, .int i, q => match atI ds i with | some d => q (.val d) | none => False
  | _, _, _ => False
theorem Ats.atI {ds : List D} {vs : List V} {i : Int} {d : D} (h : Ats K W H G ds vs) (e : L2.atI ds i = some d) : ∃ v, L2.atI vs i = some v ∧ At K W H G d v := by
  unfold L2.atI at e ⊢
  rw [← h.len]
  cases q : ixN ds.length i with
  | none => rw [q] at e; cases e
  | some j =>
    rw [q] at e
    exact h.get e
theorem opd_ix (hK : C.K = X.K) : OpD C (fun x y H Q => rIxL X.K x y H Q ∨ rIxT X.K x y H Q) ixW := fun H G r1 r2 x y Hs q Q gh hks hfree h1 h2 w k => by
  rw [← hK]
  unfold ixW at w
  split at w
  · rename_i ds i e1 e2
    split at w
    · rename_i d e3
      obtain ⟨a, vs, rfl, s1, a1⟩ := h1.list gh e1
      obtain ⟨v, e4, av⟩ := a1.atI e3
      exact .inl ⟨a, vs, i, v, rfl, h2.int e2, .inl (.inl s1), e4, k v (.val d) H G (.refl gh.ok) av w⟩
    · exact w.elim
  · rename_i ds i e1 e2
    split at w
    · rename_i d e3
      obtain ⟨a, vs, rfl, s1, a1⟩ := h1.tup e1
      obtain ⟨v, e4, av⟩ := a1.atI e3
      exact .inr ⟨a, vs, i, v, rfl, h2.int e2, s1, e4, k v (.val d) H G (.refl gh.ok) av w⟩
    · exact w.elim
  · exact w.elim
theorem IxR.or {r1 r2 : R2} (h1 : IxR X r1) (h2 : IxR X r2) : IxR X (fun x y H Q => r1 x y H Q ∨ r2 x y H Q) := fun value slice pins s σ H x y v u Q I rx ry h => h.elim (h1 value slice pins s σ H x y v u Q I rx ry) (h2 value slice pins s σ H x y v u Q I rx ry)
theorem de_ix (hK : C.K = X.K) (ha : PE X a (tOf C wa)) (hb : PE X b (tOf C wb)) (hs : PlainIx b := by exact fun _ _ => rfl) : PE X (.Subscript a b pos) (tOf C (wOp ixW wa wb)) := PE.str (pe_ix (IxR.or ix_list ix_tup) ha hb hs) (op_run (opd_ix hK))
abbrev WO := De → (Option Int → Prop) → Prop
def oOf (C : Ct) (w : WO) : TO := fun σ H Q => ∃ G δ q, Frm C H G σ δ ∧ w δ q ∧ ∀ o H' G', Ext C.W H G H' G' → q o → Q o H'
@[simp] def wNo : WO := fun _ q => q none
@[simp] def wSo (w : WE) : WO := fun δ q => w δ fun r => match r with | .val (.int i) => q (some i) | _ => False
theorem PO.str {e : Option Expr} {t t' : TO} (h : PO X e t) (hi : ∀ σ H Q, t' σ H Q → t σ H Q) : PO X e t' := ⟨fun pins s σ H Q I q => h.run pins s σ H Q I (hi σ H Q q)⟩
theorem do_none : PO X none (oOf C wNo) := PO.str po_none fun σ H Q ⟨G, δ, q, f, hw, k⟩ => k none H G (.refl f.gh.ok) hw
theorem do_some (h : PE X e (tOf C wa)) : PO X (some e) (oOf C (wSo wa)) := PO.str (po_some h) fun σ H Q ⟨G, δ, q, f, hw, k⟩ => run f hw fun v r H1 G1 e1 f1 p1 q1 => by
  split at q1
  · rename_i i
    exact ⟨i, p1, k _ H1 G1 e1 q1⟩
  · exact q1.elim
def cutD (xs : List D) (lo hi : Option Int) : List D := (xs.drop (HT.sIx xs.length 0 lo)).take (HT.sIx xs.length xs.length hi - HT.sIx xs.length 0 lo)
@[simp] def wSl (wa : WE) (wl wh : WO) : WE := fun δ q => wa δ fun r => wl δ fun lo => wh δ fun hi => match r.data with
  | .lst ds => q (.own (cutD ds lo hi))
  | .tup ds => q (.val (.tup (cutD ds lo hi)))
  | _ => False
theorem Ats.cut {ds : List D} {vs : List V} (h : Ats K W H G ds vs) (lo hi : Option Int) : Ats K W H G (cutD ds lo hi) (cutV vs lo hi) := by
  unfold cutD cutV
  rw [← h.len]
  exact (h.drop _).take _
theorem de_sl {lo hi : Option Expr} {wl wh : WO} {p2 : Pos} (hK : C.K = X.K) (ha : PE X e (tOf C wa)) (hl : PO X lo (oOf C wl)) (hh : PO X hi (oOf C wh)) : PE X (.Subscript e (.Slice lo hi none p2) pos) (tOf C (wSl wa wl wh)) :=
  PE.str (pe_slice (SlR.or sl_list sl_tupA) ha hl hh) fun σ H Q ⟨G, δ, q, f, hw, k⟩ => run f hw fun x r H1 G1 e1 f1 p1 q1 => ⟨G1, δ, _, f1, q1, fun l H2 G2 e2 q2 => ⟨G2, δ, _, f1.up e2, q2, fun u H3 G3 e3 q3 => by
    have f3 := (f1.up e2).up e3
    have e13 := e2.trans e3 f1.gh.ok
    have p3 := p1.up f1.gh.ok e13 (Hs' := H) (fun _ h => h) f.gh.ok
    split at q3
    · rename_i ds ed
      obtain ⟨a, vs, rfl, s1, a1⟩ := p3.list f3.gh ed
      exact .inl ⟨a, vs, rfl, .inl (.inl s1), fun p hp => k _ (.own _) _ G3 (Ext.laid (e1.trans e13 f.gh.ok) hp) (own_new f3.gh hp (e1.free (e13.free hp)) (a1.cut l u)) q3⟩
    · rename_i ds ed
      obtain ⟨a, vs, rfl, s1, a1⟩ := p3.tup ed
      refine .inr ⟨a, vs, rfl, hK ▸ s1, fun z => ?_, fun _ p hp => k _ (.val (.tup _)) _ G3 (Ext.laid (e1.trans e13 f.gh.ok) hp) (tup_new hp (a1.cut l u)) q3⟩
      have ec : cutD ds l u = ds := by
        have hl := a1.len
        unfold cutD
        rw [hl, z.1, z.2, List.drop_zero, Nat.sub_zero, ← hl, List.take_length]
      rw [ec] at q3
      exact k _ (.val (.tup ds)) H3 G3 (e1.trans e13 f.gh.ok) ⟨a, vs, rfl, s1, a1⟩ q3
    · exact q3.elim⟩⟩

/-! ### built-in calls -/
def CallD (C : Ct) (r : List V → Hp → VK → Prop) (w : List D → (R → Prop) → Prop) : Prop := ∀ (H : Hp) (G : Gh) (rs : List R) (xs : List V) (Hs : Hp) (q : R → Prop) (Q : VK), GhOk C.W H G → C.W.ok Hs → (∀ a, H a = none → Hs a = none) → Reps C Hs H G rs xs → w (rs.map R.data) q →
  (∀ v s H' G', Ext C.W H G H' G' → Rep C Hs H' G' s v → q s → Q v H') → r xs H Q
@[simp] def wCB (w : List D → (R → Prop) → Prop) (wr : WA) : WE := fun δ q => wr δ fun rs => w (rs.map R.data) q
theorem cb_run {r : List V → Hp → VK → Prop} {w : List D → (R → Prop) → Prop} (hr : CallD C r w) : ∀ σ H Q, tOf C (wCB w wr) σ H Q → tCB r (aOf C wr) σ H Q := fun σ H Q ⟨G, δ, q, f, hw, k⟩ =>
  runA f hw fun vs rs H1 G1 e1 f1 p1 q1 => hr H1 G1 rs vs H q Q f1.gh f.gh.ok (fun a h => e1.free h) p1 q1 fun v s H2 G2 e2 p2 q2 => k v s H2 G2 (e1.trans e2 f.gh.ok) p2 q2
theorem de_callB {x : Str} {id : String} {r : List V → Hp → VK → Prop} {w : List D → (R → Prop) → Prop} (hc : CallR X (.builtin id) r) (hr : CallD C r w) (hg : Gl X x) (hm : X.mg x = none) (hv : bootBuiltins x = some (.builtin id)) (ha : PA X (e :: es) (aOf C wr)) (hn : x ≠ "__name__" := by decide)
    (hdb : (x == ("__debug__" : Str)) = false := by decide) (he : starEach (e :: es) X.env = (false, eval e X.env) :: starEach es X.env := by rfl) (hpl : (backTo pos (starEach es X.env)).any (·.1) = false := by rfl) : PE X (.Call (.Name x p) (e :: es) [] pos) (tOf C (wCB w wr)) :=
  PE.str (pe_callB hc hg hm hv ha hn hdb he hpl) (cb_run hr)
theorem de_callTy {x : Str} {T : String} {r : List V → Hp → VK → Prop} {w : List D → (R → Prop) → Prop} (hc : CallR X (.type T) r) (hr : CallD C r w) (hg : Gl X x) (hm : X.mg x = none) (hv : bootBuiltins x = some (.type T)) (ha : PA X (e :: es) (aOf C wr)) (hn : x ≠ "__name__" := by decide)
    (hdb : (x == ("__debug__" : Str)) = false := by decide) (he : starEach (e :: es) X.env = (false, eval e X.env) :: starEach es X.env := by rfl) (hpl : (backTo pos (starEach es X.env)).any (·.1) = false := by rfl) : PE X (.Call (.Name x p) (e :: es) [] pos) (tOf C (wCB w wr)) :=
  PE.str (pe_callTy hc hg hm hv ha hn hdb he hpl) (cb_run hr)
theorem Reps.one {r : R} {rs : List R} {xs : List V} (h : Reps C Hs H G (r :: rs) xs) : ∃ x ys, xs = x :: ys ∧ Rep C Hs H G r x ∧ Reps C Hs H G rs ys := h
theorem Reps.nil {xs : List V} (h : Reps C Hs H G [] xs) : xs = [] := h
/-- one argument -/
theorem reps1 {rs : List R} {xs : List V} {d : D} (h : Reps C Hs H G rs xs) (e : rs.map R.data = [d]) : ∃ r x, xs = [x] ∧ r.data = d ∧ Rep C Hs H G r x := by
  cases rs with
  | nil => cases e
  | cons r rs =>
    cases rs with
    | cons _ _ => cases e
    | nil =>
      obtain ⟨x, ys, rfl, h1, h2⟩ := h
      have h2 : ys = [] := h2
      subst h2
      exact ⟨r, x, rfl, by simpa using e, h1⟩
theorem reps2 {rs : List R} {xs : List V} {d d' : D} (h : Reps C Hs H G rs xs) (e : rs.map R.data = [d, d']) : ∃ r r' x y, xs = [x, y] ∧ r.data = d ∧ r'.data = d' ∧ Rep C Hs H G r x ∧ Rep C Hs H G r' y := by
  cases rs with
  | nil => cases e
  | cons r rs =>
    obtain ⟨x, ys, rfl, h1, h2⟩ := h
    have e' : r.data = d ∧ rs.map R.data = [d'] := by simpa using e
    obtain ⟨r', y, rfl, e2, h3⟩ := reps1 h2 e'.2
    exact ⟨r, r', x, y, rfl, e'.1, e2, h1, h3⟩
@[simp] def lenW : List D → (R → Prop) → Prop
  | [.lst ds], q => q (.val (.int ds.length))
  | [.tup ds], q => q (.val (.int ds.length))
  | _, _ => False
theorem cd_len (hK : C.K = X.K) : CallD C (fun xs H Q => ∃ p ys, xs = [.ref p] ∧ (SqL X.K H p ys ∨ SqT X.K H p ys) ∧ Q (.int ys.length) H) lenW := fun H G rs xs Hs q Q gh hks hfree h w k => by
  rw [← hK]
  unfold lenW at w
  split at w
  · rename_i ds e
    obtain ⟨r, x, rfl, e1, h1⟩ := reps1 h e
    obtain ⟨a, vs, rfl, s1, a1⟩ := h1.list gh e1
    rw [a1.len] at w
    exact ⟨a, vs, rfl, .inl (.inl (.inl s1)), k _ (.val (.int _)) H G (.refl gh.ok) rfl w⟩
  · rename_i ds e
    obtain ⟨r, x, rfl, e1, h1⟩ := reps1 h e
    obtain ⟨a, vs, rfl, s1, a1⟩ := h1.tup e1
    rw [a1.len] at w
    exact ⟨a, vs, rfl, .inr s1, k _ (.val (.int _)) H G (.refl gh.ok) rfl w⟩
  · exact w.elim
@[simp] def listW : List D → (R → Prop) → Prop
  | [.lst ds], q => q (.own ds)
  | [.tup ds], q => q (.own ds)
  | _, _ => False
theorem cd_list (hK : C.K = X.K) : CallD C (fun xs H Q => ∃ p ys, xs = [.ref p] ∧ (SqL X.K H p ys ∨ SqT X.K H p ys) ∧ ∀ l, H l = none → Q (.ref l) (upd H l (.lst ys))) listW := fun H G rs xs Hs q Q gh hks hfree h w k => by
  rw [← hK]
  unfold listW at w
  split at w
  · rename_i ds e
    obtain ⟨r, x, rfl, e1, h1⟩ := reps1 h e
    obtain ⟨a, vs, rfl, s1, a1⟩ := h1.list gh e1
    exact ⟨a, vs, rfl, .inl (.inl (.inl s1)), fun p hp => k _ _ _ G (Ext.laid (.refl gh.ok) hp) (own_new gh hp (hfree p hp) a1) w⟩
  · rename_i ds e
    obtain ⟨r, x, rfl, e1, h1⟩ := reps1 h e
    obtain ⟨a, vs, rfl, s1, a1⟩ := h1.tup e1
    exact ⟨a, vs, rfl, .inr s1, fun p hp => k _ _ _ G (Ext.laid (.refl gh.ok) hp) (own_new gh hp (hfree p hp) a1) w⟩
  · exact w.elim
@[simp] def tupW : List D → (R → Prop) → Prop
  | [.lst ds], q => q (.val (.tup ds))
  | [.tup ds], q => q (.val (.tup ds))
  | _, _ => False
theorem cd_tup (hK : C.K = X.K) : CallD C (fun xs H Q => ∃ p ys, xs = [.ref p] ∧ ((SqL X.K H p ys ∧ ∀ l, H l = none → Q (.ref l) (upd H l (.tup ys))) ∨ (SqT X.K H p ys ∧ Q (.ref p) H))) tupW := fun H G rs xs Hs q Q gh hks hfree h w k => by
  rw [← hK]
  unfold tupW at w
  split at w
  · rename_i ds e
    obtain ⟨r, x, rfl, e1, h1⟩ := reps1 h e
    obtain ⟨a, vs, rfl, s1, a1⟩ := h1.list gh e1
    exact ⟨a, vs, rfl, .inl ⟨.inl (.inl s1), fun p hp => k _ _ _ G (Ext.laid (.refl gh.ok) hp) (tup_new hp a1) w⟩⟩
  · rename_i ds e
    obtain ⟨r, x, rfl, e1, h1⟩ := reps1 h e
    obtain ⟨a, vs, rfl, s1, a1⟩ := h1.tup e1
    exact ⟨a, vs, rfl, .inr ⟨s1, k _ (.val (.tup ds)) H G (.refl gh.ok) ⟨a, vs, rfl, s1, a1⟩ w⟩⟩
  · exact w.elim
def blsOf : List D → Option (List Bool)
  | [] => some []
  | .bl b :: ds => (blsOf ds).map (b :: ·)
  | _ => none
def intsOf : List D → Option (List Int)
  | [] => some []
  | .int b :: ds => (intsOf ds).map (b :: ·)
  | _ => none
theorem blsOf_at : ∀ {ds : List D} {vs : List V} {bs : List Bool}, blsOf ds = some bs → Ats K W H G ds vs → vs = bs.map V.bl
  | [], vs, bs, e, h => by cases e; exact h
  | d :: ds, vs, bs, e, h => by
    obtain ⟨v, r, rfl, h1, h2⟩ := h
    cases d with
    | bl b =>
      unfold blsOf at e
      obtain ⟨cs, e1, rfl⟩ := Option.map_eq_some_iff.mp e
      have h1 : v = .bl b := h1
      rw [h1, blsOf_at e1 h2]; rfl
    | _ => cases e
theorem intsOf_at : ∀ {ds : List D} {vs : List V} {bs : List Int}, intsOf ds = some bs → Ats K W H G ds vs → vs = bs.map V.int
  | [], vs, bs, e, h => by cases e; exact h
  | d :: ds, vs, bs, e, h => by
    obtain ⟨v, r, rfl, h1, h2⟩ := h
    cases d with
    | int b =>
      unfold intsOf at e
      obtain ⟨cs, e1, rfl⟩ := Option.map_eq_some_iff.mp e
      have h1 : v = .int b := h1
      rw [h1, intsOf_at e1 h2]; rfl
    | _ => cases e
@[simp] def allW : List D → (R → Prop) → Prop
  | [.lst ds], q => match blsOf ds with | some bs => q (.val (.bl (bs.all id))) | none => False
  | _, _ => False
@[simp] def anyW : List D → (R → Prop) → Prop
  | [.lst ds], q => match blsOf ds with | some bs => q (.val (.bl (bs.any id))) | none => False
  | _, _ => False
@[simp] def sumW : List D → (R → Prop) → Prop
  | [.lst ds], q => match intsOf ds with | some bs => q (.val (.int bs.sum)) | none => False
  | _, _ => False
theorem cd_all (hK : C.K = X.K) : CallD C (rAll X.K) allW := fun H G rs xs Hs q Q gh hks hfree h w k => by
  rw [← hK]
  unfold allW at w
  split at w
  · rename_i ds e
    split at w
    · rename_i bs eb
      obtain ⟨r, x, rfl, e1, h1⟩ := reps1 h e
      obtain ⟨a, vs, rfl, s1, a1⟩ := h1.list gh e1
      exact ⟨a, bs, rfl, by rw [← blsOf_at eb a1]; exact .inl (.inl s1), k _ (.val (.bl _)) H G (.refl gh.ok) rfl w⟩
    · exact w.elim
  · exact w.elim
theorem cd_any (hK : C.K = X.K) : CallD C (rAny X.K) anyW := fun H G rs xs Hs q Q gh hks hfree h w k => by
  rw [← hK]
  unfold anyW at w
  split at w
  · rename_i ds e
    split at w
    · rename_i bs eb
      obtain ⟨r, x, rfl, e1, h1⟩ := reps1 h e
      obtain ⟨a, vs, rfl, s1, a1⟩ := h1.list gh e1
      exact ⟨a, bs, rfl, by rw [← blsOf_at eb a1]; exact .inl (.inl s1), k _ (.val (.bl _)) H G (.refl gh.ok) rfl w⟩
    · exact w.elim
  · exact w.elim
theorem cd_sum (hK : C.K = X.K) : CallD C (rSum X.K) sumW := fun H G rs xs Hs q Q gh hks hfree h w k => by
  rw [← hK]
  unfold sumW at w
  split at w
  · rename_i ds e
    split at w
    · rename_i bs eb
      obtain ⟨r, x, rfl, e1, h1⟩ := reps1 h e
      obtain ⟨a, vs, rfl, s1, a1⟩ := h1.list gh e1
      exact ⟨a, bs, rfl, by rw [← intsOf_at eb a1]; exact .inl (.inl s1), k _ (.val (.int _)) H G (.refl gh.ok) rfl w⟩
    · exact w.elim
  · exact w.elim
@[simp] def maxW : List D → (R → Prop) → Prop
  | [.int i, .int j], q => q (.val (.int (if j > i then j else i)))
  | _, _ => False
@[simp] def minW : List D → (R → Prop) → Prop
  | [.int i, .int j], q => q (.val (.int (if j < i then j else i)))
  | _, _ => False
theorem cd_max2 : CallD C (fun xs H Q => ∃ i j, xs = [.int i, .int j] ∧ Q (.int (if j > i then j else i)) H) maxW := fun H G rs xs Hs q Q gh hks hfree h w k => by
  unfold maxW at w
  split at w
  · rename_i i j e
    obtain ⟨r, r', x, y, rfl, e1, e2, h1, h2⟩ := reps2 h e
    exact ⟨i, j, by rw [h1.int e1, h2.int e2], k _ (.val (.int _)) H G (.refl gh.ok) rfl w⟩
  · exact w.elim
theorem cd_min2 : CallD C (fun xs H Q => ∃ i j, xs = [.int i, .int j] ∧ Q (.int (if j < i then j else i)) H) minW := fun H G rs xs Hs q Q gh hks hfree h w k => by
  unfold minW at w
  split at w
  · rename_i i j e
    obtain ⟨r, r', x, y, rfl, e1, e2, h1, h2⟩ := reps2 h e
    exact ⟨i, j, by rw [h1.int e1, h2.int e2], k _ (.val (.int _)) H G (.refl gh.ok) rfl w⟩
  · exact w.elim
@[simp] def intW : List D → (R → Prop) → Prop
  | [.int i], q => q (.val (.int i))
  | _, _ => False
theorem cd_int : CallD C (fun xs H Q => (∃ i, xs = [.int i] ∧ Q (.int i) H) ∨ ∃ k, xs = [.bl k] ∧ Q (.int (if k then 1 else 0)) H) intW := fun H G rs xs Hs q Q gh hks hfree h w k => by
  unfold intW at w
  split at w
  · rename_i i e
    obtain ⟨r, x, rfl, e1, h1⟩ := reps1 h e
    exact .inl ⟨i, by rw [h1.int e1], k _ (.val (.int _)) H G (.refl gh.ok) rfl w⟩
  · exact w.elim
/-! ### isinstance -/
inductive Ty where
  | int | bool | str | tuple | list | dict
def Ty.nm : Ty → String
  | .int => "int" | .bool => "bool" | .str => "str" | .tuple => "tuple" | .list => "list" | .dict => "dict"
def tyD : D → Option String
  | .non => some "NoneType" | .bl _ => some "bool" | .int _ => some "int" | .str _ => some "str" | .tup _ => some "tuple" | .lst _ => some "list" | .dct => some "dict" | .obj _ => none
@[simp] def isiB : D → Ty → Option Bool
  | .bl _, .int => some true
  | .bl _, .bool => some true
  | .int _, .int => some true
  | .str _, .str => some true
  | .tup _, .tuple => some true
  | .lst _, .list => some true
  | .dct, .dict => some true
  | .obj _, _ => none
  | _, _ => some false
theorem isi_kit {d : D} {t : Ty} {b : Bool} (h : isiB d t = some b) : ∃ n, tyD d = some n ∧ PySem.W.kitOne K (.type n) (.type t.nm) = some b := by
  cases d <;> cases t <;> first | (cases h; exact ⟨_, rfl, kit_ty (by decide +kernel)⟩) | cases h
theorem tyX_of {r : R} {v : V} {n : String} (g : GhOk C.W H G) (h : Rep C Hs H G r v) (e : tyD r.data = some n) : TyX C.K H v (.type n) := by
  generalize hd : r.data = d at e
  cases d with
  | non => cases e; rw [h.flat hd (by intro _ z; cases z)]; exact .base .non
  | bl c => cases e; rw [h.bl hd]; exact .base (.bl c)
  | int i => cases e; rw [h.int hd]; exact .base (.int i)
  | str i => cases e; rw [h.str hd]; exact .base (.str i)
  | tup ds =>
    cases e
    obtain ⟨a, vs, rfl, h1, h2⟩ := h.tup hd
    rcases h1 with (h1 | ⟨o, h1⟩) | ⟨o, its, m, h1, h3, _⟩
    · exact .base (.tup h1)
    · exact .fTuple h1
    · exact .kTuple h1 h3
  | lst ds =>
    cases e
    obtain ⟨a, vs, rfl, h1, h2⟩ := h.list g hd
    exact .base (.lst h1)
  | dct =>
    cases e
    obtain ⟨a, rfl, h1, h2⟩ := h.flat hd (by intro _ z; cases z)
    exact .base (.dK h1)
  | obj u => cases e
@[simp] def wIsi (t : Ty) (wa : WE) : WE := fun δ q => wa δ fun r => match isiB r.data t with | some b => q (.val (.bl b)) | none => False
theorem de_isi {y : Str} {p1 p2 : Pos} (t : Ty) (hK : C.K = X.K) (hg : Gl X "isinstance") (hm : X.mg "isinstance" = none) (hgT : Gl X y) (hmT : X.mg y = none) (hvT : bootBuiltins y = some (.type t.nm)) (hnT : y ≠ "__name__" := by decide) (hdT : (y == ("__debug__" : Str)) = false := by decide) (ha : PE X a (tOf C wa))
    (he : starEach [a, .Name y p2] X.env = (false, eval a X.env) :: starEach [.Name y p2] X.env := by rfl) :
    PE X (.Call (.Name "isinstance" p1) [a, .Name y p2] [] pos) (tOf C (wIsi t wa)) :=
  PE.str (pe_callB call_isi hg hm (by decide +kernel) (pa_cons ha (pa_cons (pe_bltn (v := .ty t.nm) hgT hmT hvT rfl hnT hdT) pa_nil) he) (he := he)) fun σ H Q ⟨G, δ, q, f, hw, k⟩ => run f hw fun v r H1 G1 e1 f1 p1 q1 => by
    split at q1
    · rename_i b eb
      obtain ⟨n, en, ek⟩ := isi_kit (K := X.K) eb
      exact ⟨v, .ty t.nm, .type n, .type t.nm, b, rfl, .ty _, hK ▸ tyX_of f1.gh p1 en, ek, k _ (.val (.bl b)) H1 G1 e1 rfl q1⟩
    · exact q1.elim
end
end L3

set_option maxRecDepth 100000
set_option maxHeartbeats 4000000
/-! The data layer: calls of defs, statements, loops. -/
namespace L3
open PySem PySem.Spec L2

/-- an exception of a class of the program's own; TooMany with its number -/
structure Exn where
  cls : Str
  most : Option Int
def ExAt (mg : Str → Option Value) (z : Exn) (cls : Value) (d : Option Addr) (H : Hp) : Prop := (∃ a, mg z.cls = some (.ref a) ∧ cls = .ref a) ∧ (z.most = none → d = none) ∧ ∀ n, z.most = some n → ∃ x, d = some x ∧ H x = some (.xd [("most", .int n)])
abbrev WF := List D → (R → Prop) → (Exn → Prop) → Prop
/-- a def's promise, of data -/
def spW (K : PySem.W.Frag) (W : Wd) (mg : Str → Option Value) (sp : WF) (n : Nat) : Sp := fun vs H Q E => ∃ G ds q x, GhOk W H G ∧ Ats K W H G ds vs ∧ ds.length = n ∧ sp ds q x ∧
  (∀ v r H' G', Ext W H G H' G' → Rep ⟨K, W, H, G, mg⟩ H H' G' r v → nb r → q r → Q v H') ∧ ∀ z cls d H' G', Ext W H G H' G' → ExAt mg z cls d H' → x z → E cls d H'
theorem spW_len {K : PySem.W.Frag} {W : Wd} {mg : Str → Option Value} {sp : WF} {n : Nat} {ps : List Str} (h : n = ps.length) : ∀ vs H Q E, spW K W mg sp n vs H Q E → vs.length = ps.length := fun vs H Q E ⟨G, ds, q, x, g, a, l, _⟩ => by rw [← a.len, l, h]
/-- what raises in the context -/
def Lnk (C : Ct) (E : XK) (rx : Exn → Prop) : Prop := ∀ z cls d H' G', Ext C.W C.H0 C.G0 H' G' → ExAt C.mg z cls d H' → rx z → E cls d H'
structure Ctx (X : Cx) (C : Ct) (E : XK) (rx : Exn → Prop) : Prop where
  hK : C.K = X.K
  hM : C.mg = X.mg
  calm : X.calm = true
  pass : Passes (CX X.prog X.w) X E
  own : PassesOwn (model X.prog X.w) X.A X.env X.xe
  lnk : Lnk C E rx
  hu : X.A.units + 64 < cLine

@[simp] def nbB : List R → Bool
  | [] => true
  | .bor _ :: _ => false
  | _ :: rs => nbB rs
theorem nbB_ok : ∀ {rs : List R}, nbB rs = true → nbs rs
  | [], _ => trivial
  | .bor _ :: _, h => by cases h
  | .val _ :: rs, h => ⟨trivial, nbB_ok (rs := rs) h⟩
  | .own _ :: rs, h => ⟨trivial, nbB_ok (rs := rs) h⟩
@[simp] def noLR : R → Bool
  | .val d => noL d
  | .own ds => noLs ds
  | .bor _ => false
@[simp] def wCall (sp : WF) (wr : WA) (rx : Exn → Prop) : WE := fun δ q => wr δ fun rs => if nbB rs = true then sp (rs.map R.data) q rx else sp (rs.map R.data) (fun r => noLR r = true ∧ q r) rx

section
variable {X : Cx} {C : Ct} {E : XK} {rx : Exn → Prop} {e a b c : Expr} {es rest : List Expr} {wa wb wc : WE} {ta tb : WT} {wr : WA} {pos p : Pos} {K : PySem.W.Frag} {W : Wd} {H H' Hs H1 : Hp} {G G' G1 : Gh} {σ σ' : St} {δ : De} {sp : WF} {n : Nat}
open Classical in
/-- every list among the values is frozen -/
noncomputable def fzB (W : Wd) (H : Hp) (G : Gh) (vs : List V) : Gh := fun a => match G a with
  | some l => some l
  | none => if V.ref a ∈ vs ∧ ¬ W.vol a then lstOf (H a) else none
theorem fzB_old {vs : List V} {a : Addr} {l : List V} (h : G a = some l) : fzB W H G vs a = some l := by unfold fzB; rw [h]
theorem fzB_new {vs : List V} {a : Addr} {l : List V} (h : fzB W H G vs a = some l) : G a = some l ∨ (¬ W.vol a ∧ H a = some (.lst l)) := by
  unfold fzB at h
  split at h
  · rename_i q; cases h; exact .inl q
  · split at h
    · rename_i q
      exact .inr ⟨q.2, lstOf_some h⟩
    · cases h
theorem fzB_ok {vs : List V} (g : GhOk W H G) : GhOk W H (fzB W H G vs) := ⟨fun a l h => (fzB_new h).elim (g.at_ a l) fun h => ⟨h.2, h.1⟩, g.ok⟩
theorem fzB_up {vs : List V} : Up K W H G H (fzB W H G vs) := ⟨fun _ _ h => h, fun _ h _ => h, fun _ _ h => fzB_old h⟩
theorem fzB_at {vs : List V} {a : Addr} {l : List V} (g : GhOk W H G) (h : H a = some (.lst l)) (nv : ¬ W.vol a) (hm : V.ref a ∈ vs) : fzB W H G vs a = some l := by
  unfold fzB
  split
  · rename_i q
    have := (g.at_ _ _ q).1
    rw [h] at this; cases this; rfl
  · rw [if_pos ⟨hm, nv⟩, h]; rfl
theorem Reps.fzB {all : List V} (g : GhOk C.W H G) (hs : C.W.ok Hs) : ∀ {rs : List R} {vs : List V}, Reps C Hs H G rs vs → (∀ v ∈ vs, v ∈ all) → Ats C.K C.W H (L3.fzB C.W H G all) (rs.map R.data) vs
  | [], _, h, _ => h
  | r :: rs, _, ⟨v, us, e, h1, h2⟩, hm => by
    subst e
    refine ⟨v, us, rfl, ?_, Reps.fzB g hs h2 fun u hu => hm u (List.mem_cons_of_mem _ hu)⟩
    cases r with
    | val d => exact At.up fzB_up d v h1
    | own ds =>
      obtain ⟨a, ws, rfl, h0, h3, h4, h5⟩ := h1
      exact ⟨a, ws, rfl, fzB_at g h3 (C.W.some_of hs h0) (hm _ List.mem_cons_self), Ats.up fzB_up _ _ h5⟩
    | bor ds =>
      obtain ⟨a, ws, rfl, h0, nv, h3, h4, h5⟩ := h1
      exact ⟨a, ws, rfl, fzB_at g h3 nv (hm _ List.mem_cons_self), Ats.up fzB_up _ _ h5⟩
theorem fz_ok {vs : List V} (g : GhOk W H G) (hs : W.ok Hs) : GhOk W H (fz Hs H G vs) := ⟨fun a l h => (fz_new h).elim (g.at_ a l) fun h => ⟨h.2.1, W.some_of hs h.1⟩, g.ok⟩
theorem Rep.ctx {C' : Ct} {r : R} {v : V} (h : Rep C' Hs H G r v) (eK : C'.K = C.K) (eW : C'.W = C.W) (n : nb r) (e0 : ∀ a, Hs a = none → H1 a = none) : Rep C H1 H G r v := by
  cases r with
  | val d => have h : At C'.K C'.W H G d v := h; rw [eK, eW] at h; exact h
  | own ds =>
    obtain ⟨a, vs, e1, h0, h1, h2, h3⟩ := h
    rw [eK, eW] at h3
    exact ⟨a, vs, e1, e0 a h0, h1, h2, h3⟩
  | bor ds => exact n.elim
theorem Ext.ghost (e : Ext W H G H' G') (g : GhOk W H G1) : Ext W H G1 H' G1 := ⟨e.same, fun _ _ h => h, fun _ _ h => .inl h, e.ok⟩
/-- the callee's promise at evaluated arguments -/
theorem call_frm {σ : St} {δ : De} {q : R → Prop} {Q : VK} {vs : List V} {rs : List R} (L : Lnk C E rx) (hlen : ∀ ds q x, sp ds q x → ds.length = n) (f : Frm C H G σ δ) (f1 : Frm C H1 G1 σ δ) (e1 : Ext C.W H G H1 G1) (p1 : Reps C H H1 G1 rs vs) {dvs : List V} {dds : List D} (hdv : ∀ H G, Ats C.K C.W H G dds dvs)
    (q1 : if nbB rs = true then sp (rs.map R.data ++ dds) q rx else sp (rs.map R.data ++ dds) (fun r => noLR r = true ∧ q r) rx) (k : ∀ v r H' G', Ext C.W H G H' G' → Rep C H H' G' r v → q r → Q v H') : spW C.K C.W C.mg sp n (vs ++ dvs) H1 Q E := by
  have ex : ∀ {Gb : Gh} (z : Exn) cls d H' G', Ext C.W H1 Gb H' G' → ExAt C.mg z cls d H' → rx z → E cls d H' := fun z cls d H' G' e2 hz hx => L z cls d H' G1 (f1.ext.trans (Ext.ghost e2 f1.gh) f1.h0) hz hx
  split at q1
  · rename_i hb
    refine ⟨fz H H1 G1 vs, _, q, rx, fz_ok f1.gh f.gh.ok, (p1.fz f1.gh (nbB_ok hb) fun _ h => h).append (hdv _ _), hlen _ _ _ q1, q1, fun v r H' G' e2 p2 n2 q2 => ?_, fun z cls d H' G' => ex z cls d H' G'⟩
    exact k v r H' G' ((fz_ext e1).trans e2 f.gh.ok) (p2.ctx rfl rfl n2 fun a h => e1.free h) q2
  · refine ⟨fzB C.W H1 G1 vs, _, _, rx, fzB_ok f1.gh, (p1.fzB f1.gh f.gh.ok fun _ h => h).append (hdv _ _), hlen _ _ _ q1, q1, fun v r H' G' e2 p2 n2 ⟨nl, q2⟩ => ?_, fun z cls d H' G' => ex z cls d H' G'⟩
    have e2' := Ext.ghost e2 f1.gh
    refine k v r H' G1 (e1.trans e2' f.gh.ok) ?_ q2
    cases r with
    | val d => exact At.noL (fun _ _ h => h) d v nl p2
    | own ds =>
      obtain ⟨a, vs, e3, h0, h3, h4, h5⟩ := p2
      exact ⟨a, vs, e3, e1.free h0, h3, f1.gh.none h0, Ats.noL (fun _ _ h => h) ds vs nl h5⟩
    | bor ds => exact n2.elim
theorem call_run {dvs : List V} {dds : List D} (L : Lnk C E rx) (hdv : ∀ H G, Ats C.K C.W H G dds dvs) (hlen : ∀ ds q x, sp ds q x → ds.length = n) : ∀ σ H Q, tOf C (fun δ q => wr δ fun rs => if nbB rs = true then sp (rs.map R.data ++ dds) q rx else sp (rs.map R.data ++ dds) (fun r => noLR r = true ∧ q r) rx) σ H Q → tCall (spW C.K C.W C.mg sp n) dvs E (aOf C wr) σ H Q := fun σ H Q ⟨G, δ, q, f, hw, k⟩ =>
  runA f hw fun vs rs H1 G1 e1 f1 p1 q1 => call_frm L hlen f f1 e1 p1 hdv q1 k
theorem de_call {k : Nat} {f : Addr} {fd : FuncData} {ps : List Str} {x : Str} (c : Ctx X C E rx) (F : FnOk X.prog X.w X.K X.mg X.base (CX X.prog X.w) k f fd ps (spW C.K C.W C.mg sp n)) (hlen : ∀ ds q x, sp ds q x → ds.length = n) (hr : Room k X.A) (hg : Gl X x) (hm : X.mg x = some (.ref f)) (hk : PySem.W.keepIn X.K (.ref f) = true)
    (hb : Binds X.K fd ps []) (ha : PA X (e :: es) (aOf C wr)) (hdb : (x == ("__debug__" : Str)) = false := by decide) (he : starEach (e :: es) X.env = (false, eval e X.env) :: starEach es X.env := by rfl) (hpl : (backTo pos (starEach es X.env)).any (·.1) = false := by rfl) :
    PE X (.Call (.Name x p) (e :: es) [] pos) (tOf C (wCall sp wr rx)) :=
  PE.str (pe_call F hr hg hm hk hb .nil c.pass ha hdb he hpl) fun σ H Q h => by
    refine call_run (dds := []) c.lnk (fun _ _ => rfl) hlen σ H Q ?_
    obtain ⟨G, δ, q, f, hw, k⟩ := h
    refine ⟨G, δ, q, f, ?_, k⟩
    simpa [wCall] using hw
/-- .. the last parameters by their defaults -/
def wCallD (sp : WF) (wr : WA) (dds : List D) (rx : Exn → Prop) : WE := fun δ q => wr δ fun rs => if nbB rs = true then sp (rs.map R.data ++ dds) q rx else sp (rs.map R.data ++ dds) (fun r => noLR r = true ∧ q r) rx
theorem de_callD {k : Nat} {f : Addr} {fd : FuncData} {ps : List Str} {x : Str} {dvs : List V} {dus : List Value} {dds : List D} (c : Ctx X C E rx) (F : FnOk X.prog X.w X.K X.mg X.base (CX X.prog X.w) k f fd ps (spW C.K C.W C.mg sp n)) (hlen : ∀ ds q x, sp ds q x → ds.length = n) (hdv : ∀ H G, Ats C.K C.W H G dds dvs) (hv : Vals dvs dus)
    (hr : Room k X.A) (hg : Gl X x) (hm : X.mg x = some (.ref f)) (hk : PySem.W.keepIn X.K (.ref f) = true)
    (hb : Binds X.K fd ps dus) (ha : PA X (e :: es) (aOf C wr)) (hdb : (x == ("__debug__" : Str)) = false := by decide) (he : starEach (e :: es) X.env = (false, eval e X.env) :: starEach es X.env := by rfl) (hpl : (backTo pos (starEach es X.env)).any (·.1) = false := by rfl) :
    PE X (.Call (.Name x p) (e :: es) [] pos) (tOf C (wCallD sp wr dds rx)) :=
  PE.str (pe_call F hr hg hm hk hb hv c.pass ha hdb he hpl) (call_run c.lnk hdv hlen)

/-! ### statements -/
structure EndsD where
  nx : De → Prop
  rt : R → Prop
  bk : De → Prop := fun _ => False
  ct : De → Prop := fun _ => False
abbrev WS := De → EndsD → Prop
structure Corr (C : Ct) (H : Hp) (G : Gh) (q : EndsD) (D : Ends) : Prop where
  nx : ∀ σ' H' G' δ', Frm C H' G' σ' δ' → Up C.K C.W H G H' G' → q.nx δ' → D.nx σ' H'
  bk : ∀ σ' H' G' δ', Frm C H' G' σ' δ' → Up C.K C.W H G H' G' → q.bk δ' → D.bk σ' H'
  ct : ∀ σ' H' G' δ', Frm C H' G' σ' δ' → Up C.K C.W H G H' G' → q.ct δ' → D.ct σ' H'
  rt : ∀ v r H' G', Ext C.W C.H0 C.G0 H' G' → Rep C C.H0 H' G' r v → nb r → q.rt r → D.rt v H'
def sOf (C : Ct) (w : WS) : TS := fun D σ H => ∃ G δ q, Frm C H G σ δ ∧ w δ q ∧ Corr C H G q D
theorem PS.str {st : Stmt} {t t' : TS} (h : PS X st t) (hi : ∀ D σ H, t' D σ H → t D σ H) : PS X st t' := ⟨fun pins s σ H D I q => h.run pins s σ H D I (hi D σ H q)⟩
theorem PSs.str {st : List Stmt} {t t' : TS} (h : PSs X st t) (hi : ∀ D σ H, t' D σ H → t D σ H) : PSs X st t' := ⟨fun pins s σ H D I q => h.run pins s σ H D I (hi D σ H q)⟩
theorem Up.refl : Up K W H G H G := ⟨fun _ _ h => h, fun _ h _ => h, fun _ _ h => h⟩
theorem Up.trans {H2 : Hp} {G2 : Gh} (a : Up K W H G H1 G1) (b : Up K W H1 G1 H2 G2) : Up K W H G H2 G2 := ⟨fun x xs h => b.tup x xs (a.tup x xs h), fun x h n => b.dct x (a.dct x h n) n, fun x vs h => b.g x vs (a.g x vs h)⟩
theorem Corr.later {q : EndsD} {D : Ends} (c : Corr C H G q D) (u : Up C.K C.W H G H' G') : Corr C H' G' q D := ⟨fun σ' H2 G2 δ' f v => c.nx σ' H2 G2 δ' f (u.trans v), fun σ' H2 G2 δ' f v => c.bk σ' H2 G2 δ' f (u.trans v), fun σ' H2 G2 δ' f v => c.ct σ' H2 G2 δ' f (u.trans v), c.rt⟩
variable {st : Stmt} {sts : List Stmt} {w w1 w2 : WS}
@[simp] def wSeq (w1 w2 : WS) : WS := fun δ q => w1 δ { q with nx := fun δ' => w2 δ' q }
@[simp] def wSkip : WS := fun δ q => q.nx δ
theorem dss_nil : PSs X [] (sOf C wSkip) := PSs.str pss_nil fun D σ H ⟨G, δ, q, f, hw, k⟩ => k.nx σ H G δ f .refl hw
theorem dss_one (h : PS X st (sOf C w)) : PSs X [st] (sOf C w) := pss_one h
theorem dss_cons (h1 : PS X st (sOf C w1)) (h2 : PSs X sts (sOf C w2)) : PSs X (st :: sts) (sOf C (wSeq w1 w2)) :=
  PSs.str (pss_cons h1 h2) fun D σ H ⟨G, δ, q, f, hw, k⟩ => ⟨G, δ, _, f, hw, ⟨fun σ' H' G' δ' f' u q' => ⟨G', δ', q, f', q', k.later u⟩, k.bk, k.ct, k.rt⟩⟩
theorem ds_pass : PS X (.Pass pos) (sOf C wSkip) := PS.str ps_pass fun D σ H ⟨G, δ, q, f, hw, k⟩ => k.nx σ H G δ f .refl hw
theorem ds_break : PS X (.Break pos) (sOf C (fun δ q => q.bk δ)) := PS.str ps_break fun D σ H ⟨G, δ, q, f, hw, k⟩ => k.bk σ H G δ f .refl hw
theorem ds_continue : PS X (.Continue pos) (sOf C (fun δ q => q.ct δ)) := PS.str ps_continue fun D σ H ⟨G, δ, q, f, hw, k⟩ => k.ct σ H G δ f .refl hw
theorem ds_doc {x : Str} {j : Nat} {pos' : Pos} : PS X (.Expr (.Constant (.str x) j pos) pos') (sOf C wSkip) := PS.str ps_doc fun D σ H ⟨G, δ, q, f, hw, k⟩ => k.nx σ H G δ f .refl hw
theorem ds_never : PS X st (sOf C (fun _ _ => False)) := PS.str ps_never fun D σ H ⟨G, δ, q, f, hw, k⟩ => hw
theorem dss_never : PSs X sts (sOf C (fun _ _ => False)) := PSs.str pss_never fun D σ H ⟨G, δ, q, f, hw, k⟩ => hw
@[simp] def wRet (wa : WE) : WS := fun δ q => wa δ fun r => match r with
  | .bor ds => q.rt (.own ds)
  | r => q.rt r
theorem ds_ret (h : PE X e (tOf C wa)) : PS X (.Return (some e) pos) (sOf C (wRet wa)) := PS.str (ps_ret h) fun D σ H ⟨G, δ, q, f, hw, k⟩ => run f hw fun v r H1 G1 e1 f1 p1 q1 => by
  cases r with
  | val d => exact k.rt v (.val d) H1 G1 f1.ext p1 trivial q1
  | own ds =>
    obtain ⟨a, vs, e3, h0, h3, h4, h5⟩ := p1
    exact k.rt v (.own ds) H1 G1 f1.ext ⟨a, vs, e3, f.ext.free h0, h3, h4, h5⟩ trivial q1
  | bor ds =>
    obtain ⟨a, vs, e3, h0, nv, h3, h4, h5⟩ := p1
    exact k.rt v (.own ds) H1 G1 f1.ext ⟨a, vs, e3, h0, h3, h4, h5⟩ trivial q1
theorem ds_retN : PS X (.Return none pos) (sOf C (fun δ q => q.rt (.val .non))) := PS.str ps_retN fun D σ H ⟨G, δ, q, f, hw, k⟩ => k.rt _ (.val .non) H G f.ext rfl trivial hw
@[simp] def wIfS (t : WT) (w1 w2 : WS) : WS := fun δ q => t δ fun b => match b with | true => w1 δ q | false => w2 δ q
theorem ds_if {sa sb : List Stmt} (hc : PT X c (bOf C ta)) (ha : PSs X sa (sOf C w1)) (hb : PSs X sb (sOf C w2)) : PS X (.If c sa sb pos) (sOf C (wIfS ta w1 w2)) :=
  PS.str (ps_if hc ha hb) fun D σ H ⟨G, δ, q, f, hw, k⟩ => runT f hw fun b H1 G1 e1 f1 q1 => by
    cases b with
    | true => rw [if_pos rfl]; exact ⟨G1, δ, q, f1, q1, k.later (e1.up f.gh.ok)⟩
    | false => rw [if_neg Bool.false_ne_true]; exact ⟨G1, δ, q, f1, q1, k.later (e1.up f.gh.ok)⟩
@[simp] def wDrop (wa : WE) : WS := fun δ q => wa δ fun _ => q.nx δ
theorem ds_expr (h : PE X e (tOf C wa)) (hs : swapsWith e none pos.line X.env = pure false := by rfl) : PS X (.Expr e pos) (sOf C (wDrop wa)) := PS.str (ps_expr h hs) fun D σ H ⟨G, δ, q, f, hw, k⟩ => run f hw fun v r H1 G1 e1 f1 p1 q1 => k.nx σ H1 G1 δ f1 (e1.up f.gh.ok) q1

/-! ### targets -/
/-- only these slots differ -/
def Only (I : List Nat) (σ σ' : St) : Prop := σ'.length = σ.length ∧ ∀ i, i ∉ I → σ'[i]? = σ[i]?
abbrev WG := D → De → (De → Prop) → Prop
def gOf (C : Ct) (I : List Nat) (g : WG) : TG := fun v σ H Q => ∃ G δ d q, Frm C H G σ δ ∧ At C.K C.W H G d v ∧ g d δ q ∧ ∀ σ' δ', Frm C H G σ' δ' → Only I σ σ' → q δ' → Q σ' H
def gsOf (C : Ct) (I : List Nat) (g : List D → De → (De → Prop) → Prop) : TGs := fun vs σ H Q => ∃ G δ ds q, Frm C H G σ δ ∧ Ats C.K C.W H G ds vs ∧ g ds δ q ∧ ∀ σ' δ', Frm C H G σ' δ' → Only I σ σ' → q δ' → Q σ' H
theorem PG.str {tg : Expr} {t t' : TG} (h : PG X tg t) (hi : ∀ v σ H Q, t' v σ H Q → t v σ H Q) : PG X tg t' := ⟨fun pins s σ H v u Q I r q => h.run pins s σ H v u Q I r (hi v σ H Q q)⟩
theorem PGs.str {tg : List Expr} {t t' : TGs} (h : PGs X tg t) (hi : ∀ v σ H Q, t' v σ H Q → t v σ H Q) : PGs X tg t' := ⟨fun pins s σ H v u Q I r q => h.run pins s σ H v u Q I r (hi v σ H Q q)⟩
theorem Only.refl {I : List Nat} : Only I σ σ := ⟨rfl, fun _ _ => rfl⟩
theorem Only.set {i : Nat} {v : Option V} : Only [i] σ (σ.set i v) := ⟨by simp, fun j hj => List.getElem?_set_ne (fun z => hj (by simp [z]))⟩
theorem Only.trans {I J : List Nat} {σ2 : St} (a : Only I σ σ') (b : Only J σ' σ2) : Only (I ++ J) σ σ2 := ⟨b.1.trans a.1, fun i hi => by
  rw [List.mem_append, not_or] at hi
  rw [b.2 i hi.2, a.2 i hi.1]⟩
/-- a slot is stored -/
theorem Frm.set {i : Nat} {v : V} {s : Sl} (f : Frm C H G σ δ) (hs : SlAt C H G s v) (hap : ∀ j ds es, j ≠ i → s = .own es → δ[j]? = some (some (.own ds)) → σ[j]? ≠ some (some v)) : Frm C H G (σ.set i (some v)) (δ.set i (some s)) := by
  refine ⟨by simp [f.len], f.gh, f.h0, f.ext, fun j t ht => ?_, fun j l ds es u h1 h2 h3 h4 => ?_⟩
  · by_cases hj : i = j
    · subst hj
      have hlt : i < δ.length := by have := (List.getElem?_eq_some_iff.mp ht).1; simpa using this
      rw [List.getElem?_set_self hlt] at ht
      cases ht
      exact ⟨v, List.getElem?_set_self (by rw [f.len]; exact hlt), hs⟩
    · rw [List.getElem?_set_ne hj] at ht ⊢
      exact f.sl j t ht
  · by_cases hj : i = j
    · subst hj
      by_cases hl : i = l
      · exact hl
      · have hlt : i < δ.length := by have := (List.getElem?_eq_some_iff.mp h1).1; simpa using this
        rw [List.getElem?_set_self hlt] at h1
        rw [List.getElem?_set_self (by rw [f.len]; exact hlt)] at h3
        rw [List.getElem?_set_ne hl] at h2 h4
        cases h1; cases h3
        exact absurd h4 (hap l es ds (fun z => hl z.symm) rfl h2)
    · by_cases hl : i = l
      · subst hl
        have hlt : i < δ.length := by have := (List.getElem?_eq_some_iff.mp h2).1; simpa using this
        rw [List.getElem?_set_self hlt] at h2
        rw [List.getElem?_set_self (by rw [f.len]; exact hlt)] at h4
        rw [List.getElem?_set_ne hj] at h1 h3
        cases h2; cases h4
        exact absurd h3 (hap j ds es (fun z => hj z.symm) rfl h1)
      · rw [List.getElem?_set_ne hj] at h1 h3
        rw [List.getElem?_set_ne hl] at h2 h4
        exact f.ap j l ds es u h1 h2 h3 h4
theorem Frm.setV {i : Nat} {v : V} {d : D} (f : Frm C H G σ δ) (hs : At C.K C.W H G d v) : Frm C H G (σ.set i (some v)) (δ.set i (some (.val d))) := f.set (s := .val d) hs fun j ds es _ z => by cases z
@[simp] def gNm (i : Nat) : WG := fun d δ q => q (δ.set i (some (.val d)))
theorem dg_name (i : Nat) {x : Str} (hN : X.N.Nodup) (hi : X.N[i]? = some x := by rfl) (hx : Loc X.env.scope x := by first | exact Or.inl rfl | exact Or.inr rfl) (hf : X.fn x = true ∨ X.env.scope.names.lookup x = some .local := by first | exact .inl rfl | exact .inr rfl | assumption) : PG X (.Name x pos) (gOf C [i] (gNm i)) :=
  PG.str (pg_name hN hi hx hf) fun v σ H Q ⟨G, δ, d, q, f, ha, hg, k⟩ => k _ _ (f.setV ha) .set hg
@[simp] def gsNil : List D → De → (De → Prop) → Prop := fun ds δ q => match ds with | [] => q δ | _ => False
@[simp] def gsCons (g : WG) (gs : List D → De → (De → Prop) → Prop) : List D → De → (De → Prop) → Prop := fun ds δ q => match ds with
  | [] => False
  | d :: ds => g d δ fun δ' => gs ds δ' q
theorem dgs_nil : PGs X [] (gsOf C [] gsNil) := PGs.str pgs_nil fun vs σ H Q ⟨G, δ, ds, q, f, ha, hg, k⟩ => by
  unfold gsNil at hg
  split at hg
  · exact ⟨ha, k σ δ f .refl hg⟩
  · exact hg.elim
theorem dgs_cons {I J : List Nat} {g : WG} {gs : List D → De → (De → Prop) → Prop} (h1 : PG X e (gOf C I g)) (h2 : PGs X es (gsOf C J gs)) (hs : (assignEach (e :: es) X.env).map (·.2) = assign e X.env :: (assignEach es X.env).map (·.2) := by rfl) : PGs X (e :: es) (gsOf C (I ++ J) (gsCons g gs)) :=
  PGs.str (pgs_cons h1 h2 hs) fun vs σ H Q ⟨G, δ, ds, q, f, ha, hg, k⟩ => by
    unfold gsCons at hg
    split at hg
    · exact hg.elim
    · rename_i d ds
      obtain ⟨v, r, rfl, a1, a2⟩ := ha
      exact ⟨v, r, rfl, G, δ, d, _, f, a1, hg, fun σ1 δ1 f1 o1 q1 => ⟨G, δ1, ds, q, f1, a2, q1, fun σ2 δ2 f2 o2 q2 => k σ2 δ2 f2 (o1.trans o2) q2⟩⟩
@[simp] def gTp (n : Nat) (gs : List D → De → (De → Prop) → Prop) : WG := fun d δ q => match d with
  | .tup ds => ds.length = n ∧ gs ds δ q
  | _ => False
end
end L3

set_option maxRecDepth 100000
set_option maxHeartbeats 4000000
/-! The data layer: assignments, lists that change, loops, comprehensions, bodies. -/
namespace L3
open PySem PySem.Spec L2
section
variable {X : Cx} {C : Ct} {E : XK} {rx : Exn → Prop} {e a b c tg : Expr} {es rest : List Expr} {wa wb wc : WE} {ta tb : WT} {wr : WA} {pos p : Pos} {K : PySem.W.Frag} {W : Wd} {H H' Hs H1 : Hp} {G G' G1 : Gh} {σ σ' : St} {δ : De} {sp : WF} {n : Nat} {st : Stmt} {sts : List Stmt} {w w1 w2 : WS}
theorem dg_tup {k : Nat} {I : List Nat} {gs : List D → De → (De → Prop) → Prop} {n : Nat} (hK : C.K = X.K) (hc : X.calm = true) (h : PGs X es (gsOf C I gs)) (hn : (assignEach es X.env).length = n := by rfl) (hst : (assignEach es X.env).findIdx? (·.1) = none := by rfl) : PG X (.Tuple es k pos) (gOf C I (gTp n gs)) :=
  PG.str (pg_tup hc h hn hst) fun v σ H Q ⟨G, δ, d, q, f, ha, hg, k⟩ => by
    unfold gTp at hg
    split at hg
    · rename_i ds
      obtain ⟨a, vs, rfl, h1, h2⟩ := ha
      exact ⟨a, vs, rfl, hK ▸ h1, by rw [← h2.len]; exact hg.1, G, δ, ds, q, f, h2, hg.2, k⟩
    · exact hg.elim

/-! ### assignments -/
@[simp] def stD : R → Option Sl
  | .val d => some (.val d)
  | .own ds => some (.own ds)
  | .bor _ => none
/-- a result of an expression that began at Hs is stored -/
theorem Frm.store {i : Nat} {v : V} {r : R} {s : Sl} {Gs : Gh} (f : Frm C H G σ δ) (fs : Frm C Hs Gs σ δ) (h : Rep C Hs H G r v) (e : stD r = some s) : Frm C H G (σ.set i (some v)) (δ.set i (some s)) := by
  cases r with
  | val d => cases e; exact f.setV h
  | own ds =>
    cases e
    obtain ⟨a, vs, rfl, h0, h1, h2, h3⟩ := h
    refine f.set (s := .own ds) ⟨a, vs, rfl, fs.ext.free h0, C.W.some_of fs.gh.ok h0, h1, h2, h3⟩ fun j cs es _ _ h4 h5 => ?_
    obtain ⟨u, e1, b, us, rfl, _, _, h6, _⟩ := fs.sl j _ h4
    rw [h5] at e1; cases e1
    rw [h0] at h6; cases h6
  | bor ds => cases e
@[simp] def wSet (i : Nat) (wa : WE) : WS := fun δ q => wa δ fun r => match stD r with
  | some s => q.nx (δ.set i (some s))
  | none => False
theorem set_run (i : Nat) {t : TE} (ht : ∀ σ H Q, tOf C wa σ H Q → t σ H Q) : ∀ D σ H, sOf C (wSet i wa) D σ H → tAsg t (gName i) D σ H := fun D σ H ⟨G, δ, q, f, hw, k⟩ => ht σ H _ (run f hw fun v r H1 G1 e1 f1 p1 q1 => by
  split at q1
  · rename_i s es
    exact k.nx _ H1 G1 _ (f1.store f p1 es) (e1.up f.gh.ok) q1
  · exact q1.elim)
theorem ds_set (i : Nat) {x : Str} {pos' : Pos} (hN : X.N.Nodup) (he : PE X e (tOf C wa)) (hi : X.N[i]? = some x := by rfl) (hx : Loc X.env.scope x := by first | exact Or.inl rfl | exact Or.inr rfl) (hs : swapsWith e (some (.Name x pos')) pos.line X.env = pure false := by rfl)
    (hf : X.fn x = true ∨ X.env.scope.names.lookup x = some .local := by first | exact .inl rfl | exact .inr rfl | assumption) : PS X (.Assign [.Name x pos'] e pos) (sOf C (wSet i wa)) := PS.str (ps_set hN hi hx he hs hf) (set_run i fun _ _ _ h => h)
@[simp] def wAsg (wa : WE) (g : WG) : WS := fun δ q => wa δ fun r => match r with
  | .val d => g d δ q.nx
  | _ => False
theorem ds_asg {I : List Nat} {g : WG} (he : PE X e (tOf C wa)) (hg : PG X tg (gOf C I g)) (hs : swapsWithSole [tg] e pos.line X.env = pure false := by rfl) (hw : swappedStores [tg] e X.env = pure none := by rfl) (h1 : (assignEach [tg] X.env).map (·.2) = [assign tg X.env] := by rfl) :
    PS X (.Assign [tg] e pos) (sOf C (wAsg wa g)) := PS.str (ps_asg he hg hs hw h1) fun D σ H ⟨G, δ, q, f, hw, k⟩ => run f hw fun v r H1 G1 e1 f1 p1 q1 => by
  cases r with
  | val d => exact ⟨G1, δ, d, q.nx, f1, p1, q1, fun σ' δ' f' _ q' => k.nx σ' H1 G1 δ' f' (e1.up f.gh.ok) q'⟩
  | own _ => exact q1.elim
  | bor _ => exact q1.elim
/-- x, y = a, b -/
@[simp] def wPar (i j : Nat) (wa wb : WE) : WS := fun δ q => wa δ fun r1 => wb δ fun r2 => match stD r1, stD r2 with
  | some s1, some s2 => q.nx ((δ.set i (some s1)).set j (some s2))
  | _, _ => False
theorem Frm.store2 {i j : Nat} {v u : V} {r1 r2 : R} {s1 s2 : Sl} {Gs Gm : Gh} {Hm : Hp} (hij : i ≠ j) (f : Frm C H G σ δ) (fs : Frm C Hs Gs σ δ) (fm : Frm C Hm Gm σ δ) (esm : Ext C.W Hs Gs Hm Gm) (em : Ext C.W Hm Gm H G) (h1 : Rep C Hs Hm Gm r1 v) (h2 : Rep C Hm H G r2 u) (e1 : stD r1 = some s1) (e2 : stD r2 = some s2) :
    Frm C H G ((σ.set i (some v)).set j (some u)) ((δ.set i (some s1)).set j (some s2)) := by
  have g1 := f.store (i := i) fs (h1.up fm.gh.ok em (fun _ h => h) fs.gh.ok) e1
  cases r2 with
  | val d => cases e2; exact g1.setV h2
  | own ds =>
    cases e2
    obtain ⟨a, vs, rfl, h0, h3, h4, h5⟩ := h2
    refine g1.set (s := .own ds) ⟨a, vs, rfl, fm.ext.free h0, C.W.some_of fm.gh.ok h0, h3, h4, h5⟩ fun l cs es _ _ h6 h7 => ?_
    by_cases hl : i = l
    · subst hl
      have hlt : i < δ.length := by have := (List.getElem?_eq_some_iff.mp h6).1; simpa using this
      rw [List.getElem?_set_self hlt] at h6
      rw [List.getElem?_set_self (by rw [f.len]; exact hlt)] at h7
      cases h7
      cases h6
      cases r1 with
      | val d => cases e1
      | own es =>
        obtain ⟨b, us, e, _, h8, _⟩ := h1
        cases e
        rw [h0] at h8; cases h8
      | bor es => cases e1
    · rw [List.getElem?_set_ne hl] at h6 h7
      obtain ⟨u', e3, b, us, rfl, _, _, h8, _⟩ := fm.sl l _ h6
      rw [h7] at e3; cases e3
      rw [h0] at h8; cases h8
  | bor ds => cases e2
theorem ds_par {i j : Nat} {x y : Str} {px py pt : Pos} {kt k2 : Nat} {pt2 : Pos} (hc : X.calm = true) (hN : X.N.Nodup) (ha : PE X a (tOf C wa)) (hb : PE X b (tOf C wb)) (hi : X.N[i]? = some x := by rfl) (hj : X.N[j]? = some y := by rfl) (hij : i ≠ j := by decide)
    (hx : X.env.scope.names.lookup x = some .local := by rfl) (hy : X.env.scope.names.lookup y = some .local := by rfl)
    (hw : swappedStores [.Tuple [.Name x px, .Name y py] kt pt] (.Tuple [a, b] k2 pt2) X.env = pure (some [x, y]) := by rfl)
    (hs : swapsWithSole [.Tuple [.Name x px, .Name y py] kt pt] (.Tuple [a, b] k2 pt2) pos.line X.env = pure false := by rfl) (h1 : starEach [a, b] X.env = (false, eval a X.env) :: starEach [b] X.env := by rfl) (h2 : starEach [b] X.env = (false, eval b X.env) :: starEach [] X.env := by rfl) :
    PS X (.Assign [.Tuple [.Name x px, .Name y py] kt pt] (.Tuple [a, b] k2 pt2) pos) (sOf C (wPar i j wa wb)) :=
  PS.str (ps_par hc hN hi hj hij hx hy (pa_cons ha (pa_cons hb pa_nil h2) h1) hw hs) fun D σ H ⟨G, δ, q, f, hw, k⟩ => run f hw fun v r1 H1 G1 e1 f1 p1 q1 => run f1 q1 fun u r2 H2 G2 e2 f2 p2 q2 => by
    split at q2
    · rename_i s1 s2 es1 es2
      exact ⟨v, u, rfl, k.nx _ H2 G2 _ (f2.store2 hij f f1 e1 e2 p1 p2 es1 es2) ((e1.trans e2 f.gh.ok).up f.gh.ok) q2⟩
    · exact q2.elim

/-! ### a name's list is frozen -/
@[simp] def fzD (i : Nat) (δ : De) : De := match δ[i]? with
  | some (some (.own ds)) => δ.set i (some (.val (.lst ds)))
  | _ => δ
theorem fzD_frm (i : Nat) (f : Frm C H G σ δ) : ∃ G', Frm C H G' σ (fzD i δ) ∧ Up C.K C.W H G H G' := by
  unfold fzD
  split
  · rename_i ds e
    obtain ⟨v, e1, a, vs, rfl, h0, nv, h1, h2, h3⟩ := f.sl i _ e
    have hG : ∀ b l, (fz C.H0 H G [V.ref a]) b = some l → G b = some l ∨ (b = a ∧ l = vs) := fun b l hb => by
      rcases fz_new hb with z | ⟨_, z2, z3⟩
      · exact .inl z
      · have e : b = a := by simpa using z3
        subst e
        rw [h1] at z2; cases z2
        exact .inr ⟨rfl, rfl⟩
    have g' : GhOk C.W H (fz C.H0 H G [V.ref a]) := ⟨fun b l hb => (hG b l hb).elim (f.gh.at_ b l) fun ⟨e1, e2⟩ => by subst e1 e2; exact ⟨h1, nv⟩, f.gh.ok⟩
    refine ⟨fz C.H0 H G [V.ref a], ⟨by simp [f.len], g', f.h0, fz_ext f.ext, fun j s hs => ?_, fun j l ds1 ds2 v hj hl vj vl => ?_⟩, fz_up⟩
    · by_cases hj : i = j
      · subst hj
        have hlt : i < δ.length := (List.getElem?_eq_some_iff.mp e).1
        rw [List.getElem?_set_self hlt] at hs
        cases hs
        exact ⟨_, e1, a, vs, rfl, fz_at h1 h0 (by simp) f.gh, Ats.up fz_up _ _ h3⟩
      · rw [List.getElem?_set_ne hj] at hs
        obtain ⟨u, e2, h4⟩ := f.sl j s hs
        refine ⟨u, e2, ?_⟩
        cases s with
        | val d => exact At.up fz_up d u h4
        | own es =>
          obtain ⟨b, us, rfl, h5, nv', h6, h7, h8⟩ := h4
          refine ⟨b, us, rfl, h5, nv', h6, ?_, Ats.up fz_up _ _ h8⟩
          cases z : fz C.H0 H G [V.ref a] b with
          | none => rfl
          | some l =>
            rcases hG b l z with z1 | ⟨z1, z2⟩
            · rw [h7] at z1; cases z1
            · subst z1
              exact absurd (f.ap i j ds es _ e hs e1 e2) hj
    · have nj : i ≠ j := fun z => by
        subst z
        have hlt : i < δ.length := (List.getElem?_eq_some_iff.mp e).1
        rw [List.getElem?_set_self hlt] at hj; cases hj
      have nl : i ≠ l := fun z => by
        subst z
        have hlt : i < δ.length := (List.getElem?_eq_some_iff.mp e).1
        rw [List.getElem?_set_self hlt] at hl; cases hl
      rw [List.getElem?_set_ne nj] at hj
      rw [List.getElem?_set_ne nl] at hl
      exact f.ap j l ds1 ds2 v hj hl vj vl
  · exact ⟨G, f, Up.refl⟩
@[simp] def wFz (i : Nat) (w : WS) : WS := fun δ q => w (fzD i δ) q
theorem ds_fz (i : Nat) (h : PS X st (sOf C w)) : PS X st (sOf C (wFz i w)) := PS.str h fun D σ H ⟨G, δ, q, f, hw, k⟩ => by
  obtain ⟨G', f', u⟩ := fzD_frm i f
  exact ⟨G', fzD i δ, q, f', hw, k.later u⟩

/-! ### lists that change -/
/-- the list of slot i is written -/
theorem Frm.write {i : Nat} {ds ds' : List D} {a : Addr} {vs vs' : List V} (f : Frm C H G σ δ) (hi : δ[i]? = some (some (.own ds))) (hv : σ[i]? = some (some (.ref a))) (hH : H a = some (.lst vs)) (ha : Ats C.K C.W H G ds' vs') :
    Frm C (upd H a (.lst vs')) G σ (δ.set i (some (.own ds'))) ∧ Up C.K C.W H G (upd H a (.lst vs')) G := by
  obtain ⟨v0, e0, a0, vs0, rfl, h0, nv, h1, h2, h3⟩ := f.sl i _ hi
  rw [hv] at e0; cases e0
  have nG : ∀ b l, G b = some l → b ≠ a := fun b l hb z => by subst z; rw [h2] at hb; cases hb
  have nR : ∀ b o, H b = some o → (∀ l, o ≠ .lst l) → b ≠ a := fun b o hb no z => by subst z; rw [hH] at hb; cases hb; exact no _ rfl
  have nRig : ∀ b o, H b = some o → Rigid o → b ≠ a := fun b o hb r => nR b o hb fun l z => by subst z; exact r
  have u : Up C.K C.W H G (upd H a (.lst vs')) G := by
    refine ⟨fun b xs h => ?_, fun b h n => ?_, fun _ _ h => h⟩
    · rcases h with (h | ⟨o, h⟩) | h
      · exact .inl (.inl (by rw [upd_ne (nRig b _ h trivial)]; exact h))
      · exact .inl (.inr ⟨o, by rw [upd_ne (nRig b _ h trivial)]; exact h⟩)
      · exact .inr h
    · rw [upd_ne (nR b _ h fun l z => by cases z)]; exact h
  have okW : C.W.ok (upd H a (.lst vs')) := C.W.loc H _ (fun b o hb hvr => by
    have nb : b ≠ a := hvr.elim (fun hw z => by subst z; exact nv hw) fun r => nRig b o hb r
    rw [upd_ne nb]; exact hb) (fun b ps h => by
      by_cases hb : b = a
      · subst hb; rw [upd_same] at h; cases h
      · rwa [upd_ne hb] at h) f.gh.ok
  refine ⟨⟨by simp [f.len], ⟨fun b l hb => ⟨by rw [upd_ne (nG b l hb)]; exact (f.gh.at_ b l hb).1, (f.gh.at_ b l hb).2⟩, okW⟩, f.h0, ⟨fun b o n hb => ?_, f.ext.g, fun b l hb => ?_, okW⟩, fun j s hs => ?_, fun j l ds1 ds2 v hj hl vj vl => ?_⟩, u⟩
  · rw [upd_ne (ne_of_none hb h0)]; exact f.ext.same b o n hb
  · rcases f.ext.new b l hb with z | ⟨z1, z2⟩
    · exact .inl z
    · exact .inr ⟨z1, by rw [upd_ne (nG b l hb)]; exact z2⟩
  · have hlt : i < δ.length := (List.getElem?_eq_some_iff.mp hi).1
    by_cases hj : i = j
    · subst hj
      rw [List.getElem?_set_self hlt] at hs
      cases hs
      exact ⟨_, hv, a, vs', rfl, h0, nv, upd_same, h2, Ats.up u _ _ ha⟩
    · rw [List.getElem?_set_ne hj] at hs
      obtain ⟨v, e2, h4⟩ := f.sl j s hs
      refine ⟨v, e2, ?_⟩
      cases s with
      | val d => exact At.up u d v h4
      | own es =>
        obtain ⟨b, us, rfl, h5, nv', h6, h7, h8⟩ := h4
        have nb : b ≠ a := fun z => by subst z; exact hj (f.ap i j ds es _ hi hs hv e2)
        exact ⟨b, us, rfl, h5, nv', by rw [upd_ne nb]; exact h6, h7, Ats.up u _ _ h8⟩
  · have hlt : i < δ.length := (List.getElem?_eq_some_iff.mp hi).1
    have back : ∀ {m : Nat} {d1 : List D}, (δ.set i (some (.own ds')))[m]? = some (some (.own d1)) → ∃ d2, δ[m]? = some (some (.own d2)) := fun {m d1} hm => by
      by_cases h : i = m
      · subst h; exact ⟨ds, hi⟩
      · rw [List.getElem?_set_ne h] at hm; exact ⟨d1, hm⟩
    obtain ⟨d1, b1⟩ := back hj
    obtain ⟨d2, b2⟩ := back hl
    exact f.ap j l d1 d2 v b1 b2 vj vl
/-- the slot's list as it stands -/
theorem Frm.list {i : Nat} {ds : List D} (f : Frm C H G σ δ) (hi : δ[i]? = some (some (.own ds))) : ∃ a vs, σ[i]? = some (some (.ref a)) ∧ H a = some (.lst vs) ∧ Ats C.K C.W H G ds vs := by
  obtain ⟨v0, e0, a, vs, rfl, h0, nv, h1, h2, h3⟩ := f.sl i _ hi
  exact ⟨a, vs, e0, h1, h3⟩
/-- one more value is frozen in a frame that began at Hs -/
theorem Frm.keepV {r : R} {v : V} {Gs : Gh} (f : Frm C H G σ δ) (fs : Frm C Hs Gs σ δ) (e : Ext C.W Hs Gs H G) (h : Rep C Hs H G r v) (n : nb r) : ∃ G', Frm C H G' σ δ ∧ Up C.K C.W H G H G' ∧ At C.K C.W H G' r.data v := by
  have h1 : Reps C Hs H G [r] [v] := ⟨v, [], rfl, h, rfl⟩
  obtain ⟨v', us, e1, a1, a2⟩ := h1.fz (all := [v]) f.gh ⟨n, trivial⟩ (fun _ h => h)
  cases e1
  exact ⟨fz Hs H G [v], fs.up (fz_ext e), fz_up, a1⟩
/-- one more change of an own list, a value frozen first -/
theorem app_run {i : Nat} {ds ds' : List D} {r : R} {v : V} {Gs : Gh} {vs' : List V → V → List V} (fs : Frm C Hs Gs σ δ) (hi : δ[i]? = some (some (.own ds))) (f1 : Frm C H G σ δ) (e1 : Ext C.W Hs Gs H G) (p1 : Rep C Hs H G r v) (n : nb r)
    (hA : ∀ G' vs, Ats C.K C.W H G' ds vs → At C.K C.W H G' r.data v → Ats C.K C.W H G' ds' (vs' vs v)) : ∃ a vs G', σ[i]? = some (some (.ref a)) ∧ H a = some (.lst vs) ∧ Ats C.K C.W H G ds vs ∧ Frm C (upd H a (.lst (vs' vs v))) G' σ (δ.set i (some (.own ds'))) ∧ Up C.K C.W Hs Gs (upd H a (.lst (vs' vs v))) G' := by
  obtain ⟨G', f', u', a'⟩ := f1.keepV fs e1 p1 n
  obtain ⟨a, vs, h1, h2, h3⟩ := f'.list hi
  obtain ⟨a2, vs2, h12, h22, h32⟩ := f1.list hi
  rw [h1] at h12; cases h12
  rw [h2] at h22; cases h22
  obtain ⟨g1, g2⟩ := f'.write hi h1 h2 (hA G' vs h3 a')
  exact ⟨a, vs, G', h1, h2, h32, g1, (e1.up fs.gh.ok).trans (u'.trans g2)⟩
@[simp] def wApp (i : Nat) (wa : WE) : WS := fun δ q => match δ[i]? with
  | some (some (.own ds)) => wa δ fun r => nb r ∧ ds.length < sizeLine ∧ q.nx (δ.set i (some (.own (ds ++ [r.data]))))
  | _ => False
theorem ds_app (i : Nat) {x : Str} {apos cpos px pos : Pos} (ha : PE X a (tOf C wa)) (hN : X.N[i]? = some x := by rfl) (hv : Vis X.env.scope x := by first | exact Or.inl rfl | exact Or.inr (Or.inl rfl) | exact Or.inr (Or.inr rfl)) (hd : (x == ("__debug__" : Str)) = false := by decide)
    (hcd : (x == ("__classdict__" : Str)) = false := by decide) (hbase : attributeBase (.Name x px) "append" X.env (eval (.Name x px) X.env) = eval (.Name x px) X.env := by rfl)
    (hfew : ((backTo cpos (starEach [a] X.env)).all (fun x => !x.1) && (backToKw cpos (keywordEach [] X.env)).all (fun x => x.1.isSome) && decide ([a].length + ([] : List Keyword).length + (if ([] : List Keyword).isEmpty then 0 else 1) < 30)) = true := by rfl)
    (hline : (apos.endLine == cpos.line) = true := by rfl) (hs : starEach [a] X.env = (false, eval a X.env) :: starEach [] X.env := by rfl) (hplain : (backTo cpos (starEach [] X.env)).any (·.1) = false := by rfl)
    (hsw : swapsWith (.Call (.Attribute (.Name x px) "append" apos) [a] [] cpos) none pos.line X.env = pure false := by rfl) :
    PS X (.Expr (.Call (.Attribute (.Name x px) "append" apos) [a] [] cpos) pos) (sOf C (wApp i wa)) :=
  PS.str (ps_expr (pe_bm PySem.F.plainAttrs_list PySem.F.slot_list_append PySem.F.type_list_append mt_append (pe_var hN hv hd hcd) (pa_cons ha pa_nil hs) hbase hfew hline hs hplain) hsw) fun D σ H ⟨G, δ, q, f, hw, k⟩ => by
    unfold wApp at hw
    split at hw
    · rename_i ds hi
      obtain ⟨a, vs, h1, h2, h3⟩ := f.list hi
      refine ⟨_, h1, .inl ⟨rfl, vs, .inl (.inl h2)⟩, run f hw fun v r H1 G1 e1 f1 p1 ⟨n, hz, q1⟩ => ?_⟩
      obtain ⟨a', us, G', h4, h5, h6, g1, g2⟩ := app_run (ds' := ds ++ [r.data]) (vs' := fun vs v => vs ++ [v]) f hi f1 e1 p1 n fun G' vs h h' => h.append (.one h')
      rw [h1] at h4; cases h4
      exact ⟨a, us, v, rfl, rfl, h5, by rw [← h6.len]; exact hz, k.nx σ _ G' _ g1 g2 q1⟩
    · exact hw.elim
/-- found.extend(list) -/
@[simp] def wExt (i : Nat) (wa : WE) : WS := fun δ q => match δ[i]? with
  | some (some (.own ds)) => wa δ fun r => match r with
    | .own es => ds.length + es.length ≤ sizeLine ∧ q.nx (δ.set i (some (.own (ds ++ es))))
    | .val (.lst es) => ds.length + es.length ≤ sizeLine ∧ q.nx (δ.set i (some (.own (ds ++ es))))
    | _ => False
  | _ => False
theorem ds_ext (i : Nat) {x : Str} {apos cpos px pos : Pos} (ha : PE X a (tOf C wa)) (hN : X.N[i]? = some x := by rfl) (hv : Vis X.env.scope x := by first | exact Or.inl rfl | exact Or.inr (Or.inl rfl) | exact Or.inr (Or.inr rfl)) (hd : (x == ("__debug__" : Str)) = false := by decide)
    (hcd : (x == ("__classdict__" : Str)) = false := by decide) (hbase : attributeBase (.Name x px) "extend" X.env (eval (.Name x px) X.env) = eval (.Name x px) X.env := by rfl)
    (hfew : ((backTo cpos (starEach [a] X.env)).all (fun x => !x.1) && (backToKw cpos (keywordEach [] X.env)).all (fun x => x.1.isSome) && decide ([a].length + ([] : List Keyword).length + (if ([] : List Keyword).isEmpty then 0 else 1) < 30)) = true := by rfl)
    (hline : (apos.endLine == cpos.line) = true := by rfl) (hs : starEach [a] X.env = (false, eval a X.env) :: starEach [] X.env := by rfl) (hplain : (backTo cpos (starEach [] X.env)).any (·.1) = false := by rfl)
    (hsw : swapsWith (.Call (.Attribute (.Name x px) "extend" apos) [a] [] cpos) none pos.line X.env = pure false := by rfl) :
    PS X (.Expr (.Call (.Attribute (.Name x px) "extend" apos) [a] [] cpos) pos) (sOf C (wExt i wa)) :=
  PS.str (ps_expr (pe_bm PySem.F.plainAttrs_list PySem.F.slot_list_extend PySem.F.type_list_extend mt_extend (pe_var hN hv hd hcd) (pa_cons ha pa_nil hs) hbase hfew hline hs hplain) hsw) fun D σ H ⟨G, δ, q, f, hw, k⟩ => by
    unfold wExt at hw
    split at hw
    · rename_i ds hi
      obtain ⟨a, vs, h1, h2, h3⟩ := f.list hi
      refine ⟨_, h1, .inl ⟨rfl, vs, .inl (.inl h2)⟩, run f hw fun v r H1 G1 e1 f1 p1 q1 => ?_⟩
      obtain ⟨a', us, h4, h5, h6⟩ := f1.list hi
      rw [h1] at h4; cases h4
      have fin : ∀ es, r.data = .lst es → ds.length + es.length ≤ sizeLine ∧ q.nx (δ.set i (some (.own (ds ++ es)))) → rExtend (.ref a) [v] H1 (fun _ H2 => D.nx σ H2) := fun es ee ⟨hz, q2⟩ => by
        obtain ⟨b, ws, rfl, h7, h8⟩ := p1.list f1.gh ee
        obtain ⟨g1, g2⟩ := f1.write hi h1 h5 (h6.append h8)
        exact ⟨a, b, us, ws, rfl, rfl, h5, h7, by rw [← h6.len, ← h8.len]; exact hz, k.nx σ _ G1 _ g1 ((e1.up f.gh.ok).trans g2) q2⟩
      split at q1
      · exact fin _ rfl q1
      · exact fin _ rfl q1
      · exact q1.elim
    · exact hw.elim
/-- o[i] = v, o a name -/
@[simp] def wSub (i : Nat) (wa wi : WE) : WS := fun δ q => match δ[i]? with
  | some (some (.own ds)) => wa δ fun r => nb r ∧ wi δ fun r2 => match r2 with
    | .val (.int z) => match ixN ds.length z with
      | some j => q.nx (δ.set i (some (.own (ds.set j r.data))))
      | none => False
    | _ => False
  | _ => False
theorem ds_sub (i : Nat) {x : Str} {px ps pos : Pos} (ha : PE X a (tOf C wa)) (hb : PE X b (tOf C wb)) (hN : X.N[i]? = some x := by rfl) (hv : Vis X.env.scope x := by first | exact Or.inl rfl | exact Or.inr (Or.inl rfl) | exact Or.inr (Or.inr rfl)) (hd : (x == ("__debug__" : Str)) = false := by decide)
    (hcd : (x == ("__classdict__" : Str)) = false := by decide) (hs : swapsWithSole [.Subscript (.Name x px) b ps] a pos.line X.env = pure false := by rfl) (hw : swappedStores [.Subscript (.Name x px) b ps] a X.env = pure none := by rfl) (h1 : (assignEach [.Subscript (.Name x px) b ps] X.env).map (·.2) = [assign (.Subscript (.Name x px) b ps) X.env] := by rfl)
    (has : ∀ v, assign (.Subscript (.Name x px) b ps) X.env v = (do
      let ov ← holding [v] (eval (.Name x px) X.env)
      let iv ← holding [v, ov] (eval b X.env)
      standAt ps
      holding [v, ov, iv] (setItem ov iv v)
      release [v, ov, iv] []) := by intro _; rfl) :
    PS X (.Assign [.Subscript (.Name x px) b ps] a pos) (sOf C (wSub i wa wb)) :=
  PS.str (ps_asg ha (pg_sub (pe_var hN hv hd hcd) hb set_list has) hs hw h1) fun D σ H ⟨G, δ, q, f, hw, k⟩ => by
    unfold wSub at hw
    split at hw
    · rename_i ds hi
      refine run f hw fun v r H1 G1 e1 f1 p1 ⟨n, q1⟩ => ?_
      obtain ⟨G', f', u', a'⟩ := f1.keepV f e1 p1 n
      obtain ⟨a, vs, h4, h5, h6⟩ := f'.list hi
      refine ⟨_, h4, run f' q1 fun u r2 H2 G2 e2 f2 p2 q2 => ?_⟩
      split at q2
      · rename_i z
        split at q2
        · rename_i j ej
          have p2 : u = .int z := p2
          subst p2
          obtain ⟨a2, us, h7, h8, h9⟩ := f2.list hi
          rw [h4] at h7; cases h7
          obtain ⟨g1, g2⟩ := f2.write hi h4 h8 (h9.set (i := j) (At.up (e2.up f'.gh.ok) _ _ a'))
          exact ⟨a, us, z, j, rfl, rfl, h8, by rw [← h9.len]; exact ej, k.nx σ _ G2 _ g1 (((e1.up f.gh.ok).trans u').trans ((e2.up f'.gh.ok).trans g2)) q2⟩
        · exact q2.elim
      · exact q2.elim
    · exact hw.elim
/-- y = x.pop(0) -/
@[simp] def wPop0 (j i : Nat) : WS := fun δ q => match δ[i]? with
  | some (some (.own (d :: ds))) => q.nx ((δ.set i (some (.own ds))).set j (some (.val d)))
  | _ => False
theorem ds_pop0 (j i : Nat) {x y : Str} {apos cpos px py pos pz : Pos} {kz : Nat} (hNd : X.N.Nodup) (hN : X.N[i]? = some x := by rfl) (hNy : X.N[j]? = some y := by rfl) (hy : Loc X.env.scope y := by first | exact Or.inl rfl | exact Or.inr rfl) (hv : Vis X.env.scope x := by first | exact Or.inl rfl | exact Or.inr (Or.inl rfl) | exact Or.inr (Or.inr rfl)) (hd : (x == ("__debug__" : Str)) = false := by decide)
    (hcd : (x == ("__classdict__" : Str)) = false := by decide) (hbase : attributeBase (.Name x px) "pop" X.env (eval (.Name x px) X.env) = eval (.Name x px) X.env := by rfl)
    (hfew : ((backTo cpos (starEach [(.Constant (.int 0) kz pz)] X.env)).all (fun x => !x.1) && (backToKw cpos (keywordEach [] X.env)).all (fun x => x.1.isSome) && decide ([(Expr.Constant (.int 0) kz pz)].length + ([] : List Keyword).length + (if ([] : List Keyword).isEmpty then 0 else 1) < 30)) = true := by rfl)
    (hline : (apos.endLine == cpos.line) = true := by rfl) (hs : starEach [(.Constant (.int 0) kz pz)] X.env = (false, eval (.Constant (.int 0) kz pz) X.env) :: starEach [] X.env := by rfl) (hplain : (backTo cpos (starEach [] X.env)).any (·.1) = false := by rfl)
    (hsw : swapsWith (.Call (.Attribute (.Name x px) "pop" apos) [(.Constant (.int 0) kz pz)] [] cpos) (some (.Name y py)) pos.line X.env = pure false := by rfl) (hf : X.fn y = true ∨ X.env.scope.names.lookup y = some .local := by first | exact .inl rfl | exact .inr rfl | assumption) :
    PS X (.Assign [.Name y py] (.Call (.Attribute (.Name x px) "pop" apos) [(.Constant (.int 0) kz pz)] [] cpos) pos) (sOf C (wPop0 j i)) :=
  PS.str (ps_set hNd hNy hy (pe_bm PySem.F.plainAttrs_list PySem.F.slot_list_pop PySem.F.type_list_pop mt_popAt (pe_var hN hv hd hcd) (pa_cons pe_int pa_nil hs) hbase hfew hline hs hplain) hsw hf) fun D σ H ⟨G, δ, q, f, hw, k⟩ => by
    unfold wPop0 at hw
    split at hw
    · rename_i d ds hi
      obtain ⟨a, vs, h1, h2, h3⟩ := f.list hi
      obtain ⟨v, us, rfl, h4, h5⟩ := h3
      obtain ⟨g1, g2⟩ := f.write hi h1 h2 h5
      refine ⟨_, h1, .inl ⟨rfl, _, .inl (.inl h2)⟩, a, _, 0, 0, v, rfl, rfl, h2, by decide, by decide, by simp [seqIndex?], rfl, ?_⟩
      exact k.nx _ _ G _ (g1.setV (At.up g2 _ _ h4)) g2 hw
    · exact hw.elim
/-- y = x.pop() -/
@[simp] def wPop (j i : Nat) : WS := fun δ q => match δ[i]? with
  | some (some (.own ds)) => match ds[ds.length - 1]? with
    | some d => q.nx ((δ.set i (some (.own ds.dropLast))).set j (some (.val d)))
    | none => False
  | _ => False
theorem Ats.dropLast {ds : List D} {vs : List V} (h : Ats K W H G ds vs) : Ats K W H G ds.dropLast vs.dropLast := by
  rw [List.dropLast_eq_take, List.dropLast_eq_take, ← h.len]
  exact h.take _
theorem ds_pop (j i : Nat) {x y : Str} {apos cpos px py pos : Pos} (hNd : X.N.Nodup) (hN : X.N[i]? = some x := by rfl) (hNy : X.N[j]? = some y := by rfl) (hy : Loc X.env.scope y := by first | exact Or.inl rfl | exact Or.inr rfl) (hv : Vis X.env.scope x := by first | exact Or.inl rfl | exact Or.inr (Or.inl rfl) | exact Or.inr (Or.inr rfl)) (hd : (x == ("__debug__" : Str)) = false := by decide)
    (hcd : (x == ("__classdict__" : Str)) = false := by decide) (hbase : attributeBase (.Name x px) "pop" X.env (eval (.Name x px) X.env) = eval (.Name x px) X.env := by rfl) (hline : (apos.endLine == cpos.line) = true := by rfl)
    (hsw : swapsWith (.Call (.Attribute (.Name x px) "pop" apos) [] [] cpos) (some (.Name y py)) pos.line X.env = pure false := by rfl) (hf : X.fn y = true ∨ X.env.scope.names.lookup y = some .local := by first | exact .inl rfl | exact .inr rfl | assumption) :
    PS X (.Assign [.Name y py] (.Call (.Attribute (.Name x px) "pop" apos) [] [] cpos) pos) (sOf C (wPop j i)) :=
  PS.str (ps_set hNd hNy hy (pe_bm0 PySem.F.plainAttrs_list PySem.F.slot_list_pop PySem.F.type_list_pop mt_pop (pe_var hN hv hd hcd) hbase hline) hsw hf) fun D σ H ⟨G, δ, q, f, hw, k⟩ => by
    unfold wPop at hw
    split at hw
    · rename_i ds hi
      split at hw
      · rename_i d ed
        obtain ⟨a, vs, h1, h2, h3⟩ := f.list hi
        obtain ⟨v, ev, hv⟩ := h3.get ed
        obtain ⟨g1, g2⟩ := f.write hi h1 h2 h3.dropLast
        refine ⟨_, h1, .inl ⟨rfl, _, .inl (.inl h2)⟩, a, _, v, rfl, rfl, h2, by rw [← h3.len]; exact ev, ?_⟩
        exact k.nx _ _ G _ (g1.setV (At.up g2 _ _ hv)) g2 hw
      · exact hw.elim
    · exact hw.elim
end
end L3

set_option maxRecDepth 100000
set_option maxHeartbeats 4000000
/-! The data layer: what is walked; for, while; comprehensions; raise; a def's body. -/
namespace L3
open PySem PySem.Spec L2 RZ
abbrev WI := De → (List D → Prop) → Prop
/-- the walk yields these items, from any later heap -/
def ItOk (C : Ct) (J : It) (H1 : Hp) (G1 : Gh) (ds : List D) : Prop := ∀ (H : Hp) (G : Gh) (i : Nat), Up C.K C.W H1 G1 H G → GhOk C.W H G →
  (∀ d, ds[i]? = some d → J.go i H ∧ ∀ x H', J.yld i H x H' → Ext C.W H G H' G ∧ At C.K C.W H' G d x) ∧ (ds[i]? = none → J.stop i H)
def iOf (C : Ct) (w : WI) : TI := fun σ H R => ∃ G δ q, Frm C H G σ δ ∧ w δ q ∧ ∀ J H' G' ds, Frm C H' G' σ δ → Up C.K C.W H G H' G' → Ext C.W C.H0 C.G0 H' G' → Ext C.W H G H' G' → ItOk C J H' G' ds → q ds → R J H'
section
variable {X : Cx} {C : Ct} {E : XK} {rx : Exn → Prop} {e a b c tg iter elt : Expr} {es rest : List Expr} {wa wb wc : WE} {ta tb : WT} {wr : WA} {wi : WI} {pos p : Pos} {K : PySem.W.Frag} {W : Wd} {H H' Hs H1 : Hp} {G G' G1 : Gh} {σ σ' : St} {δ : De} {n : Nat} {st : Stmt} {sts body : List Stmt} {w w1 w2 wb' : WS}
theorem PI.str {t t' : TI} (h : PI X tg iter t) (hi : ∀ σ H R, t' σ H R → t σ H R) : PI X tg iter t' := ⟨fun pins s σ H R I q => h.run pins s σ H R I (hi σ H R q)⟩
/-- a list or a tuple is walked -/
theorem pi_seq {l : Expr} {tl : TE} (hl : PE X l tl) : PI X tg l (fun σ H R => tl σ H fun x H1 => ∃ a, x = .ref a ∧ (((∃ xs, SqL X.K H1 a xs) ∧ R (Itl X.K a) H1) ∨ ((∃ xs, SqT X.K H1 a xs) ∧ R (Itt X.K a) H1))) := by
  refine ⟨fun pins s σ H R I h => thn (hl.run pins s σ H _ I h) fun v s1 ⟨x, H1, I1, r1, q1⟩ => ?_⟩
  obtain ⟨a, rfl, q1⟩ := q1
  cases r1
  have fp : ∀ b ∈ [s1.heap.objs.size], FpOk X pins H1 b := fun b hb => by
    obtain rfl : b = s1.heap.objs.size := by simpa using hb
    exact I1.fpOk (Nat.le_refl _) (I1.hok.fresh (Nat.le_refl _))
  rcases q1 with ⟨⟨xs, hq⟩, q⟩ | ⟨⟨xs, hq⟩, q⟩
  · obtain ⟨its, rv, p, hz⟩ := I1.list hq
    exact wpAny_pyIter_list p.isList ⟨_, [s1.heap.objs.size], _, _, H1, rfl, I1.kept (t' := s1.toks) fun b o e => Heap.get?_push_of_some _ e, turn_list a _, ⟨_, Heap.get?_push_size _ rfl, rfl, rfl⟩, fp, q⟩
  · obtain ⟨its, rv, p, hz⟩ := I1.tuple hq
    exact wpAny_pyIter_tuple (show s1.heap.IsTuple a its.toArray from p) ⟨_, [s1.heap.objs.size], _, _, H1, rfl, I1.kept (t' := s1.toks) fun b o e => Heap.get?_push_of_some _ e, turn_tuple a _, ⟨_, Heap.get?_push_size _ rfl, rfl, rfl⟩, fp, q⟩
theorem SqL.inj {xs ys : List V} {a : Addr} (h1 : H a = some (.lst xs)) (nk : K.lookup a = none) (h2 : SqL K H a ys) : ys = xs := by
  rcases h2 with (h | ⟨o, h⟩) | ⟨o, its, m, h, _⟩
  · rw [h1] at h; cases h; rfl
  · rw [h1] at h; cases h
  · rw [nk] at h; cases h
@[simp] def wSeqI (wa : WE) : WI := fun δ q => wa δ fun r => nb r ∧ match r.data with
  | .lst ds => q ds
  | .tup ds => q ds
  | _ => False
theorem Up.sqT (u : Up K W H G H' G') {a : Addr} {xs : List V} (h : SqT K H a xs) : SqT K H' a xs := u.tup a xs h
/-- what a tuple at an address yields -/
theorem itok_tup {xs : List V} {ds : List D} {a : Addr} (h : SqT C.K H1 a xs) (ha : Ats C.K C.W H1 G1 ds xs) : ItOk C (Itt C.K a) H1 G1 ds := fun H G i u g => by
  have hs := u.tup a xs h
  have ha' := Ats.up u _ _ ha
  refine ⟨fun d ed => ?_, fun en => ?_⟩
  · obtain ⟨v, ev, av⟩ := ha'.get ed
    refine ⟨⟨xs, v, hs, ev⟩, fun x H' y => ?_⟩
    obtain ⟨rfl, y⟩ := y
    have := y xs hs
    rw [ev] at this; cases this
    exact ⟨.refl g.ok, av⟩
  · exact ⟨xs, hs, by rw [← ha.len]; exact List.getElem?_eq_none_iff.mp en⟩
theorem itok_lst {xs : List V} {ds : List D} {a : Addr} (h : G1 a = some xs) (ha : Ats C.K C.W H1 G1 ds xs) : ItOk C (Itl C.K a) H1 G1 ds := fun H G i u g => by
  have hs : SqL C.K H a xs := .inl (.inl (g.at_ a xs (u.g a xs h)).1)
  have ha' := Ats.up u _ _ ha
  refine ⟨fun d ed => ?_, fun en => ?_⟩
  · obtain ⟨v, ev, av⟩ := ha'.get ed
    refine ⟨⟨xs, v, hs, ev⟩, fun x H' y => ?_⟩
    obtain ⟨rfl, y⟩ := y
    have := y xs hs
    rw [ev] at this; cases this
    exact ⟨.refl g.ok, av⟩
  · exact ⟨xs, hs, by rw [← ha.len]; exact List.getElem?_eq_none_iff.mp en⟩
/-- a result of an expression that began at Hs is frozen -/
theorem Frm.frz {r : R} {v : V} {Gs : Gh} (f : Frm C H G σ δ) (fs : Frm C Hs Gs σ δ) (e : Ext C.W Hs Gs H G) (h : Rep C Hs H G r v) (n : nb r) : ∃ G', Frm C H G' σ δ ∧ Up C.K C.W H G H G' ∧ Ext C.W Hs Gs H G' ∧ At C.K C.W H G' r.data v := by
  have h1 : Reps C Hs H G [r] [v] := ⟨v, [], rfl, h, rfl⟩
  obtain ⟨v', us, e1, a1, a2⟩ := h1.fz (all := [v]) f.gh ⟨n, trivial⟩ (fun _ h => h)
  cases e1
  exact ⟨fz Hs H G [v], fs.up (fz_ext e), fz_up, fz_ext e, a1⟩
theorem di_seq (hK : C.K = X.K) (ha : PE X iter (tOf C wa)) : PI X tg iter (iOf C (wSeqI wa)) :=
  PI.str (pi_seq ha) fun σ H R ⟨G, δ, q, f, hw, k⟩ => run f hw fun v r H1 G1 e1 f1 p1 ⟨n, q1⟩ => by
    obtain ⟨G', f', u', e', a'⟩ := f1.frz f e1 p1 n
    rw [← hK]
    split at q1
    · rename_i ds ed
      rw [ed] at a'
      obtain ⟨a, vs, rfl, h1, h2⟩ := a'
      exact ⟨a, rfl, .inl ⟨⟨vs, .inl (.inl (f'.gh.at_ _ _ h1).1)⟩, k _ H1 G' ds f' (e'.up f.gh.ok) f'.ext e' (itok_lst h1 h2) q1⟩⟩
    · rename_i ds ed
      rw [ed] at a'
      obtain ⟨a, vs, rfl, h1, h2⟩ := a'
      exact ⟨a, rfl, .inr ⟨⟨vs, h1⟩, k _ H1 G' ds f' (e'.up f.gh.ok) f'.ext e' (itok_tup h1 h2) q1⟩⟩
    · exact q1.elim
def rngD (lo : Int) (n : Nat) : List D := (List.range n).map fun i => .int (lo + (i : Nat))
theorem rngD_get {lo : Int} {n i : Nat} (h : i < n) : (rngD lo n)[i]? = some (.int (lo + (i : Nat))) := by
  unfold rngD
  rw [List.getElem?_map, List.getElem?_range h]; rfl
theorem rngD_len {lo : Int} {n : Nat} : (rngD lo n).length = n := by unfold rngD; simp
theorem itok_rng {lo : Int} {n : Nat} : ItOk C (Itr lo n) H1 G1 (rngD lo n) := fun H G i u g => by
  refine ⟨fun d ed => ?_, fun en => ?_⟩
  · have hi : i < n := by have := (List.getElem?_eq_some_iff.mp ed).1; rwa [rngD_len] at this
    rw [rngD_get hi] at ed
    cases ed
    exact ⟨hi, fun x H' ⟨y1, y2⟩ => by subst y1 y2; exact ⟨.refl g.ok, rfl⟩⟩
  · have := List.getElem?_eq_none_iff.mp en
    rwa [rngD_len] at this
@[simp] def wRng1 (wa : WE) : WI := fun δ q => wa δ fun r => match r with
  | .val (.int j) => -(2 ^ 62) ≤ j ∧ j < 2 ^ 62 ∧ q (rngD 0 j.toNat)
  | _ => False
theorem di_rng1 {pn : Pos} (hg : Gl X "range") (hm : X.mg "range" = none) (ha : PE X a (tOf C wa)) (hs : starEach [a] X.env = [(false, eval a X.env)] := by rfl) (hs1 : starEach [a] X.env = (false, eval a X.env) :: starEach [] X.env := by rfl) : PI X tg (.Call (.Name "range" pn) [a] [] pos) (iOf C (wRng1 wa)) :=
  PI.str (pi_range1 hg hm (pa_cons ha pa_nil hs1) hs) fun σ H R ⟨G, δ, q, f, hw, k⟩ => run f hw fun v r H1 G1 e1 f1 p1 q1 => by
    split at q1
    · rename_i j
      have p1 : v = .int j := p1
      subst p1
      exact ⟨j, rfl, q1.1, q1.2.1, k _ H1 G1 _ f1 (e1.up f.gh.ok) f1.ext e1 itok_rng q1.2.2⟩
    · exact q1.elim
@[simp] def wRng2 (wa wb : WE) : WI := fun δ q => wa δ fun r => wb δ fun r2 => match r, r2 with
  | .val (.int i), .val (.int j) => -(2 ^ 62) ≤ i ∧ i < 2 ^ 62 ∧ -(2 ^ 62) ≤ j ∧ j < 2 ^ 62 ∧ q (rngD i (j - i).toNat)
  | _, _ => False
theorem di_rng2 {pn : Pos} (hg : Gl X "range") (hm : X.mg "range" = none) (ha : PE X a (tOf C wa)) (hb : PE X b (tOf C wb)) (hs : starEach [a, b] X.env = [(false, eval a X.env), (false, eval b X.env)] := by rfl) (hs1 : starEach [a, b] X.env = (false, eval a X.env) :: starEach [b] X.env := by rfl) (hs2 : starEach [b] X.env = (false, eval b X.env) :: starEach [] X.env := by rfl) (hs3 : starEach [b] X.env = [(false, eval b X.env)] := by rfl) : PI X tg (.Call (.Name "range" pn) [a, b] [] pos) (iOf C (wRng2 wa wb)) :=
  PI.str (pi_range2 hg hm (pa_cons ha (pa_cons hb pa_nil hs2) hs1) hs hs3) fun σ H R ⟨G, δ, q, f, hw, k⟩ => run f hw fun v r H1 G1 e1 f1 p1 q1 => run f1 q1 fun u r2 H2 G2 e2 f2 p2 q2 => by
    split at q2
    · rename_i i j
      have p1 : v = .int i := p1
      have p2 : u = .int j := p2
      subst p1 p2
      exact ⟨i, j, rfl, ⟨q2.1, q2.2.1, q2.2.2.1, q2.2.2.2.1⟩, k _ H2 G2 _ f2 ((e1.trans e2 f.gh.ok).up f.gh.ok) f2.ext (e1.trans e2 f.gh.ok) itok_rng q2.2.2.2.2⟩
    · exact q2.elim
def zipD (ds es : List D) : List D := List.zipWith (fun a b => D.tup [a, b]) ds es
theorem zipD_get {ds es : List D} {i : Nat} {d : D} (h : (zipD ds es)[i]? = some d) : ∃ x y, ds[i]? = some x ∧ es[i]? = some y ∧ d = .tup [x, y] := by
  unfold zipD at h
  rw [List.getElem?_zipWith] at h
  cases h1 : ds[i]? with
  | none => rw [h1] at h; cases h
  | some x =>
    cases h2 : es[i]? with
    | none => rw [h1, h2] at h; cases h
    | some y => rw [h1, h2] at h; exact ⟨x, y, rfl, rfl, (Option.some.inj h).symm⟩
theorem zipD_none {ds es : List D} {i : Nat} (h : (zipD ds es)[i]? = none) : ds.length ≤ i ∨ es.length ≤ i := by
  have := List.getElem?_eq_none_iff.mp h
  unfold zipD at this
  rw [List.length_zipWith] at this
  omega
theorem pair_at {x y : D} {v u : V} {T : Addr} (hT : H T = none) (hx : At K W H G x v) (hy : At K W H G y u) : At K W (upd H T (.tup [v, u])) G (.tup [x, y]) (.ref T) :=
  ⟨T, [v, u], rfl, .inl (.inl upd_same), v, [u], rfl, At.up (Up.laid hT) _ _ hx, u, [], rfl, At.up (Up.laid hT) _ _ hy, rfl⟩
theorem itok_zipL {xs ys : List V} {ds es : List D} {a b : Addr} (h1 : G1 a = some xs) (a1 : Ats C.K C.W H1 G1 ds xs) (h2 : G1 b = some ys) (a2 : Ats C.K C.W H1 G1 es ys) : ItOk C (Itz C.K a b) H1 G1 (zipD ds es) := fun H G i u g => by
  have s1 : SqL C.K H a xs := .inl (.inl (g.at_ a xs (u.g a xs h1)).1)
  have s2 : SqL C.K H b ys := .inl (.inl (g.at_ b ys (u.g b ys h2)).1)
  have b1 := Ats.up u _ _ a1
  have b2 := Ats.up u _ _ a2
  refine ⟨fun d ed => ?_, fun en => ?_⟩
  · obtain ⟨x, y, ex, ey, rfl⟩ := zipD_get ed
    obtain ⟨v, ev, av⟩ := b1.get ex
    obtain ⟨w, ew, aw⟩ := b2.get ey
    refine ⟨⟨xs, ys, v, w, s1, s2, ev, ew⟩, fun z H' ⟨T, v', w', hz, hT, hH, y1, y2⟩ => ?_⟩
    subst hz hH
    have e1 := y1 xs s1
    have e2 := y2 ys s2
    rw [ev] at e1; rw [ew] at e2
    cases e1; cases e2
    exact ⟨Ext.laid (.refl g.ok) hT, pair_at hT av aw⟩
  · refine ⟨xs, ys, s1, s2, ?_⟩
    rw [← a1.len, ← a2.len]
    exact zipD_none en
theorem itok_zipT {xs ys : List V} {ds es : List D} {a b : Addr} (h1 : SqT C.K H1 a xs) (a1 : Ats C.K C.W H1 G1 ds xs) (h2 : SqT C.K H1 b ys) (a2 : Ats C.K C.W H1 G1 es ys) : ItOk C (ItzT C.K a b) H1 G1 (zipD ds es) := fun H G i u g => by
  have s1 := u.tup a xs h1
  have s2 := u.tup b ys h2
  have b1 := Ats.up u _ _ a1
  have b2 := Ats.up u _ _ a2
  refine ⟨fun d ed => ?_, fun en => ?_⟩
  · obtain ⟨x, y, ex, ey, rfl⟩ := zipD_get ed
    obtain ⟨v, ev, av⟩ := b1.get ex
    obtain ⟨w, ew, aw⟩ := b2.get ey
    refine ⟨⟨xs, ys, v, w, s1, s2, ev, ew⟩, fun z H' ⟨T, v', w', hz, hT, hH, y1, y2⟩ => ?_⟩
    subst hz hH
    have e1 := y1 xs s1
    have e2 := y2 ys s2
    rw [ev] at e1; rw [ew] at e2
    cases e1; cases e2
    exact ⟨Ext.laid (.refl g.ok) hT, pair_at hT av aw⟩
  · refine ⟨xs, ys, s1, s2, ?_⟩
    rw [← a1.len, ← a2.len]
    exact zipD_none en
@[simp] def wZip (wr : WA) : WI := fun δ q => wr δ fun rs => nbs rs ∧ match rs.map R.data with
  | [.lst ds, .lst es] => q (zipD ds es)
  | [.tup ds, .tup es] => q (zipD ds es)
  | _ => False
theorem Frm.frzA {rs : List R} {vs : List V} {Gs : Gh} (f : Frm C H G σ δ) (fs : Frm C Hs Gs σ δ) (e : Ext C.W Hs Gs H G) (h : Reps C Hs H G rs vs) (n : nbs rs) : ∃ G', Frm C H G' σ δ ∧ Ext C.W Hs Gs H G' ∧ Ats C.K C.W H G' (rs.map R.data) vs :=
  ⟨fz Hs H G vs, fs.up (fz_ext e), fz_ext e, h.fz f.gh n fun _ h => h⟩
theorem di_zip {pn tpos : Pos} {elts : List Expr} {kk : Nat} (hK : C.K = X.K) (hg : Gl X "zip") (hm : X.mg "zip" = none) (ha : PA X [a, b] (aOf C wr)) (hs : starEach [a, b] X.env = (false, eval a X.env) :: starEach [b] X.env := by rfl) (hpl : (backTo pos (starEach [b] X.env)).any (·.1) = false := by rfl) :
    PI X (.Tuple elts kk tpos) (.Call (.Name "zip" pn) [a, b] [] pos) (iOf C (wZip wr)) :=
  PI.str (pi_zipA hg hm ha hs hpl) fun σ H R ⟨G, δ, q, f, hw, k⟩ => runA f hw fun vs rs H1 G1 e1 f1 p1 ⟨n, q1⟩ => by
    obtain ⟨G', f', e', a'⟩ := f1.frzA f e1 p1 n
    rw [← hK]
    split at q1
    · rename_i ds es ed
      rw [ed] at a'
      obtain ⟨v, us, rfl, a1, u, us', rfl, a2, rfl⟩ := a'
      obtain ⟨x, xs, rfl, h1, h2⟩ := a1
      obtain ⟨y, ys, rfl, h3, h4⟩ := a2
      exact ⟨x, y, xs, ys, rfl, .inl ⟨.inl (.inl (f'.gh.at_ _ _ h1).1), .inl (.inl (f'.gh.at_ _ _ h3).1), k _ H1 G' _ f' (e'.up f.gh.ok) f'.ext e' (itok_zipL h1 h2 h3 h4) q1⟩⟩
    · rename_i ds es ed
      rw [ed] at a'
      obtain ⟨v, us, rfl, a1, u, us', rfl, a2, rfl⟩ := a'
      obtain ⟨x, xs, rfl, h1, h2⟩ := a1
      obtain ⟨y, ys, rfl, h3, h4⟩ := a2
      exact ⟨x, y, xs, ys, rfl, .inr ⟨h1, h3, k _ H1 G' _ f' (e'.up f.gh.ok) f'.ext e' (itok_zipT h1 h2 h3 h4) q1⟩⟩
    · exact q1.elim
def enuD (ds : List D) : List D := ds.mapIdx fun i d => .tup [.int (i : Nat), d]
@[simp] def wEnu (wa : WE) : WI := fun δ q => wa δ fun r => nb r ∧ match r.data with
  | .lst ds => q (enuD ds)
  | _ => False
theorem itok_enu {xs : List V} {ds : List D} {a : Addr} (h1 : G1 a = some xs) (a1 : Ats C.K C.W H1 G1 ds xs) : ItOk C (Ite C.K a) H1 G1 (enuD ds) := fun H G i u g => by
  have s1 : SqL C.K H a xs := .inl (.inl (g.at_ a xs (u.g a xs h1)).1)
  have b1 := Ats.up u _ _ a1
  refine ⟨fun d ed => ?_, fun en => ?_⟩
  · unfold enuD at ed
    rw [List.getElem?_mapIdx] at ed
    obtain ⟨x, ex, rfl⟩ := Option.map_eq_some_iff.mp ed
    obtain ⟨v, ev, av⟩ := b1.get ex
    refine ⟨⟨xs, v, s1, ev⟩, fun z H' ⟨T, v', hz, hT, hH, y1⟩ => ?_⟩
    subst hz hH
    have e1 := y1 xs s1
    rw [ev] at e1
    cases e1
    exact ⟨Ext.laid (.refl g.ok) hT, pair_at hT rfl av⟩
  · refine ⟨xs, s1, ?_⟩
    unfold enuD at en
    have := List.getElem?_eq_none_iff.mp en
    rw [List.length_mapIdx] at this
    rw [← a1.len]; exact this
theorem di_enu {pn tpos : Pos} {elts : List Expr} {kk : Nat} (hK : C.K = X.K) (hg : Gl X "enumerate") (hm : X.mg "enumerate" = none) (ha : PE X a (tOf C wa)) (hs : starEach [a] X.env = [(false, eval a X.env)] := by rfl) (hs1 : starEach [a] X.env = (false, eval a X.env) :: starEach [] X.env := by rfl) :
    PI X (.Tuple elts kk tpos) (.Call (.Name "enumerate" pn) [a] [] pos) (iOf C (wEnu wa)) :=
  PI.str (pi_enum hg hm (pa_cons ha pa_nil hs1) hs) fun σ H R ⟨G, δ, q, f, hw, k⟩ => run f hw fun v r H1 G1 e1 f1 p1 ⟨n, q1⟩ => by
    obtain ⟨G', f', u', e', a'⟩ := f1.frz f e1 p1 n
    rw [← hK]
    split at q1
    · rename_i ds ed
      rw [ed] at a'
      obtain ⟨a, vs, rfl, h1, h2⟩ := a'
      exact ⟨a, vs, rfl, .inl (.inl (f'.gh.at_ _ _ h1).1), k _ H1 G' _ f' (e'.up f.gh.ok) f'.ext e' (itok_enu h1 h2) q1⟩
    · exact q1.elim

/-! ### for -/
@[simp] def forW (g : WG) (wb : WS) : List D → De → EndsD → Prop
  | [], δ, q => q.nx δ
  | d :: ds, δ, q => g d δ fun δ1 => wb δ1 { nx := fun δ' => forW g wb ds δ' q, ct := fun δ' => forW g wb ds δ' q, bk := q.nx, rt := q.rt }
@[simp] def wFor (wi : WI) (g : WG) (wb : WS) : WS := fun δ q => wi δ fun ds => forW g wb ds δ q
theorem ds_for {I : List Nat} {g : WG} (c : Ctx X C E rx) (hi : PI X tg iter (iOf C wi)) (hg : PG X tg (gOf C I g)) (hb : PSs X body (sOf C wb')) (hs : ∀ x, foldedSetIterable iter X.env x = pure x := by intro _; rfl) : PS X (.For tg iter body [] pos) (sOf C (wFor wi g wb')) :=
  PS.str (ps_for c.own c.calm hi hg hb hs) fun D σ H ⟨G, δ, q, f, hw, k⟩ => ⟨G, δ, _, f, hw, fun J H1 G1 ds f1 u1 _ _ it q1 => by
    refine ⟨fun i m σ' H' => ∃ G' δ', Frm C H' G' σ' δ' ∧ Up C.K C.W H1 G1 H' G' ∧ forW g wb' (ds.drop i) δ' q ∧ m = ds.length - i, ⟨ds.length, G1, δ, f1, .refl, q1, rfl⟩, ?_⟩
    rintro i m σ2 H2 ⟨G2, δ2, f2, u2, q2, rfl⟩
    cases ed : ds[i]? with
    | none =>
      refine .inl ⟨(it H2 G2 i u2 f2.gh).2 ed, ?_⟩
      rw [List.drop_eq_nil_of_le (List.getElem?_eq_none_iff.mp ed)] at q2
      exact k.nx σ2 H2 G2 δ2 f2 (u1.trans u2) q2
    | some d =>
      obtain ⟨hgo, hy⟩ := (it H2 G2 i u2 f2.gh).1 d ed
      have hlt : i < ds.length := (List.getElem?_eq_some_iff.mp ed).1
      have edr : ds.drop i = d :: ds.drop (i + 1) := by
        rw [List.drop_eq_getElem_cons hlt]
        congr 1
        exact (List.getElem?_eq_some_iff.mp ed).2
      rw [edr] at q2
      refine .inr ⟨hgo, fun σ' H' => ∃ G' δ', Frm C H' G' σ' δ' ∧ Up C.K C.W H1 G1 H' G' ∧ forW g wb' (ds.drop (i + 1)) δ' q, fun σ' H' ⟨G', δ', f', u', q'⟩ => ⟨ds.length - (i + 1), by omega, G', δ', f', u', q', rfl⟩, fun x H3 y3 => ?_⟩
      obtain ⟨e3, a3⟩ := hy x H3 y3
      have f3 := f2.up e3
      refine ⟨G2, δ2, d, _, f3, a3, q2, fun σ4 δ4 f4 _ q4 => ⟨G2, δ4, _, f4, q4, ?_⟩⟩
      have u3 := u2.trans (e3.up f2.gh.ok)
      exact ⟨fun σ' H' G' δ' f' u' q' => ⟨G', δ', f', u3.trans u', q'⟩, fun σ' H' G' δ' f' u' q' => k.nx σ' H' G' δ' f' (u1.trans (u3.trans u')) q', fun σ' H' G' δ' f' u' q' => ⟨G', δ', f', u3.trans u', q'⟩, k.rt⟩⟩
/-! ### while -/
def wWhile (t : WT) (wb : WS) : WS := fun δ q => ∃ I : Nat → De → Prop, (∃ m, I m δ) ∧ ∀ m δ, I m δ → t δ fun b => match b with
  | true => wb δ { nx := fun δ' => ∃ m', m' < m ∧ I m' δ', ct := fun δ' => ∃ m', m' < m ∧ I m' δ', bk := q.nx, rt := q.rt }
  | false => q.nx δ
theorem ds_while (cx : Ctx X C E rx) (hc : PT X c (bOf C ta)) (hb : PSs X body (sOf C wb')) : PS X (.While c body [] pos) (sOf C (wWhile ta wb')) :=
  PS.str (ps_while cx.own hc hb) fun D σ H ⟨G, δ, q, f, ⟨I, ⟨m0, i0⟩, hI⟩, k⟩ => by
    refine ⟨fun m σ' H' => ∃ G' δ', Frm C H' G' σ' δ' ∧ Up C.K C.W H G H' G' ∧ I m δ', ⟨m0, G, δ, f, .refl, i0⟩, ?_⟩
    rintro m σ2 H2 ⟨G2, δ2, f2, u2, i2⟩
    refine runT f2 (hI m δ2 i2) fun b H3 G3 e3 f3 q3 => ?_
    have u3 := u2.trans (e3.up f2.gh.ok)
    cases b with
    | true =>
      rw [if_pos rfl]
      refine ⟨fun σ' H' => ∃ m', m' < m ∧ ∃ G' δ', Frm C H' G' σ' δ' ∧ Up C.K C.W H G H' G' ∧ I m' δ', fun σ' H' h => h, G3, δ2, _, f3, q3, ?_⟩
      exact ⟨fun σ' H' G' δ' f' u' ⟨m', h1, h2⟩ => ⟨m', h1, G', δ', f', u3.trans u', h2⟩, fun σ' H' G' δ' f' u' q' => k.nx σ' H' G' δ' f' (u3.trans u') q', fun σ' H' G' δ' f' u' ⟨m', h1, h2⟩ => ⟨m', h1, G', δ', f', u3.trans u', h2⟩, k.rt⟩
    | false =>
      rw [if_neg Bool.false_ne_true]
      exact k.nx σ2 H3 G3 δ2 f3 u3 q3
/-! ### comprehensions -/
def wipeD (δ : De) : List Nat → De
  | [] => δ
  | v :: vs => (wipeD δ vs).set v none
theorem Frm.wipe (f : Frm C H G σ δ) : ∀ vs : List Nat, Frm C H G (wipe σ vs) (wipeD δ vs)
  | [] => f
  | v :: vs => by
    have g := Frm.wipe f vs
    have nv : ∀ {i : Nat} {s : Sl}, ((wipeD δ vs).set v none)[i]? = some (some s) → i ≠ v ∧ (wipeD δ vs)[i]? = some (some s) := fun {i s} h => by
      by_cases hi : v = i
      · subst hi
        by_cases hl : v < (wipeD δ vs).length
        · rw [List.getElem?_set_self hl] at h; cases h
        · rw [List.getElem?_eq_none (by simpa using hl)] at h; cases h
      · rw [List.getElem?_set_ne hi] at h; exact ⟨fun z => hi z.symm, h⟩
    unfold L2.wipe wipeD
    refine ⟨by simp [g.len], g.gh, g.h0, g.ext, fun i s hs => ?_, fun i j ds es u h1 h2 h3 h4 => ?_⟩
    · obtain ⟨n1, h1⟩ := nv hs
      obtain ⟨u, h2, h3⟩ := g.sl i s h1
      exact ⟨u, by rw [List.getElem?_set_ne (fun z => n1 z.symm)]; exact h2, h3⟩
    · obtain ⟨n1, k1⟩ := nv h1
      obtain ⟨n2, k2⟩ := nv h2
      rw [List.getElem?_set_ne (fun z => n1 z.symm)] at h3
      rw [List.getElem?_set_ne (fun z => n2 z.symm)] at h4
      exact g.ap i j ds es u k1 k2 h3 h4
theorem wipe_get (σ : St) : ∀ (vs : List Nat) (i : Nat), (wipe σ vs)[i]? = if i ∈ vs then (σ[i]?).map fun _ => none else σ[i]?
  | [], i => by simp [wipe]
  | v :: vs, i => by
    unfold wipe
    by_cases hi : v = i
    · subst hi
      rw [if_pos List.mem_cons_self]
      by_cases hl : v < σ.length
      · rw [List.getElem?_set_self (by rw [wipe_length]; exact hl), List.getElem?_eq_getElem hl]; rfl
      · rw [List.getElem?_eq_none (by rw [List.length_set, wipe_length]; omega), List.getElem?_eq_none (by omega)]; rfl
    · rw [List.getElem?_set_ne hi, wipe_get σ vs i]
      have e : (i ∈ v :: vs) = (i ∈ vs) := by simp [show ¬ i = v from fun z => hi z.symm]
      simp only [e]
theorem wipe_only {I vs : List Nat} (h : Only I (wipe σ vs) σ') (hI : ∀ i ∈ I, i ∈ vs) : wipe σ' vs = wipe σ vs := by
  refine List.ext_getElem? fun i => ?_
  rw [wipe_get, wipe_get]
  have hl : σ'.length = σ.length := by rw [h.1, wipe_length]
  by_cases hi : i ∈ vs
  · rw [if_pos hi, if_pos hi]
    by_cases hlt : i < σ.length
    · rw [List.getElem?_eq_getElem hlt, List.getElem?_eq_getElem (by omega)]; rfl
    · rw [List.getElem?_eq_none (by omega), List.getElem?_eq_none (by omega)]
  · rw [if_neg hi, if_neg hi, h.2 i fun z => hi (hI i z), wipe_get, if_neg hi]
def lcW (g : WG) (tt : WT) (te : WE) (δ0 : De) : List D → List D → (R → Prop) → Prop
  | [], acc, q => q (.own acc)
  | d :: ds, acc, q => g d δ0 fun δ1 => tt δ1 fun b => match b with
    | true => te δ1 fun r => nb r ∧ acc.length < sizeLine ∧ lcW g tt te δ0 ds (acc ++ [r.data]) q
    | false => lcW g tt te δ0 ds acc q
@[simp] def wLc (wi : WI) (g : WG) (tt : WT) (te : WE) (vs : List Nat) : WE := fun δ q => wi δ fun ds => lcW g tt te (wipeD δ vs) ds [] q
@[simp] def wYes : WT := fun _ q => q true
theorem dts_nil : PTs X [] (bOf C wYes) := ⟨fun pins s σ H Q I ⟨G, δ, q, f, hw, k⟩ => pts_nil.run pins s σ H Q I (k true H G (.refl f.gh.ok) hw)⟩
theorem dts_one (h : PT X c (bOf C ta)) : PTs X [c] (bOf C ta) := pts_one h
theorem lc_run {I vs : List Nat} {g : WG} {tt : WT} {te : WE} (hI : ∀ i ∈ I, i ∈ vs) : ∀ σ H Q, tOf C (wLc wi g tt te vs) σ H Q → tLc (iOf C wi) (gOf C I g) (bOf C tt) (tOf C te) vs σ H Q := fun σ H Q ⟨G, δ, q, f, hw, k⟩ => ⟨G, δ, _, f, hw, fun J H1 G1 ds f1 u1 _ e1 it q1 => fun Dp hD => by
    have okD : ¬ C.W.vol Dp := C.W.some_of f1.gh.ok hD
    have hDs : H Dp = none := e1.free hD
    refine ⟨fun i m H' => ∃ G' acc vs', Frm C H' G' σ δ ∧ Ext C.W H G H' G' ∧ Up C.K C.W H1 G1 H' G' ∧ H' Dp = some (.lst vs') ∧ G' Dp = none ∧ Ats C.K C.W H' G' acc vs' ∧ lcW g tt te (wipeD δ vs) (ds.drop i) acc q ∧ m = ds.length - i,
      ⟨ds.length, G1, [], [], f1.up (Ext.laid (.refl f1.gh.ok) hD), Ext.laid e1 hD, Up.laid hD, upd_same, f1.gh.none hD, rfl, q1, rfl⟩, ?_⟩
    rintro i m H2 ⟨G2, acc, av, f2, e2, u2, d2, g2, a2, q2, rfl⟩
    cases ed : ds[i]? with
    | none =>
      refine .inl ⟨(it H2 G2 i u2 f2.gh).2 ed, ?_⟩
      rw [List.drop_eq_nil_of_le (List.getElem?_eq_none_iff.mp ed)] at q2
      exact k _ (.own acc) H2 G2 e2 ⟨Dp, av, rfl, hDs, d2, g2, a2⟩ q2
    | some d =>
      obtain ⟨hgo, hy⟩ := (it H2 G2 i u2 f2.gh).1 d ed
      have hlt : i < ds.length := (List.getElem?_eq_some_iff.mp ed).1
      have edr : ds.drop i = d :: ds.drop (i + 1) := by
        rw [List.drop_eq_getElem_cons hlt]
        congr 1
        exact (List.getElem?_eq_some_iff.mp ed).2
      rw [edr] at q2
      refine .inr ⟨hgo, fun H' => ∃ G' acc vs', Frm C H' G' σ δ ∧ Ext C.W H G H' G' ∧ Up C.K C.W H1 G1 H' G' ∧ H' Dp = some (.lst vs') ∧ G' Dp = none ∧ Ats C.K C.W H' G' acc vs' ∧ lcW g tt te (wipeD δ vs) (ds.drop (i + 1)) acc q,
        fun H' ⟨G', acc', av', h1, h2, h3, h4, h5, h6, h7⟩ => ⟨ds.length - (i + 1), by omega, G', acc', av', h1, h2, h3, h4, h5, h6, h7, rfl⟩, fun x H3 y3 => ?_⟩
      obtain ⟨e3, a3⟩ := hy x H3 y3
      have f3 := f2.up e3
      refine ⟨G2, wipeD δ vs, d, _, f3.wipe vs, a3, q2, fun σ4 δ4 f4 o4 q4 => ⟨wipe_only o4 hI, runT f4 q4 fun b H5 G5 e5 f5 q5 => ?_⟩⟩
      have e35 := e3.trans e5 f2.gh.ok
      have k5 : Frm C H5 G5 σ δ := f2.up e35
      have d5 : H5 Dp = some (.lst av) := e35.same _ _ okD d2
      have g5 : G5 Dp = none := e35.notG d2 g2
      have a5 := Ats.up (e35.up f2.gh.ok) _ _ a2
      cases b with
      | false =>
        rw [if_neg Bool.false_ne_true]
        exact ⟨G5, acc, av, k5, e2.trans e35 f.gh.ok, u2.trans (e35.up f2.gh.ok), d5, g5, a5, q5⟩
      | true =>
        rw [if_pos rfl]
        refine run f5 q5 fun v r H6 G6 e6 f6 p6 ⟨n6, z6, q6⟩ => ?_
        have e36 := e35.trans e6 f2.gh.ok
        have d6 : H6 Dp = some (.lst av) := e36.same _ _ okD d2
        -- the new value is frozen
        have e6' := fz_ext (vs := [v]) e6
        have h6 : Reps C H5 H6 G6 [r] [v] := ⟨v, [], rfl, p6, rfl⟩
        obtain ⟨v', us, ev, a6, _⟩ := h6.fz (all := [v]) f6.gh ⟨n6, trivial⟩ (fun _ h => h)
        cases ev
        have e37 := e35.trans e6' f2.gh.ok
        have f7 : Frm C H6 (fz H5 H6 G6 [v]) σ δ := f2.up e37
        have g7 : fz H5 H6 G6 [v] Dp = none := e37.notG d2 g2
        have a7 := Ats.up (e37.up f2.gh.ok) _ _ a2
        refine ⟨av, d6, by rw [← a2.len]; exact z6, ?_⟩
        -- the list is longer
        have nW : ∀ b o, H6 b = some o → (C.W.vol b ∨ Rigid o) → b ≠ Dp := fun b o hb hv z => by
          subst z
          rcases hv with hv | hv
          · exact okD hv
          · rw [d6] at hb; cases hb; exact hv
        have okW : C.W.ok (upd H6 Dp (.lst (av ++ [v]))) := C.W.loc H6 _ (fun b o hb hv => by rw [upd_ne (nW b o hb hv)]; exact hb) (fun b ps h => by
          by_cases hb : b = Dp
          · subst hb; rw [upd_same] at h; cases h
          · rwa [upd_ne hb] at h) f7.gh.ok
        have nG : ∀ b l, fz H5 H6 G6 [v] b = some l → b ≠ Dp := fun b l hb z => by subst z; rw [g7] at hb; cases hb
        have up7 : Up C.K C.W H6 (fz H5 H6 G6 [v]) (upd H6 Dp (.lst (av ++ [v]))) (fz H5 H6 G6 [v]) := by
          refine ⟨fun b xs h => ?_, fun b h nv => ?_, fun _ _ h => h⟩
          · rcases h with (h | ⟨o, h⟩) | h
            · exact .inl (.inl (by rw [upd_ne (nW b _ h (.inr trivial))]; exact h))
            · exact .inl (.inr ⟨o, by rw [upd_ne (nW b _ h (.inr trivial))]; exact h⟩)
            · exact .inr h
          · rw [upd_ne (ne_of h d6 (by intro z; cases z))]; exact h
        have e28 : Ext C.W H G (upd H6 Dp (.lst (av ++ [v]))) (fz H5 H6 G6 [v]) := by
          have e27 := e2.trans e37 f.gh.ok
          refine ⟨fun b o nv hb => ?_, e27.g, fun b l hb => ?_, okW⟩
          · rw [upd_ne (ne_of_none hb hDs)]; exact e27.same b o nv hb
          · rcases e27.new b l hb with z | ⟨z1, z2⟩
            · exact .inl z
            · exact .inr ⟨z1, by rw [upd_ne (nG b l hb)]; exact z2⟩
        exact ⟨_, acc ++ [r.data], av ++ [v], f.up e28, e28, (u2.trans (e37.up f2.gh.ok)).trans up7, upd_same, g7, Ats.up up7 _ _ (a7.append (.one a6)), q6⟩⟩
theorem Ctx.blk {s : Shared} {H : Hp} {scope : Scope} {cenv : Env} {fp : List Addr} (c : Ctx X C E rx) : Ctx (X.blk s H scope cenv fp) C E0 (fun _ => False) :=
  ⟨c.hK, c.hM, c.calm, passL, PassesOwn.never, fun _ _ _ _ _ _ _ h => h.elim, c.hu⟩
theorem de_lc {I : List Nat} {ifs : List Expr} {scope : Scope} {own : List (Str × Nat)} {g : WG} {tt : WT} {te : WE} (c : Ctx X C E rx) (hN : X.N.Nodup) (hI : ∀ i ∈ I, i ∈ own.map (·.2)) (hi : PI X tg iter (iOf C wi)) (ok : BlkOk X.N X.env.scope scope own)
    (hg : ∀ (s : Shared) (H : Hp) (c : Addr) (cl : List (Str × Addr)) (fp : List Addr), Ctx (X.blk s H scope (compEnvC scope cl c X.env) fp) C E0 (fun _ => False) → PG (X.blk s H scope (compEnvC scope cl c X.env) fp) tg (gOf C I g)) (ht : ∀ (s : Shared) (H : Hp) (c : Addr) (cl : List (Str × Addr)) (fp : List Addr), Ctx (X.blk s H scope (compEnvC scope cl c X.env) fp) C E0 (fun _ => False) → PTs (X.blk s H scope (compEnvC scope cl c X.env) fp) ifs (bOf C tt))
    (he : ∀ (s : Shared) (H : Hp) (c : Addr) (cl : List (Str × Addr)) (fp : List Addr), Ctx (X.blk s H scope (compEnvC scope cl c X.env) fp) C E0 (fun _ => False) → PE (X.blk s H scope (compEnvC scope cl c X.env) fp) elt (tOf C te)) (hs : ∀ x, foldedSetIterable iter X.env x = pure x := by intro _; rfl) :
    PE X (.ListComp elt [⟨tg, iter, ifs, 0⟩] scope pos) (tOf C (wLc wi g tt te (own.map (·.2)))) := PE.str (pe_lc c.calm hN hi ok (fun s H a cl fp => hg s H a cl fp c.blk) (fun s H a cl fp => ht s H a cl fp c.blk) (fun s H a cl fp => he s H a cl fp c.blk) hs) (lc_run hI)
theorem ds_setLc {i : Nat} {y : Str} {py spos : Pos} {I : List Nat} {ifs : List Expr} {scope : Scope} {own : List (Str × Nat)} {g : WG} {tt : WT} {te : WE} (c : Ctx X C E rx) (hN : X.N.Nodup) (hI : ∀ i ∈ I, i ∈ own.map (·.2)) (hi : PI X tg iter (iOf C wi)) (ok : BlkOk X.N X.env.scope scope own)
    (hg : ∀ (s : Shared) (H : Hp) (c : Addr) (cl : List (Str × Addr)) (fp : List Addr), Ctx (X.blk s H scope (compEnvC scope cl c X.env) fp) C E0 (fun _ => False) → PG (X.blk s H scope (compEnvC scope cl c X.env) fp) tg (gOf C I g)) (ht : ∀ (s : Shared) (H : Hp) (c : Addr) (cl : List (Str × Addr)) (fp : List Addr), Ctx (X.blk s H scope (compEnvC scope cl c X.env) fp) C E0 (fun _ => False) → PTs (X.blk s H scope (compEnvC scope cl c X.env) fp) ifs (bOf C tt))
    (he : ∀ (s : Shared) (H : Hp) (c : Addr) (cl : List (Str × Addr)) (fp : List Addr), Ctx (X.blk s H scope (compEnvC scope cl c X.env) fp) C E0 (fun _ => False) → PE (X.blk s H scope (compEnvC scope cl c X.env) fp) elt (tOf C te)) (hy : X.N[i]? = some y) (hyl : X.env.scope.names.lookup y = some .local) (hsw : swapsWith (.ListComp elt [⟨tg, iter, ifs, 0⟩] scope pos) (some (.Name y py)) spos.line X.env = pure true) (hs : ∀ x, foldedSetIterable iter X.env x = pure x := by intro _; rfl) :
    PS X (.Assign [.Name y py] (.ListComp elt [⟨tg, iter, ifs, 0⟩] scope pos) spos) (sOf C (wSet i (wLc wi g tt te (own.map (·.2))))) := PS.str (ps_setLc c.calm hN hy hyl hsw hi ok (fun s H a cl fp => hg s H a cl fp c.blk) (fun s H a cl fp => ht s H a cl fp c.blk) (fun s H a cl fp => he s H a cl fp c.blk) hs) (set_run i (lc_run hI))
/-! ### raise -/
theorem ds_raise {x m : Str} {j : Nat} {Ca : Addr} {p1 p2 p3 pos : Pos} {bm : List Value} (c : Ctx X C E rx) (tk : Takes X (fun cls d _ H => E cls d H)) (q : PySem.W.excIn X.K Ca bm "ValueError.__new__" = true) (F : PySem.ExcBaseFacts "ValueError" "ValueError.__new__" "ValueError.__init__" bm) (gC : X.mg x = some (.ref Ca)) (kC : PySem.W.keepIn X.K (.ref Ca) = true) (r : Raises X (.ref Ca)) (hg : Gl X x)
    (hdb : (x == ("__debug__" : Str)) = false := by decide) : PS X (.Raise (some (.Call (.Name x p1) [.Constant (.str m) j p2] [] p3)) none pos) (sOf C (fun _ _ => rx ⟨x, none⟩)) :=
  PS.str (ps_raise c.calm tk (pmk_own F q gC kC r hg hdb)) fun D σ H ⟨G, δ, qq, f, hw, k⟩ => c.lnk ⟨x, none⟩ _ _ H G f.ext ⟨⟨Ca, by rw [c.hM]; exact gC, rfl⟩, fun _ => rfl, fun _ h => by cases h⟩ hw
end
end L3

set_option maxRecDepth 100000
set_option maxHeartbeats 4000000
/-! The data layer: a def's body, defs by name, keywords, constants of the module. -/
namespace L3
open PySem PySem.Spec L2
/-- the values of a list at these places -/
@[simp] def pick {α : Type} (ix : List Nat) (xs : List α) : List α := ix.filterMap fun i => xs[i]?
@[simp] def startD (n : Nat) (ds : List D) : De := (ds.map fun d => some (Sl.val d)) ++ List.replicate (n - ds.length) none
section
variable {P : Program} {w : World} {K : PySem.W.Frag} {mg : Str → Option Value} {base : Heap} {W : Wd}
theorem start_frm {N : List Str} {vs : List V} {ds : List D} {H : Hp} {G : Gh} (g : GhOk W H G) (a : Ats K W H G ds vs) : Frm ⟨K, W, H, G, mg⟩ H G (L2.start N vs) (startD N.length ds) := by
  have hl := a.len
  refine ⟨by unfold L2.start startD; simp [hl], g, g.ok, .refl g.ok, fun i s hs => ?_, fun i j es es' v h1 => ?_⟩
  · unfold startD at hs
    by_cases hi : i < ds.length
    · rw [List.getElem?_append_left (by simpa using hi), List.getElem?_map] at hs
      obtain ⟨d, hd, e⟩ := Option.map_eq_some_iff.mp hs
      cases e
      obtain ⟨v, hv, av⟩ := a.get hd
      refine ⟨v, ?_, av⟩
      unfold L2.start
      rw [List.getElem?_append_left (by rw [List.length_map]; omega), List.getElem?_map, hv]; rfl
    · rw [List.getElem?_append_right (by simpa using hi)] at hs
      rw [List.getElem?_replicate] at hs
      split at hs <;> cases hs
  · unfold startD at h1
    by_cases hi : i < ds.length
    · rw [List.getElem?_append_left (by simpa using hi), List.getElem?_map] at h1
      obtain ⟨d, hd, e⟩ := Option.map_eq_some_iff.mp h1
      cases e
    · rw [List.getElem?_append_right (by simpa using hi), List.getElem?_replicate] at h1
      split at h1 <;> cases h1
/-- a def of the program: where it stands -/
structure DefAt (K : PySem.W.Frag) (mg : Str → Option Value) (x : Str) (st : Stmt) (ps : List Str) (kb : List (List Str × List Nat)) : Prop where
  ex : ∃ f fd, Fun K x x st f fd ∧ mg x = some (.ref f) ∧ Binds K fd ps [] ∧ ∀ p ∈ kb, ∀ (s : Shared) (ws : List Value), ws.length = p.1.length → BindsTo s fd ⟨[], p.1.zip ws⟩ (ps.zip (pick p.2 ws))
/-- a def that keeps its promise -/
structure Cal3 (P : Program) (w : World) (K : PySem.W.Frag) (mg : Str → Option Value) (base : Heap) (W : Wd) (k : Nat) (x : Str) (ps : List Str) (kb : List (List Str × List Nat)) (sp : WF) (n : Nat) : Prop where
  ex : ∃ f fd, FnOk P w K mg base (CX P w) k f fd ps (spW K W mg sp n) ∧ mg x = some (.ref f) ∧ PySem.W.keepIn K (.ref f) = true ∧ Binds K fd ps [] ∧ ∀ p ∈ kb, ∀ (s : Shared) (ws : List Value), ws.length = p.1.length → BindsTo s fd ⟨[], p.1.zip ws⟩ (ps.zip (pick p.2 ws))
  len : ∀ ds q x, sp ds q x → ds.length = n
theorem cut_hu {A : Around} {k : Nat} (h : Room k A) : A.units + 64 < cLine := h.units
theorem dok {x : Str} {st : Stmt} {N ps : List Str} {k n : Nat} {sp : WF} {wf : (Exn → Prop) → WS} {kb : List (List Str × List Nat)} (Df : DefAt K mg x st ps kb) (S : FnScope N ps (defScope st)) (hn : n = ps.length) (len : ∀ ds q x, sp ds q x → ds.length = n)
    (body : ∀ (f : Addr) (cdv : Value) (A : Around) (outer : List Env) (s : Shared) (H : Hp) (G : Gh) (E : XK) (rx : Exn → Prop), Room k (A.deeper (PyProof.Rows.envOfC x (defScope st) s.heap.objs.size f cdv)) → Ctx (cxOf (CX P w) P w K mg base N x (defScope st) f cdv A outer s H E) ⟨K, W, H, G, mg⟩ E rx →
      Takes (cxOf (CX P w) P w K mg base N x (defScope st) f cdv A outer s H E) (fun cls d _ H => E cls d H) → PSs (cxOf (CX P w) P w K mg base N x (defScope st) f cdv A outer s H E) (defBody st) (sOf ⟨K, W, H, G, mg⟩ (wf rx)))
    (law : ∀ ds q x, sp ds q x → wf x (startD N.length ds) { nx := fun _ => q (.val .non), rt := q }) : Cal3 P w K mg base W (k + 1) x ps kb sp n := by
  obtain ⟨f, fd, F, hm, hb, hkb⟩ := Df.ex
  refine ⟨⟨f, fd, F.okX S (spW_len hn) (fun cdv A outer s H vs Q E hr h => ?_), hm, F.kp, hb, hkb⟩, len⟩
  obtain ⟨G, ds, q, rx, g, a, hl, hsp, kq, kx⟩ := h
  have tk : Takes (cxOf (CX P w) P w K mg base N x (defScope st) f cdv A outer s H E) (fun cls d _ H => E cls d H) := takes_of rfl rfl rfl rfl
  refine ⟨_, body f cdv A outer s H G E rx hr ⟨rfl, rfl, rfl, passes_call tk fun _ _ _ _ h => h, passes_of rfl, fun z cls d H' G' e hz hx => kx z cls d H' G' e hz hx, hr.units⟩ tk, G, startD N.length ds, _, start_frm g a, law ds q rx hsp, ?_⟩
  exact ⟨fun σ' H' G' δ' f' _ q' => kq .non (.val .non) H' G' f'.ext rfl trivial q', fun _ _ _ _ _ _ z => z.elim, fun _ _ _ _ _ _ z => z.elim, fun v r H' G' e p n q' => kq v r H' G' e p n q'⟩
end
section
variable {X : Cx} {C : Ct} {E : XK} {rx : Exn → Prop} {e : Expr} {es : List Expr} {wr : WA} {pos p : Pos} {sp : WF} {n k j : Nat} {x : Str} {ps : List Str} {kws : List Keyword}
theorem de_c {kb : List (List Str × List Nat)} (c : Ctx X C E rx) (F : Cal3 X.prog X.w C.K C.mg X.base C.W k x ps kb sp n) (hr : Room j X.A) (hkj : k ≤ j) (hg : Gl X x) (ha : PA X (e :: es) (aOf C wr)) (hdb : (x == ("__debug__" : Str)) = false := by decide) (he : starEach (e :: es) X.env = (false, eval e X.env) :: starEach es X.env := by rfl)
    (hpl : (backTo pos (starEach es X.env)).any (·.1) = false := by rfl) : PE X (.Call (.Name x p) (e :: es) [] pos) (tOf C (wCall sp wr rx)) := by
  obtain ⟨f, fd, F1, hm, hk, hb, _⟩ := F.ex
  have e := c.hK
  have e2 := c.hM
  obtain ⟨K, W, H0, G0, mg⟩ := C
  dsimp only at e e2
  subst e e2
  exact de_call c F1 F.len (hr.mono hkj) hg hm hk hb ha hdb he hpl
/-- keywords alone -/
theorem dk_nil : PK X [] (aOf C wNil) := ⟨fun pos pins s σ H Q I ⟨G, δ, q, f, hw, kk⟩ => pk_nil.run pos pins s σ H Q I (kk [] [] H G (.refl f.gh.ok) rfl hw)⟩
theorem PK.str {t t' : TA} (h : PK X kws t) (hi : ∀ σ H Q, t' σ H Q → t σ H Q) : PK X kws t' := ⟨fun pos pins s σ H Q I q => h.run pos pins s σ H Q I (hi σ H Q q)⟩
theorem dk_cons {wa : WE} {nm : Option Str} {kpos : Pos} (ha : PE X e (tOf C wa)) (hr : PK X kws (aOf C wr)) : PK X (⟨nm, e, kpos⟩ :: kws) (aOf C (wCons wa wr)) :=
  PK.str (pk_cons ha hr) fun σ H Q ⟨G, δ, q, f, hw, kk⟩ => run f hw fun v r H1 G1 e1 f1 p1 q1 => runA f1 q1 fun vs rs H2 G2 e2 f2 p2 q2 =>
    kk (v :: vs) (r :: rs) H2 G2 (e1.trans e2 f.gh.ok) ⟨v, vs, rfl, p1.up f1.gh.ok e2 (fun _ h => h) f.gh.ok, p2.up f2.gh.ok (.refl f2.gh.ok) (fun _ h => e1.free h) f1.gh.ok⟩ q2
theorem pick_vals {ix : List Nat} {vs : List V} {us : List Value} (r : Vals vs us) : Vals (pick ix vs) (pick ix us) := by
  induction ix with
  | nil => exact .nil
  | cons i ix ih =>
    unfold pick at ih ⊢
    rw [List.filterMap_cons, List.filterMap_cons]
    cases e : vs[i]? with
    | none =>
      rw [r.none_of e]; exact ih
    | some v =>
      obtain ⟨u, e2, ru⟩ := r.get e
      rw [e2]
      exact .cons ru ih
theorem pick_reps {Hs H : Hp} {G : Gh} {ix : List Nat} {rs : List R} {vs : List V} (r : Reps C Hs H G rs vs) : Reps C Hs H G (pick ix rs) (pick ix vs) := by
  have get : ∀ {rs : List R} {vs : List V} (i : Nat), Reps C Hs H G rs vs → (rs[i]? = none ∧ vs[i]? = none) ∨ ∃ a v, rs[i]? = some a ∧ vs[i]? = some v ∧ Rep C Hs H G a v := by
    intro rs
    induction rs with
    | nil => intro vs i h; cases h; exact .inl ⟨by simp, by simp⟩
    | cons a rs ih =>
      intro vs i h
      obtain ⟨v, us, rfl, h1, h2⟩ := h
      cases i with
      | zero => exact .inr ⟨a, v, rfl, rfl, h1⟩
      | succ i =>
        rcases ih i h2 with ⟨z1, z2⟩ | ⟨b, u, z1, z2, z3⟩
        · exact .inl ⟨by simpa using z1, by simpa using z2⟩
        · exact .inr ⟨b, u, by simpa using z1, by simpa using z2, z3⟩
  induction ix with
  | nil => rfl
  | cons i ix ih =>
    unfold pick at ih ⊢
    rw [List.filterMap_cons, List.filterMap_cons]
    rcases get i r with ⟨e1, e2⟩ | ⟨a, v, e1, e2, h⟩
    · rw [e1, e2]; exact ih
    · rw [e1, e2]; exact ⟨v, _, rfl, h, ih⟩
@[simp] def wPick (ix : List Nat) (wr : WA) : WA := fun δ q => wr δ fun rs => q (pick ix rs)
theorem run_fnk0 {pins : List (Addr × Obj)} {σ : St} {H : Hp} {s : Shared} {Q : VK} {ws : List Value} {zs : List V} {f : Addr} {fd : FuncData} {ks : List Str} {ix : List Nat} {sp : Sp} {CXt : CXT} (F : FnOk X.prog X.w X.K X.mg X.base CXt k f fd ps sp) (hr : Room k X.A) (hb : ∀ (s : Shared) (ws : List Value), ws.length = ks.length → BindsTo s fd ⟨[], ks.zip ws⟩ (ps.zip (pick ix ws))) (hx : Passes CXt X E)
    (I : Inv X pins σ H s) (rz : Vals zs ws) (hl : ws.length = ks.length) (h : sp (pick ix zs) H Q E) : wpAny (model X.prog X.w) X.A (call (.ref f) [] (ks.zip ws)) (EP X pins σ Q) X.xe s := by
  refine wpAny_call (codeAny_mono (F.run X.A X.stack s H ⟨[], ks.zip ws⟩ (pick ix ws) (pick ix zs) Q E hr I.env0 (hb s ws hl) (pick_vals rz) h) fun r s' hq => ?_)
  cases r with
  | error e => exact hx pins σ H s e s' I hq
  | ok fl =>
    cases fl with
    | ret u => exact I.after hq
    | next => exact False.elim hq
    | brk => exact False.elim hq
    | cont => exact False.elim hq
@[simp] def wLen (n : Nat) (wr : WA) : WA := fun δ q => wr δ fun rs => rs.length = n ∧ q rs
/-- f(k = v, ..) -/
theorem pe_callK0 {f : Addr} {fd : FuncData} {ks : List Str} {ix : List Nat} {sp : Sp} {tk : TA} {CXt : CXT} (F : FnOk X.prog X.w X.K X.mg X.base CXt k f fd ps sp) (hr : Room k X.A) (hg : Gl X x) (hm : X.mg x = some (.ref f)) (hk : PySem.W.keepIn X.K (.ref f) = true) (hb : ∀ (s : Shared) (ws : List Value), ws.length = ks.length → BindsTo s fd ⟨[], ks.zip ws⟩ (ps.zip (pick ix ws))) (hx : Passes CXt X E)
    (hkw : PK X kws tk) (hall : (backToKw pos (keywordEach kws X.env)).all (·.1.isSome) = true := by rfl) (hks : (backToKw pos (keywordEach kws X.env)).filterMap (·.1) = ks := by rfl)
    (hdb : (x == ("__debug__" : Str)) = false := by decide) (hpl : ((backTo pos (starEach [] X.env)).any (·.1) || (backToKw pos (keywordEach kws X.env)).any (·.1.isNone)) = false := by rfl) :
    PE X (.Call (.Name x p) [] kws pos) (fun σ H Q => tk σ H fun zs H2 => zs.length = ks.length ∧ sp (pick ix zs) H2 Q E) := by
  refine ⟨fun pins s σ H Q I h => ?_⟩
  refine wpAny_Call_Name_kw (ld_glob I hg hm ?_ hdb)
  refine PySem.W.callWith_KW0 (h₀ := X.base) I.ok.mod.kin hk hall (thn (hkw.run pos pins s σ H _ I h) fun ws s2 ⟨zs, H2, I2, rz, hl, q2⟩ => ⟨I2.kIn, ?_⟩) hpl
  rw [hks]
  exact run_fnk0 F hr hb hx I2 rz (rz.length ▸ hl) q2
@[simp] def wCallK (sp : WF) (m : Nat) (ix : List Nat) (wr : WA) (rx : Exn → Prop) : WE := wCall sp (wPick ix (wLen m wr)) rx
theorem de_ck {ks : List Str} {ix : List Nat} {kb : List (List Str × List Nat)} (c : Ctx X C E rx) (F : Cal3 X.prog X.w C.K C.mg X.base C.W k x ps kb sp n) (hr : Room j X.A) (hkj : k ≤ j) (hg : Gl X x) (hkb : (ks, ix) ∈ kb) (ha : PK X kws (aOf C wr)) (hall : (backToKw pos (keywordEach kws X.env)).all (·.1.isSome) = true := by rfl) (hks : (backToKw pos (keywordEach kws X.env)).filterMap (·.1) = ks := by rfl)
    (hdb : (x == ("__debug__" : Str)) = false := by decide) (hpl : ((backTo pos (starEach [] X.env)).any (·.1) || (backToKw pos (keywordEach kws X.env)).any (·.1.isNone)) = false := by rfl) : PE X (.Call (.Name x p) [] kws pos) (tOf C (wCallK sp ks.length ix wr rx)) := by
  obtain ⟨f, fd, F1, hm, hk, hb, hkw⟩ := F.ex
  have e := c.hK
  have e2 := c.hM
  obtain ⟨K, W, H0, G0, mg⟩ := C
  dsimp only at e e2
  subst e e2
  refine PE.str (pe_callK0 F1 (hr.mono hkj) hg hm hk (hkw _ hkb) c.pass ha hall hks hdb hpl) fun σ H Q ⟨G, δ, q, f, hw, kk⟩ => ?_
  refine runA f (w := wr) (q := fun rs => rs.length = ks.length ∧ if nbB (pick ix rs) = true then sp ((pick ix rs).map R.data) q rx else sp ((pick ix rs).map R.data) (fun r => noLR r = true ∧ q r) rx) hw fun vs rs H1 G1 e1 f1 p1 ⟨hl, q1⟩ => ⟨by rw [← p1.len]; exact hl, ?_⟩
  have h3 := call_frm (C := ⟨X.K, W, H0, G0, X.mg⟩) (dvs := []) (dds := []) c.lnk F.len f f1 e1 (pick_reps (ix := ix) p1) (fun _ _ => rfl) (by simpa only [List.append_nil] using q1) kk
  simpa only [List.append_nil] using h3
end
end L3

set_option maxRecDepth 100000
set_option maxHeartbeats 4000000
/-! The data layer: short names, the simp set of the readings. -/
namespace L3
open PySem PySem.Spec L2
abbrev subW := w2i (fun _ _ => True) fun i j => .int (i - j)
abbrev modW := w2i (fun _ j => 0 < j) fun i j => .int (i % j)
abbrev divW := w2i CDivW fun i j => .int (i / j)
abbrev powW := w2i CPow fun i j => .int (i ^ j.toNat)
@[simp] def wNeg (wa : WE) : WE := fun δ q => wa δ fun r => match r with | .val (.int i) => q (.val (.int (-i))) | _ => False
@[simp] def wRaise (x : Str) (rx : Exn → Prop) : WS := fun _ _ => rx ⟨x, none⟩
@[simp] def wBreak : WS := fun δ q => q.bk δ
@[simp] def wCont : WS := fun δ q => q.ct δ
@[simp] def wRetN : WS := fun δ q => q.rt (.val .non)
/-- no opaque thing -/
def okB : D → Bool
  | .obj _ => false
  | _ => true
/-- a whole number -/
def whB : D → Bool
  | .int _ => true
  | _ => false
def inB (d : D) (lo hi : Int) : Bool := match d with
  | .int i => decide (lo ≤ i) && decide (i ≤ hi)
  | _ => false
section
variable {X : Cx} {C : Ct} {pos : Pos} {H : Hp} {G : Gh}
theorem de_dct : PE X (.Dict [] [] pos) (tOf C (wC .dct)) := PE.str pe_dnewK fun σ H Q ⟨G, δ, q, f, hw, k⟩ => fun p hp =>
  k _ (.val .dct) _ G (Ext.laid (.refl f.gh.ok) hp) ⟨p, rfl, upd_same, C.W.some_of f.gh.ok hp⟩ hw
/-- a module's int -/
theorem de_kint {x : Str} {i : Int} (h : ∃ t, X.mg x = some (.int i t)) (hg : Gl X x) (hdb : (x == ("__debug__" : Str)) = false := by decide) : PE X (.Name x pos) (tOf C (wC (.int i))) := by
  obtain ⟨t, h⟩ := h
  exact de_glob (v := .int i) hg h ⟨t, rfl⟩ (fun _ _ => rfl) hdb
/-- a module's tuple of ints -/
def KTup (K : PySem.W.Frag) (mg : Str → Option Value) (x : Str) (ns : List Int) : Prop := ∃ (a : Addr) (o : Obj) (its : Array Value) (n : Nat), mg x = some (.ref a) ∧ K.lookup a = some o ∧ o.cls = .type "tuple" ∧ o.data = .seq its n ∧ its.size ≤ sizeLine ∧ Vals (ns.map V.int) its.toList
theorem Ats.ints {K : PySem.W.Frag} {W : Wd} : ∀ ns : List Int, Ats K W H G (ns.map D.int) (ns.map V.int)
  | [] => rfl
  | n :: ns => ⟨_, _, rfl, rfl, Ats.ints ns⟩
theorem de_ktup {x : Str} {ns : List Int} (hK : C.K = X.K) (h : KTup X.K X.mg x ns) (hg : Gl X x) (hdb : (x == ("__debug__" : Str)) = false := by decide) : PE X (.Name x pos) (tOf C (wC (.tup (ns.map D.int)))) := by
  obtain ⟨a, o, its, n, hm, h1, h2, h3, h4, h5⟩ := h
  exact de_glob (v := .ref a) hg hm rfl (fun H G => ⟨a, _, rfl, .inr ⟨o, its, n, hK ▸ h1, h2, h3, h4, h5⟩, Ats.ints ns⟩) hdb
end
/-- an own class of error -/
structure ExcF (K : PySem.W.Frag) (mg : Str → Option Value) (x : Str) (Ca : Addr) (bm : List Value) : Prop where
  q : PySem.W.excIn K Ca bm "ValueError.__new__" = true
  gC : mg x = some (.ref Ca)
  kC : PySem.W.keepIn K (.ref Ca) = true
  b : PySem.W.subIn K (.ref Ca) (.type "BaseException") = some true
  t : PySem.W.typeIn K (.ref Ca) = some (.type "type")
theorem ds_raiseX {X : Cx} {C : Ct} {E : XK} {rx : Exn → Prop} {x m : Str} {j : Nat} {p1 p2 p3 pos : Pos} (c : Ctx X C E rx) (tk : Takes X (fun cls d _ H => E cls d H)) (h : ∃ Ca bm, PySem.ExcBaseFacts "ValueError" "ValueError.__new__" "ValueError.__init__" bm ∧ ExcF X.K X.mg x Ca bm) (hg : Gl X x) (hdb : (x == ("__debug__" : Str)) = false := by decide) :
    PS X (.Raise (some (.Call (.Name x p1) [.Constant (.str m) j p2] [] p3)) none pos) (sOf C (wRaise x rx)) := by
  obtain ⟨Ca, bm, hb, h⟩ := h
  exact ds_raise c tk h.q hb h.gC h.kC (raises_own h.b h.t) hg hdb
end L3

set_option maxRecDepth 100000
set_option maxHeartbeats 4000000
/-! The data layer: an error that is caught, handed back and asked for its class; a lambda handed to the def that catches. -/
namespace L3
open PySem PySem.Spec L2
/-- a caught error stands at a -/
def ExcHO (a : Addr) (cls : Value) (d : Option Addr) : HO := .ext fun h => ∃ (oe : Obj) (vs : Array Value), h.get? a = some oe ∧ Zc cls d oe ∧ oe.data = .fields vs
section
variable {X : Cx} {pins : List (Addr × Obj)} {σ : L2.St} {H : Hp} {s : Shared}
theorem inv_track {a : Addr} {oe : Obj} {vs : Array Value} {cls : Value} {d : Option Addr} (I : L2.Inv X (pins ++ [(a, oe)]) σ H s) (hz : Zc cls d oe) (hd : oe.data = .fields vs) (hnew : X.s_0.heap.get? a = none) (hp : ∀ p ∈ X.pn ++ pins, p.1 ≠ a) : L2.Inv X pins σ (upd H a (ExcHO a cls d)) s := by
  obtain ⟨e1, na, nL, nF, ncell⟩ := I.pin (a, oe) (by simp)
  have ne : ∀ {b o}, H b = some o → b ≠ a := fun {b o} h z => by
    have h' : H a = some o := z ▸ h
    rw [show H a = none from na] at h'; cases h'
  refine ⟨I.ok, I.os, I.bare, ⟨I.base.keep, I.base.slot, fun b o e n hx => ?_, I.base.there, fun b xs e => ?_, fun b o u e => ?_, fun b ps e => ?_⟩, I.loc, I.cell, ?_, fun x c e => ?_, fun p hpm => ?_, fun b u e => ?_, I.len⟩
  · have nb : b ≠ a := fun z => by subst z; rw [hnew] at e; cases e
    rw [upd_ne nb]; exact I.base.free b o e n hx
  · have q := I.base.tups b xs e
    rw [upd_ne (ne q)]; exact q
  · have q := I.base.frzs b o u e
    rw [upd_ne (ne q)]; exact q
  · obtain ⟨more, q⟩ := I.base.tbls b ps e
    exact ⟨more, by rw [upd_ne (ne q)]; exact q⟩
  · rw [upd_ne (fun z => nL z.symm)]; exact I.free
  · have nc : c ≠ a := fun z => by
      subst z
      obtain ⟨v, o, ho, hdc⟩ := I.cell x c e
      have ho' : some o = some oe := ho.symm.trans e1
      cases ho'
      exact ncell v hdc
    rw [upd_ne nc]; exact I.freeC x c e
  · have hpm' : p ∈ X.pn ++ (pins ++ [(a, oe)]) := by
      rcases List.mem_append.mp hpm with h | h
      · exact List.mem_append_left _ h
      · exact List.mem_append_right _ (List.mem_append_left _ h)
    obtain ⟨f1, f2, f3, f4, f5⟩ := I.pin p hpm'
    exact ⟨f1, by rw [upd_ne (hp p hpm)]; exact f2, f3, f4, f5⟩
  · by_cases hb : b = a
    · subst hb
      rw [upd_same] at e
      cases e
      exact ⟨⟨oe, vs, e1, hz, hd⟩, ⟨oe, e1⟩, fun h1 h2 ⟨o, v, a1, a2, a3⟩ k => ⟨o, v, k _ a1, a2, a3⟩⟩
    · rw [upd_ne hb] at e
      exact (I.hok b u e).stay (fun _ _ _ q => q) (fun c q => by rw [upd_ne (ne q)]; exact q) fun c xs q => by rw [upd_ne (ne q)]; exact q
end
/-- what the clause wishes: the error is tracked behind the suite -/
def wAsT (K : PySem.W.Frag) (c : Value) (i : Nat) (ts : Addr → Value → Option Addr → TS) (Wout : WX) (D : Ends) : WX := fun cls d σ H =>
  ∃ b, PySem.W.exmOne K cls c = some b ∧ (b = true → ∀ a, H a = none → ts a cls d { nx := fun σ' H' => D.nx (σ'.set i none) (upd H' a (ExcHO a cls d)), rt := fun _ _ => False } (σ.set i (some (.ref a))) H) ∧ (b = false → Wout cls d σ H)
section
variable {X : Cx} {x n : Str} {c : Value} {i : Nat} {body suite : List Stmt} {b₀ : Stmt} {np pos pos' : Pos} {tb : WX → TS} {ts : Addr → Value → Option Addr → TS} {Wout : WX}
theorem ps_tryT (ex0 : X.ex = []) (stk : X.stack = X.env :: X.outer) (frm : X.env.frame = some X.env.locals) (nod : X.N.Nodup) (ixn : X.N[i]? = some n) (loc : X.env.kindOf n = some .local) (nam : Names X x c) (tko : Takes X Wout)
    (bod : ∀ (W : WX) (pn : List (Addr × Obj)) (xe : Value → Shared → Prop), Takes (X.tr pn xe) W → PassesOwn (model X.prog X.w) X.A X.env xe → PSs (X.tr pn xe) body (tb W))
    (sui : ∀ (a : Addr) (oe : Obj) (cls : Value) (d : Option Addr) (pn : List (Addr × Obj)), PSs (X.suite a ((a, oe) :: pn)) (b₀ :: suite) (ts a cls d)) :
    PS X (.Try body [.ExceptHandler (some (.Name x np)) (some n) (b₀ :: suite) pos'] [] [] pos) (fun D σ H => tb (wAsT X.K c i ts Wout D) D σ H) := by
  refine ⟨fun pins s σ H D I h => ?_⟩
  have okX := I.ok
  have frames : X.A.frames = some (X.env :: X.outer) := okX.frames.trans (by rw [stk])
  let hnd : List ExceptHandler := [.ExceptHandler (some (.Name x np)) (some n) (b₀ :: suite) pos']
  let xe2 : Value → Shared → Prop := fun e s₁ => wpAny (model X.prog X.w) X.A (noteFrame e X.env) (fun _ s₂ => wpAny (model X.prog X.w) X.A (setFlight e none) (fun _ s₃ => wpAny (model X.prog X.w) X.A (handleBy e X.env hnd) (SP X pins D) X.xe s₃) X.xe s₂) X.xe s₁
  have caught : Takes (X.tr (X.pn ++ pins) xe2) (wAsT X.K c i ts Wout D) := by
    rintro u s' ⟨a, B, sI, pins', σ', H', cls, d, rfl, J', nb, up, sky, na, os, ag, b, eb, yes, no⟩
    have J : L2.Inv X pins σ' H' sI := J'.ofTry okX
    rw [show (X.tr (X.pn ++ pins) xe2).stack = X.env :: X.outer from stk] at sky
    show wpAny (model X.prog X.w) X.A (noteFrame (.ref a) X.env) _ _ _
    refine Sky.land Zc.steady frames frm sky fun h3 fl3 up3 => ?_
    have J3 : L2.Inv X pins σ' H' { s' with heap := h3 } := J.landed nb fl3.1 (up.trans up3) os ag
    obtain ⟨oe3, vs3, he3, hz3, hd3⟩ := fl3.there
    have nfr : a ∉ frs (X.env :: X.outer) := fun hm => by
      obtain ⟨_, o', e', hnf⟩ := fl3.2.2.1.mem hm
      rw [he3] at e'; cases e'
      exact hnf _ hd3
    have nL : a ≠ X.env.locals := fun z => nfr (List.mem_filterMap.mpr ⟨X.env, List.mem_cons_self, by rw [frm, z]⟩)
    have nF : a ∉ X.fs := fun hm => by
      obtain ⟨e, he, q⟩ := List.mem_filterMap.mp hm
      exact nfr (List.mem_filterMap.mpr ⟨e, List.mem_cons_of_mem _ he, q⟩)
    have aI : sI.heap.get? a = none := by
      cases q : sI.heap.get? a with
      | none => rfl
      | some o =>
        have z := nb a o q (by rw [show (X.tr (X.pn ++ pins) xe2).stack = X.env :: X.outer from stk]; exact nfr)
        rw [fl3.2.1] at z; cases z
    have a0 : X.s_0.heap.get? a = none := by
      cases q : X.s_0.heap.get? a with
      | none => rfl
      | some o =>
        obtain ⟨o', z⟩ := J.base.there a o q (by rw [ex0]; simp)
        rw [aI] at z; cases z
    have apin : ∀ p ∈ X.pn ++ pins, p.1 ≠ a := fun p hp z => by
      have z2 := (J.pin p (by first | exact hp | (rw [show (X.tr (X.pn ++ pins) xe2).pn = X.pn ++ pins from rfl]; exact List.mem_append_left _ hp))).1
      rw [z, aI] at z2; cases z2
    have S3 := J3.suite he3 hd3 na nL nF
    refine wpAny_handleBy_cons (codeAny_handlers_test ?_) (fun q => by cases q)
    have lookT : PySem.W.Looks (model X.prog X.w) h3 (typeOf (.ref a)) cls := fun A Q E s k q => wpAny_typeOf_ref (k _ _ he3) (by rw [hz3.1]; exact q)
    have lookM := PySem.W.exm_one (M := model X.prog X.w) J3.kIn lookT eb
    have named : ∀ {Q : Value → Shared → Prop} {E : Value → Shared → Prop}, Q c { s' with heap := h3 } → wpAny (model X.prog X.w) (X.A.mark (some (.ref a))) (eval (.Name x np) X.env) Q E { s' with heap := h3 } := fun {Q E} q => by
      rcases nam with ⟨hg, hdbg, hm | ⟨hm, hv, hnn⟩⟩
      · exact ld_glob (X := X.suite a ((a, oe3) :: (X.pn ++ pins))) S3 hg hm q hdbg
      · exact ld_blt (X := X.suite a ((a, oe3) :: (X.pn ++ pins))) S3 hg hm hv q hnn hdbg
    refine named (lookM.here ?_)
    cases b with
    | false =>
      show wpAny _ X.A (handleBy (.ref a) X.env []) _ _ _
      refine wpAny_handleBy_nil ?_
      obtain ⟨g1, g2, g3, oe, vs, T, oT, ts', he, hz, hd, h1, hr⟩ := id fl3
      unfold PySem.passOn
      refine wpAny_bind (wpAny_field he hd h1 ?_)
      rw [if_neg (show ¬ ((Value.ref T == Value.none) = true) from by simp)]
      have again : wpAny (model X.prog X.w) X.A (setFlight (.ref a) X.env.frame) (fun _ s4 => wpAny (model X.prog X.w) X.A (throw (.ref a) : Sem Flow) (SP X pins D) X.xe s4) X.xe { s' with heap := h3 } := by
        rw [frm]
        exact HandSPX.setFlight_upZ fl3 fun h4 hh4 up4 => wpAny_throw (tko _ _ ⟨a, B, sI, pins, σ', H', cls, d, rfl, J, nb, (up.trans up3).trans up4, .inr (.inr (by rw [stk]; exact hh4)), na, os, ag, no rfl⟩)
      first
        | exact wpAny_bind (wpAny_pure (wpAny_bind again))
        | exact wpAny_bind again
    | true =>
      refine codeAny_handlers_suite_as (HandSPX.lands_againZ fl3 fun h4 fl4 up4 => ?_)
      have J4 : L2.Inv X pins σ' H' { s' with heap := h4 } := J.landed nb fl4.1 ((up.trans up3).trans up4) os ag
      obtain ⟨oe4, vs4, he4, hz4, hd4⟩ := fl4.there
      have S4 := J4.suite he4 hd4 na nL nF
      refine store_ok (X := X.suite a ((a, oe4) :: (X.pn ++ pins))) (v := .ref a) S4 nod ixn (.inl loc) rfl (fun s5 S5 => ?_) (.inr loc)
      refine wpAny_mono ((sui a oe4 cls d (X.pn ++ pins)).run [] s5 _ H' _ S5 (yes rfl a na)) (fun f s6 hsp => ?_) fun _ _ z => z.elim
      cases f with
      | next =>
        obtain ⟨σ6, H6, S6, q6⟩ := hsp
        have S7 : L2.Inv X (pins ++ [(a, oe4)]) σ6 H6 s6 := (S6.unsuite okX).pins_of fun p hp => by
          rcases List.mem_append.mp hp with hp | hp
          · exact S6.pin p (List.mem_append_left _ (List.mem_cons_of_mem _ (List.mem_append_right _ hp)))
          · obtain rfl : p = (a, oe4) := by simpa using hp
            exact S6.pin _ (List.mem_append_left _ List.mem_cons_self)
        exact gone_ok S7 nod ixn loc fun s7 J7 => ⟨_, _, inv_track J7 hz4 hd4 a0 apin, q6⟩
      | brk =>
        obtain ⟨σ6, H6, S6, q6⟩ := hsp
        exact False.elim q6
      | cont =>
        obtain ⟨σ6, H6, S6, q6⟩ := hsp
        exact False.elim q6
      | ret u =>
        obtain ⟨v6, σ6, H6, S6, r6, q6⟩ := hsp
        exact False.elim q6
  refine wpAny_Try_except (wpAny_mono ((bod _ (X.pn ++ pins) xe2 caught PassesOwn.looking).run [] s σ H D (I.toTry _) h) (fun f s1 hsp => ?_) fun e s1 he => he)
  cases f with
  | next =>
    obtain ⟨σ', H', J', q⟩ := hsp
    exact wpAny_execs_nil ⟨σ', H', J'.ofTry okX, q⟩
  | brk =>
    obtain ⟨σ', H', J', q⟩ := hsp
    exact ⟨σ', H', J'.ofTry okX, q⟩
  | cont =>
    obtain ⟨σ', H', J', q⟩ := hsp
    exact ⟨σ', H', J'.ofTry okX, q⟩
  | ret u =>
    obtain ⟨v, σ', H', J', r, q⟩ := hsp
    exact ⟨v, σ', H', J'.ofTry okX, r, q⟩
end
end L3

set_option maxRecDepth 100000
set_option maxHeartbeats 4000000
/-! The data layer: the draws' world; a lambda handed to the def that catches. -/
namespace L3
open PySem PySem.Spec L2
/-- the draws: their dict, the cells, the tables of code objects -/
structure Dw where
  ad : Addr
  cl : Addr
  cells : List Int
  tabs : List (Addr × Str)
  hb : ∀ z ∈ cells, Builtin.Int.intBits z ≤ 1048576
  hl : cells.length ≤ 63
def kvD (w c : Int) (cl : Addr) : List (Key × V) := [(.inr "whole", .int w), (.inr "cells", .ref cl), (.inr "count", .int c)]
structure DrawOk (d : Dw) (H : Hp) : Prop where
  draw : ∃ w c : Int, 0 ≤ w ∧ 0 ≤ c ∧ H d.ad = some (.dK (kvD w c d.cl))
  cells : H d.cl = some (.lst (d.cells.map V.int))
  tabs : LamX.Tabs d.tabs H
  only : ∀ b ps, H b = some (.tbl ps) → b ∈ d.tabs.map (·.1)
def wdOf (d : Dw) : Wd where
  vol := fun b => b = d.ad ∨ b = d.cl ∨ b ∈ d.tabs.map (·.1)
  ok := DrawOk d
  loc := fun H H' k nt h => by
    obtain ⟨w, c, w0, c0, e⟩ := h.draw
    refine ⟨⟨w, c, w0, c0, k _ _ e (.inl (.inl rfl))⟩, k _ _ h.cells (.inl (.inr (.inl rfl))), fun p hp => ?_, fun b ps hb => h.only b ps (nt b ps hb)⟩
    obtain ⟨ps, e1, e2, e3⟩ := h.tabs p hp
    refine ⟨ps, k _ _ e1 (.inl (.inr (.inr (List.mem_map.mpr ⟨p, hp, rfl⟩)))), e2, fun pos cv hc => ?_⟩
    obtain ⟨c, e4, e5⟩ := e3 pos cv hc
    exact ⟨c, e4, k _ _ e5 (.inr trivial)⟩
  there := fun H b h hv => by
    rcases hv with rfl | rfl | hv
    · obtain ⟨w, c, _, _, e⟩ := h.draw
      exact ⟨_, e, fun z => z⟩
    · exact ⟨_, h.cells, fun z => z⟩
    · obtain ⟨p, hp, rfl⟩ := List.mem_map.mp hv
      obtain ⟨ps, e1, _⟩ := h.tabs p hp
      exact ⟨_, e1, fun z => z⟩
section
variable {X : Cx} {pins : List (Addr × Obj)} {σ : L2.St} {H H1 : Hp} {s : Shared}
open Classical in
/-- tracked tables are forgotten -/
noncomputable def hideT (T : List (Addr × Str)) (H : Hp) : Hp := fun b => if (∃ ps, H b = some (.tbl ps)) ∧ b ∉ T.map (·.1) then none else H b
theorem hideT_keep {T : List (Addr × Str)} {b : Addr} {o : HO} (h : H b = some o) (n : ∀ ps, o ≠ .tbl ps) : hideT T H b = some o := by
  unfold hideT
  rw [if_neg fun z => by
    obtain ⟨⟨ps, e⟩, _⟩ := z
    rw [h] at e; exact n ps (Option.some.inj e)]
  exact h
theorem hideT_mem {T : List (Addr × Str)} {b : Addr} (hm : b ∈ T.map (·.1)) : hideT T H b = H b := by
  unfold hideT
  rw [if_neg fun z => z.2 hm]
theorem hideT_none {T : List (Addr × Str)} {b : Addr} (h : H b = none) : hideT T H b = none := by
  unfold hideT
  split
  · rfl
  · exact h
theorem hideT_tbl {T : List (Addr × Str)} {b : Addr} {ps : Array Value} (h : hideT T H b = some (.tbl ps)) : b ∈ T.map (·.1) := by
  unfold hideT at h
  split at h
  · cases h
  · rename_i n
    by_cases hm : b ∈ T.map (·.1)
    · exact hm
    · exact absurd ⟨⟨ps, h⟩, hm⟩ n
theorem inv_hideT {T : List (Addr × Str)} (I : L2.Inv X pins σ H1 s) (h0 : ∀ b ps, X.H_0 b = some (.tbl ps) → b ∈ T.map (·.1)) : L2.Inv X pins σ (hideT T H1) s := by
  refine ⟨I.ok, I.os, I.bare, ⟨I.base.keep, I.base.slot, fun b o e n hx => hideT_none (I.base.free b o e n hx), I.base.there, fun b xs e => hideT_keep (I.base.tups b xs e) (by intro _ z; cases z), fun b o u e => hideT_keep (I.base.frzs b o u e) (by intro _ z; cases z), fun b ps e => ?_⟩,
    I.loc, I.cell, hideT_none I.free, fun x c e => hideT_none (I.freeC x c e), fun p hp => ?_, fun b u e => ?_, I.len⟩
  · obtain ⟨more, q⟩ := I.base.tbls b ps e
    exact ⟨more, by rw [hideT_mem (h0 b ps e)]; exact q⟩
  · obtain ⟨f1, f2, f3, f4, f5⟩ := I.pin p hp
    exact ⟨f1, hideT_none f2, f3, f4, f5⟩
  · have e' : H1 b = some u := by
      unfold hideT at e
      split at e
      · cases e
      · exact e
    exact (I.hok b u e').stay (fun _ _ _ q => q) (fun c q => hideT_keep q (by intro _ z; cases z)) fun c xs q => hideT_keep q (by intro _ z; cases z)
theorem tabs_hideT {T : List (Addr × Str)} (t : LamX.Tabs T H) : LamX.Tabs T (hideT T H) := fun p hp => by
  obtain ⟨ps, e1, e2, e3⟩ := t p hp
  refine ⟨ps, by rw [hideT_mem (List.mem_map.mpr ⟨p, hp, rfl⟩)]; exact e1, e2, fun pos cv hc => ?_⟩
  obtain ⟨c, e4, e5⟩ := e3 pos cv hc
  exact ⟨c, e4, hideT_keep e5 (LamX.codeO_ne)⟩
/-- all but tables stay, the tables are the known ones -/
structure ExtT (T : List (Addr × Str)) (H H1 : Hp) : Prop where
  same : ∀ b o, H b = some o → (∀ ps, o ≠ .tbl ps) → H1 b = some o
  tabs : LamX.Tabs T H1
  only : ∀ b ps, H1 b = some (.tbl ps) → b ∈ T.map (·.1)
def tLam3 (T : List (Addr × Str)) (TT : (XK → Hp → VK → Prop) → Hp → VK → Prop) (t : XK → TE) : TE := fun σ H Q => LamX.Tabs T H ∧ (∀ b ps, H b = some (.tbl ps) → b ∈ T.map (·.1)) ∧ ∀ H1, ExtT T H H1 → TT (fun E H' Q' => t E σ H' Q') H1 Q
/-- x(lambda: body) -/
theorem pe_lam3 {T : List (Addr × Str)} {TT : (XK → Hp → VK → Prop) → Hp → VK → Prop} {x a : Str} {g c P : Addr} {k : Nat} {pg : Arguments} {bg : List Stmt} {sg : Scope} {dV kV doc pm cdv ct oc : Value} {an od : Option Addr} {osl : Array (Option Value)} {Ng : List Str}
    {params : Arguments} {body : Expr} {scope : Scope} {t : XK → TE} {p lpos pos : Pos} (hg : Gl X x) (hm : X.mg x = some (.ref g)) (hk : PySem.W.keepIn X.K (.ref g) = true)
    (lk : X.K.lookup g = some ⟨oc, od, .func (PySem.W.fnOf x x pg bg sg dV kV doc pm an cdv ct), osl⟩) (hcg : PySem.W.codeIn X.K cdv x = true) (hb : L2.Binds X.K (PySem.W.fnOf x x pg bg sg dV kV doc pm an cdv ct) [a] []) (Sg : FnScope Ng [a] sg) (hNg : Ng[0]? = some a) (hva : Vis sg a)
    (hG : LamX.GivesTo X Ng x sg g cdv bg a (X.env.qual ++ "<lambda>") TT) (TB : LamX.TabB X.base X.mg c P) (hcode : X.env.code = .ref c) (hmT : (P, X.env.qual ++ "<lambda>") ∈ T) (hu : ∀ p ∈ T, p.1 = P → p.2 = X.env.qual ++ "<lambda>") (hr : Room (k + 2) X.A) (L : LamX.LamS X.env.scope scope) (hdef : defaultsOf params X.env = ([], []))
    (hbind : ∀ (q : Str) (cl : List (Str × Addr)) (pm cv ctv : Value), bindArgs (PySem.W.kla_fn "<lambda>" q params body scope cl pm cv ctv) ⟨[], []⟩ = pure [])
    (hbody : ∀ (A : Around) (outer : List Env) (s : Shared) (H : Hp) (E : XK) (f c' : Addr), Room k (A.deeper (LamX.lamEnv X scope s.heap.objs.size f c')) → PE (LamX.lamCx X A outer s H E scope f c') body (t E))
    (hdb : (x == ("__debug__" : Str)) = false := by decide) (hd : (a == ("__debug__" : Str)) = false := by decide) (hcd : (a == ("__classdict__" : Str)) = false := by decide) :
    PE X (.Call (.Name x p) [.Lambda params body scope lpos] [] pos) (tLam3 T TT t) := by
  refine ⟨fun pins s σ H Q I ⟨hT, hO, h⟩ => ?_⟩
  refine wpAny_Call_Name_kw (ld_glob I hg hm (PySem.W.callWith_K (h₀ := X.base) I.ok.mod.kin hk ?_ (by rfl) (by rfl)) hdb)
  show wpAny _ _ (spliced ((false, eval (.Lambda params body scope lpos) X.env) :: backTo pos (starEach [] X.env))) _ _ s
  refine Calls.spliced_cons (LamX.lam_make2 I TB hcode hmT hu hT hdef (L.has I.ok) fun f c' pm' ctv H1 s' I1 eN T1 hf hfn hfr hco => Calls.spliced_nil ?_)
  have h0 : ∀ b ps, X.H_0 b = some (.tbl ps) → b ∈ T.map (·.1) := fun b ps e => by
    obtain ⟨more, q⟩ := I.base.tbls b ps e
    exact hO b _ q
  have I2 := inv_hideT (T := T) I1 h0
  refine ⟨I2.kIn, ?_⟩
  have xt : ExtT T H (hideT T H1) := ⟨fun b o e n => hideT_keep (eN b o e n) n, tabs_hideT T1, fun b ps e => hideT_tbl e⟩
  have hco2 : hideT T H1 c' = some (LamX.CodeO c' (X.env.qual ++ "<lambda>")) := hideT_keep hco LamX.codeO_ne
  have run : codeAny (model X.prog X.w) X.A (.call (.ref g) ⟨[.ref f], []⟩) (CR C8.CX0 X.stack X.prog X.w (hideT T H1) s' Q C8.E0) s' := by
    refine LamX.run_ofS (N := Ng) (ps := [a]) (us := [.ref f]) (vs := [.ref f]) lk hcg Sg hr I2.env0 (hb s' [.ref f] I2.kIn rfl) (.cons rfl .nil) rfl fun hr' => ?_
    obtain ⟨t', ht', hq'⟩ := hG f c' s' (hideT T H1) Q (fun E H' Q' => t E σ H' Q') (fun W pn xe E p1 p2 tk hW => LamX.pe_act (i := 0) I2 L hf (hideT_none hfn) hfr (hbind _ _ _ _ _) tk hW hr' (fun A outer s H hr2 => hbody A outer s H E f c' hr2) hNg hva hd hcd) hco2 (h _ xt)
    exact ⟨t', ht'.nox, hq'⟩
  refine wpAny_call (codeAny_mono run fun r s2 hq => ?_)
  cases r with
  | error e => exact (show False from hq).elim
  | ok fl =>
    cases fl with
    | ret u => exact I2.after hq
    | next => exact False.elim hq
    | brk => exact False.elim hq
    | cont => exact False.elim hq
end
/-! ### the def that catches -/
theorem takes_len {X : Cx} {W : WX} (t : Takes X W) : Takes X (fun cls d σ H => σ.length = X.N.length → W cls d σ H) := fun u s' ⟨a, B, sI, pins, σ, H, cls, d, e, I, nb, up, sky, na, os, ag, w⟩ =>
  t u s' ⟨a, B, sI, pins, σ, H, cls, d, e, I, nb, up, sky, na, os, ag, w I.len⟩
/-- what the catching def makes of the lambda's reading -/
def TTc (K : PySem.W.Frag) (CD : Addr) : (XK → Hp → VK → Prop) → Hp → VK → Prop := fun tl H Q =>
  tl (fun cls d H' => PySem.W.exmOne K cls (.ref CD) = some true ∧ ∀ a, H' a = none → Q (.ref a) (upd H' a (ExcHO a cls d))) H (fun _ H' => Q .non H')
section
variable {X : Cx}
theorem caught_gives {x q : Str} {sg : Scope} {g CD : Addr} {cdg : Value} {j : Nat} {p1 p2 p3 p4 p5 p6 p7 p8 p9 p10 p11 p12 p13 p14 : Pos} (hS : FnScope ["work", "caught", "error"] ["work"] sg) (hge : sg.names.lookup ("DigitError" : Str) = some .globalImplicit) (hloc : sg.names.lookup ("error" : Str) = some .local) (hlc : sg.names.lookup ("caught" : Str) = some .local) (hme : X.mg "DigitError" = some (.ref CD)) :
    LamX.GivesTo X ["work", "caught", "error"] x sg g cdg [.Assign [.Name "caught" p1] (.Constant .none j p2) p3, .Try [.Expr (.Call (.Name "work" p4) [] [] p5) p6] [.ExceptHandler (some (.Name "DigitError" p7)) (some "error") [.Assign [.Name "caught" p8] (.Name "error" p9) p10] p11] [] [] p12, .Return (some (.Name "caught" p13)) p14] "work" q (TTc X.K CD) := by
  intro f c' s H Q tl act hc h
  let Y := (cxOf C8.CX0 X.prog X.w X.K X.mg X.base ["work", "caught", "error"] x sg g cdg X.A X.stack s H C8.E0).nox
  have nd := hS.nd
  have hgl : Gl Y "DigitError" := hge
  refine ⟨_, pss_cons (ps_set (X := Y) (i := 1) nd rfl (.inl hlc) pe_non) (pss_cons (ps_tryT (X := Y) (i := 2) (c := .ref CD) (Wout := fun _ _ _ _ => False)
      (tb := fun W D σ H => ∃ Ech : XK, (∀ cls d σ' H', Ech cls d H' → σ'.length = 3 → W cls d σ' H') ∧ σ[0]? = some (some (.ref f)) ∧ H c' = some (LamX.CodeO c' q) ∧ tl Ech H (fun _ H' => D.nx σ H'))
      (ts := fun a cls d D σ H => ∃ v, σ[2]? = some (some v) ∧ D.nx (σ.set 1 (some v)) H)
      rfl rfl rfl nd rfl hloc ⟨hgl, by decide, .inl hme⟩ takes0 (fun W pn xe tk _ => ?_) (fun a oe cls d pn => ?_)) (pss_one (ps_ret (pe_var (i := 1) rfl (.inl hlc))))), ?_⟩
  · refine ⟨fun pins s' σ H' D I h' => ?_⟩
    obtain ⟨Ech, hW, h1, h2, h3⟩ := h'
    have hp := act (fun cls d σ H => σ.length = (Y.tr pn xe).N.length → W cls d σ H) pn xe Ech p4 p5 (takes_len tk) hW
    exact (pss_one (ps_expr (pos := p6) hp)).run pins s' σ H' D I ⟨h1, h2, h3⟩
  · have hp : PSs (Y.suite a ((a, oe) :: pn)) [.Assign [.Name "caught" p8] (.Name "error" p9) p10] _ := pss_one (ps_set (i := 1) nd rfl (.inl hlc) (pe_var (i := 2) rfl (.inl hloc)))
    exact ⟨fun pins s' σ H' D I h' => hp.run pins s' σ H' D I h'⟩
  · refine ⟨fun cls d H' => PySem.W.exmOne X.K cls (.ref CD) = some true ∧ ∀ a, H' a = none → Q (.ref a) (upd H' a (ExcHO a cls d)), fun cls d σ' H' ⟨e1, e2⟩ hl => ⟨true, e1, fun _ a na => ?_, fun z => by cases z⟩, rfl, hc, ?_⟩
    · match σ', hl with
      | [b0, b1, b2], _ => exact ⟨.ref a, rfl, .ref a, rfl, e2 a na⟩
    · have e : ∀ σ1 : L2.St, σ1[1]? = some (some V.non) → (fun (_ : V) (H' : Hp) => tRet (tVar 1) { nx := fun _ H' => Q .non H', rt := Q } σ1 H') = fun _ H' => Q .non H' := fun σ1 e1 => by
        funext _ H'
        refine propext ⟨fun ⟨v, e2, z⟩ => ?_, fun z => ⟨.non, e1, z⟩⟩
        rw [e1] at e2; cases e2; exact z
      show tl _ H (fun (_ : V) (H' : Hp) => tRet (tVar 1) { nx := fun _ H' => Q .non H', rt := Q } ((L2.start ["work", "caught", "error"] [V.ref f]).set 1 (some .non)) H')
      rw [e _ rfl]
      exact h
end
end L3

set_option maxRecDepth 100000
set_option maxHeartbeats 4000000
/-! The data layer: isinstance(caught(lambda: body), Cls). -/
namespace L3
open PySem PySem.Spec L2
/-- isinstance of None or of a tracked error -/
def rErr (K : PySem.W.Frag) : List V → Hp → VK → Prop := fun xs H Q => ∃ (x c : V) (u : Value) (b : Bool), xs = [x, c] ∧ ClsV c u ∧
  ((x = .non ∧ PySem.W.kitOne K (.type "NoneType") u = some b ∧ Q (.bl b) H) ∨ (∃ a D, x = .ref a ∧ H a = some (ExcHO a (.ref D) none) ∧ ExcC K D ∧ PySem.W.kitOne K (.ref D) u = some b ∧ Q (.bl b) H))
section
variable {X : Cx}
theorem call_isErr : CallR X (.builtin "isinstance") (rErr X.K) := by
  intro pins s σ H xs us Q I r h
  obtain ⟨x, c, u, b, rfl, k, h⟩ := h
  rcases h with ⟨rfl, e, q⟩ | ⟨a, D, rfl, ha, C, e, q⟩
  · exact call_isi pins s σ H _ us Q I r ⟨.non, c, _, u, b, rfl, k, .base .non, e, q⟩
  · obtain ⟨u1, u2, rfl, r1, r2⟩ := vals2 r
    have e2 := k.eq r2
    subst e2
    obtain rfl : u1 = Value.ref a := r1
    obtain ⟨⟨oe, vs, hget, hz, hv⟩, _⟩ := I.hok a _ ha
    have J : PySem.W.InstAt s.heap a oe D none := by
      obtain ⟨oc, od, oda, osl⟩ := oe
      obtain ⟨h1, h2⟩ := hz
      dsimp only at h1 h2 hv
      subst h1 h2 hv
      exact ⟨hget, rfl, rfl, trivial⟩
    exact PySem.W.kia_one (PySem.W.handS_kitx_exc C.hg C.hk C.hs C.hd C.ha C.hn C.ht C.hm) I.kIn J e (fun z => nomatch z) fun tk => ⟨.bl b, H, I.tok tk, rfl, q⟩
end
/-- only kept values -/
@[simp] def valD (δ : De) : De := δ.map fun s => match s with
  | some (.val d) => some (.val d)
  | _ => none
@[simp] def wErr (ns : List (Str × Bool)) (wb : (Exn → Prop) → WE) : WE := fun δ q => wb (fun z => z.most = none ∧ match ns.lookup z.cls with
  | some b => q (.val (.bl b))
  | none => False) (valD δ) (fun _ => q (.val (.bl false)))
/-- what the classes say: the caught ones with the answer of isinstance -/
structure ErrC (K : PySem.W.Frag) (mg : Str → Option Value) (CD : Addr) (ns : List (Str × Bool)) (u : Value) : Prop where
  non : PySem.W.kitOne K (.type "NoneType") u = some false
  err : ∀ p ∈ ns, ∃ D, mg p.1 = some (.ref D) ∧ ExcC K D ∧ PySem.W.exmOne K (.ref D) (.ref CD) = some true ∧ PySem.W.kitOne K (.ref D) u = some p.2
/-- where the def that catches stands -/
structure CaughtAt (K : PySem.W.Frag) (mg : Str → Option Value) (CD : Addr) : Prop where
  ex : ∃ (g : Addr) (cdv : Value) (sg : Scope) (pg : Arguments) (bg : List Stmt) (dV kV doc pm ct oc : Value) (an od : Option Addr) (osl : Array (Option Value)) (j : Nat) (p1 p2 p3 p4 p5 p6 p7 p8 p9 p10 p11 p12 p13 p14 : Pos),
    mg "_law_caught" = some (.ref g) ∧ PySem.W.keepIn K (.ref g) = true ∧ K.lookup g = some ⟨oc, od, .func (PySem.W.fnOf "_law_caught" "_law_caught" pg bg sg dV kV doc pm an cdv ct), osl⟩ ∧ PySem.W.codeIn K cdv "_law_caught" = true ∧
    Binds K (PySem.W.fnOf "_law_caught" "_law_caught" pg bg sg dV kV doc pm an cdv ct) ["work"] [] ∧ FnScope ["work", "caught", "error"] ["work"] sg ∧ sg.names.lookup ("work" : Str) = some .local ∧
    sg.names.lookup ("DigitError" : Str) = some .globalImplicit ∧ sg.names.lookup ("error" : Str) = some .local ∧ sg.names.lookup ("caught" : Str) = some .local ∧ mg "DigitError" = some (.ref CD) ∧
    bg = [.Assign [.Name "caught" p1] (.Constant .none j p2) p3, .Try [.Expr (.Call (.Name "work" p4) [] [] p5) p6] [.ExceptHandler (some (.Name "DigitError" p7)) (some "error") [.Assign [.Name "caught" p8] (.Name "error" p9) p10] p11] [] [] p12, .Return (some (.Name "caught" p13)) p14]
/-- the code and its table -/
structure CodeAt (base : Heap) (mg : Str → Option Value) (T : List (Addr × Str)) (cdv : Value) (q : Str) : Prop where
  ex : ∃ c P, cdv = .ref c ∧ LamX.TabB base mg c P ∧ (P, q) ∈ T ∧ ∀ p ∈ T, p.1 = P → p.2 = q
section
variable {X : Cx} {E : XK} {rx : Exn → Prop} {d : Dw} {K : PySem.W.Frag} {mg : Str → Option Value} {H H0 H1 : Hp} {G G0 : Gh} {σ : L2.St} {δ : De}
theorem valD_get {i : Nat} {s : Sl} (h : (valD δ)[i]? = some (some s)) : δ[i]? = some (some s) ∧ ∃ x, s = .val x := by
  unfold valD at h
  rw [List.getElem?_map] at h
  obtain ⟨t, e, h⟩ := Option.map_eq_some_iff.mp h
  split at h
  · rename_i x
    cases h
    exact ⟨e, x, rfl⟩
  · cases h
theorem Frm.lam {W : Wd} {G' : Gh} (f : Frm ⟨K, W, H0, G0, mg⟩ H G σ δ) (e : Ext W H G H1 G) : Frm ⟨K, W, H1, G, mg⟩ H1 G σ (valD δ) := by
  have f1 : Frm ⟨K, W, H0, G0, mg⟩ H1 G σ δ := f.up e
  refine ⟨by rw [f1.len]; unfold valD; rw [List.length_map], f1.gh, e.ok, .refl e.ok, fun i s hs => ?_, fun i j ds es v h1 => ?_⟩
  · obtain ⟨h1, x, rfl⟩ := valD_get hs
    obtain ⟨v, h2, h3⟩ := f1.sl i _ h1
    exact ⟨v, h2, h3⟩
  · obtain ⟨_, x, z⟩ := valD_get h1
    cases z
theorem ExtT.ext (e : ExtT d.tabs H H1) (g : DrawOk d H) : Ext (wdOf d) H G H1 G := by
  have hv : ∀ b o, ¬ (wdOf d).vol b → H b = some o → H1 b = some o := fun b o n h => e.same b o h fun ps z => by
    subst z
    exact n (.inr (.inr (g.only b ps h)))
  refine ⟨hv, fun _ _ h => h, fun _ _ h => .inl h, ?_⟩
  obtain ⟨w, c, w0, c0, q⟩ := g.draw
  exact ⟨⟨w, c, w0, c0, e.same _ _ q (by intro _ z; cases z)⟩, e.same _ _ g.cells (by intro _ z; cases z), e.tabs, e.only⟩
theorem de_err {wb : (Exn → Prop) → WE} {ns : List (Str × Bool)} {cv : V} {u : Value} {ce : Expr} {CD : Addr} {params : Arguments} {body : Expr} {scope : Scope} {k : Nat} {pi p lpos cpos pos : Pos} {Hz : Hp} {Gz : Gh} (c : Ctx X ⟨K, wdOf d, Hz, Gz, mg⟩ E rx) (ct : CaughtAt K mg CD) (ec : ErrC K mg CD ns u)
    (hi : Gl X "isinstance") (hmi : X.mg "isinstance" = none) (hc : PE X ce (tC cv)) (kc : ClsV cv u) (hg : Gl X "_law_caught") (cd : CodeAt X.base mg d.tabs X.env.code (X.env.qual ++ "<lambda>")) (hr : Room (k + 2) X.A) (L : LamX.LamS X.env.scope scope) (hdef : defaultsOf params X.env = ([], []))
    (hbind : ∀ (q : Str) (cl : List (Str × Addr)) (pm cv ctv : Value), bindArgs (PySem.W.kla_fn "<lambda>" q params body scope cl pm cv ctv) ⟨[], []⟩ = pure [])
    (hbody : ∀ (A : Around) (outer : List Env) (s : Shared) (H : Hp) (E : XK) (f c' : Addr) (H0 : Hp) (G0 : Gh) (rx : Exn → Prop), Room k (A.deeper (LamX.lamEnv X scope s.heap.objs.size f c')) → Ctx (LamX.lamCx X A outer s H E scope f c') ⟨K, wdOf d, H0, G0, mg⟩ E rx → PE (LamX.lamCx X A outer s H E scope f c') body (tOf ⟨K, wdOf d, H0, G0, mg⟩ (wb rx)))
    (he1 : starEach [Expr.Call (.Name "_law_caught" p) [.Lambda params body scope lpos] [] cpos, ce] X.env = (false, eval (.Call (.Name "_law_caught" p) [.Lambda params body scope lpos] [] cpos) X.env) :: starEach [ce] X.env := by rfl)
    (he2 : starEach [ce] X.env = (false, eval ce X.env) :: starEach [] X.env := by rfl) (hpl : (backTo pos (starEach [ce] X.env)).any (·.1) = false := by rfl) :
    PE X (.Call (.Name "isinstance" pi) [.Call (.Name "_law_caught" p) [.Lambda params body scope lpos] [] cpos, ce] [] pos) (tOf ⟨K, wdOf d, Hz, Gz, mg⟩ (wErr ns wb)) := by
  obtain ⟨g, cdv, sg, pg, bg, dV, kV, doc, pm, ctv, oc, an, od, osl, j, p1, p2, p3, p4, p5, p6, p7, p8, p9, p10, p11, p12, p13, p14, hm, hk, lk, hcg, hb, Sg, hwl, hge, hloc, hlc, hme, rfl⟩ := ct.ex
  obtain ⟨cc, P, hcode, TB, hmT, hu⟩ := cd.ex
  have eK : K = X.K := c.hK
  have eM : mg = X.mg := c.hM
  subst eK eM
  have lamP := pe_lam3 (T := d.tabs) (x := "_law_caught") (p := p) (lpos := lpos) (pos := cpos) (k := k) (t := fun E => fun σ H Q => ∃ H0 G0 rx, Lnk ⟨X.K, wdOf d, H0, G0, X.mg⟩ E rx ∧ tOf ⟨X.K, wdOf d, H0, G0, X.mg⟩ (wb rx) σ H Q) (params := params) (body := body) (scope := scope)
    hg hm hk lk hcg hb Sg rfl (.inl hwl) (caught_gives (X := X) Sg hge hloc hlc hme) TB hcode hmT hu hr L hdef hbind (fun A outer s H E' f c' hr2 => ⟨fun pins s' σ H' Q I ⟨H0, G0, rx', Ln, h⟩ =>
      (hbody A outer s H E' f c' H0 G0 rx' hr2 ⟨rfl, rfl, rfl, passes_call (takes_of (X := LamX.lamCx X A outer s H E' scope f c') rfl rfl rfl rfl) fun _ _ _ _ h => h, passes_of rfl, Ln, hr2.units⟩).run pins s' σ H' Q I h⟩)
  refine PE.str (pe_callB call_isErr hi hmi rfl (pa_cons lamP (pa_cons hc pa_nil he2) he1) (by decide) (by decide) he1 hpl) fun σ H Q ⟨G, δ, q, f, hw, kk⟩ => ?_
  have g0 : DrawOk d H := f.gh.ok
  refine ⟨g0.tabs, g0.only, fun H1 x1 => ?_⟩
  have e1 : Ext (wdOf d) H G H1 G := x1.ext g0
  refine ⟨H1, G, _, fun z cls dd H' G' e2 hz hx => ?_, G, valD δ, _, Frm.lam (G' := G) f e1, hw, fun v r H' G' e2 p2 q2 => ?_⟩
  · obtain ⟨hx0, hx⟩ := hx
    obtain ⟨⟨D, hD, rfl⟩, hn, _⟩ := hz
    have hd := hn hx0
    subst hd
    split at hx
    · rename_i b eb
      obtain ⟨D', hD', eC, ex, ek⟩ := ec.err (z.cls, b) (PySem.mem_of_lookup eb)
      have eD : D' = D := by
        have := hD.symm.trans hD'
        cases this; rfl
      subst eD
      refine ⟨ex, fun a na => ?_⟩
      exact ⟨.ref a, cv, u, b, rfl, kc, .inr ⟨a, D', rfl, upd_same, eC, ek, kk (.bl b) (.val (.bl b)) _ G' ((e1.trans e2 f.gh.ok).laid na (by intro ps z; unfold ExcHO at z; cases z)) rfl hx⟩⟩
    · exact hx.elim
  · exact ⟨.non, cv, u, false, rfl, kc, .inl ⟨rfl, ec.non, kk (.bl false) (.val (.bl false)) _ G' (e1.trans e2 f.gh.ok) rfl q2⟩⟩
end
end L3

set_option maxHeartbeats 400000
namespace L3
/-- the mixing of the draws -/
def mixS (v : Int) : Int := v % 2305843009213693951 + v % 2305843009213693951 / 131072
def mixR (cells : List Int) (f : Int) : Int := cells.foldl (fun f cell => mixS ((f + cell) * 1099511628211)) f
def mixF (cells : List Int) (n : Int) : Int := mixS ((mixR cells (1469598103934665603 + 97 * n) + n) * 1099511628211)
theorem mixS_nn (v : Int) : 0 ≤ mixS v := by unfold mixS; omega
theorem mixF_nn (cells : List Int) (n : Int) : 0 ≤ mixF cells n := mixS_nn _
theorem mixS_0 {v : Int} (h : mixS v = 0) : v % 2305843009213693951 = 0 := by unfold mixS at h; omega
theorem mixS_eq {v u : Int} (h : v % 2305843009213693951 = u % 2305843009213693951) : mixS v = mixS u := by unfold mixS; rw [h]
theorem mixR_mod {cells : List Int} {f g : Int} (h : f % 2305843009213693951 = g % 2305843009213693951) : mixR cells f % 2305843009213693951 = mixR cells g % 2305843009213693951 := by
  cases cells with
  | nil => exact h
  | cons a r =>
    show mixR r (mixS ((f + a) * 1099511628211)) % _ = mixR r (mixS ((g + a) * 1099511628211)) % _
    rw [mixS_eq (v := (f + a) * 1099511628211) (u := (g + a) * 1099511628211) (by omega)]
/-- a place at which the first step is v -/
theorem mix_at (s v c : Int) (hv : v % 2305843009213693951 = v) : ∃ n, c ≤ n ∧ ((1469598103934665603 + 97 * n + s) * 1099511628211) % 2305843009213693951 = v := by
  obtain ⟨X, hX⟩ : ∃ X : Int, X = (v * 1886636988539514303 - s - 1469598103934665603) * 213944196731167480 := ⟨_, rfl⟩
  refine ⟨X + 2305843009213693951 * ((X.natAbs : Int) + c.natAbs), by omega, ?_⟩
  omega
theorem mix_inv {x : Int} (h : x * 1099511628211 % 2305843009213693951 = 0) : x % 2305843009213693951 = 0 := by
  obtain ⟨k, hk⟩ : ∃ k, x * 1099511628211 = 2305843009213693951 * k := ⟨_, (Int.mul_ediv_cancel' (Int.dvd_of_emod_eq_zero h)).symm⟩
  have h1 : x = x * 1099511628211 * 1886636988539514303 - 2305843009213693951 * (899618620532 * x) := by clear hk h; omega
  rw [hk, Int.mul_assoc, ← Int.mul_sub] at h1
  rw [h1]
  exact Int.mul_emod_right _ _
theorem mix_98 {x : Int} (h1 : x % 2305843009213693951 = 0) (h2 : (x + 98) % 2305843009213693951 = 0) : False := by omega
theorem mix_nn {R1 R2 n1 n2 : Int} (h1 : (R1 + n1) % 2305843009213693951 = 0) (h2 : (R2 + n2) % 2305843009213693951 = 0) (e : R1 % 2305843009213693951 = R2 % 2305843009213693951) : ∃ j, n1 = n2 + 2305843009213693951 * j := ⟨(n1 - n2) / 2305843009213693951, by omega⟩
theorem mix_yz {y z : Int} (h1 : (y + 2305843009213693951 * z) % 2305843009213693951 = 2305843009213693950) (h2 : y % 2305843009213693951 = 17592051827710) : False := by omega
theorem mix_j {A a n j : Int} : (A + 97 * (n + 2305843009213693951 * j) + a) * 1099511628211 = (A + 97 * n + a) * 1099511628211 + 2305843009213693951 * (97 * 1099511628211 * j) := by omega
theorem mixR_cons (a : Int) (r : List Int) (f : Int) : mixR (a :: r) f = mixR r (mixS ((f + a) * 1099511628211)) := rfl
theorem mix_h {cells : List Int} {c : Int} (hn : ¬ ∃ k : Nat, mixF cells (c + 1 + k) ≠ 0) (n : Int) (hcn : c + 1 ≤ n) : (mixR cells (1469598103934665603 + 97 * n) + n) % 2305843009213693951 = 0 := by
  have h1 : mixF cells n = 0 := Classical.byContradiction fun z => by
    obtain ⟨k, hk⟩ : ∃ k : Nat, n = c + 1 + k := ⟨(n - (c + 1)).toNat, by omega⟩
    subst hk
    exact hn ⟨k, z⟩
  clear hn
  unfold mixF at h1
  revert h1
  generalize mixR cells (1469598103934665603 + 97 * n) = R
  intro h1
  exact mix_inv (mixS_0 h1)
theorem mix_e {a n1 n2 : Int} (r : List Int) (e1 : ((1469598103934665603 + 97 * n1 + a) * 1099511628211) % 2305843009213693951 = 2305843009213693950) (e2 : ((1469598103934665603 + 97 * n2 + a) * 1099511628211) % 2305843009213693951 = 17592051827710) :
    mixR (a :: r) (1469598103934665603 + 97 * n1) % 2305843009213693951 = mixR (a :: r) (1469598103934665603 + 97 * n2) % 2305843009213693951 := by
  rw [mixR_cons, mixR_cons]
  refine mixR_mod ?_
  unfold mixS
  rw [e1, e2]
  rfl
theorem mix_some (cells : List Int) (c : Int) : ∃ k : Nat, mixF cells (c + 1 + k) ≠ 0 := by
  refine Classical.byContradiction fun hn => ?_
  have h := fun n => mix_h hn n
  clear hn
  cases cells with
  | nil =>
    have h1 := h (c + 1) (by omega)
    have h2 := h (c + 1 + 1) (by omega)
    rw [show mixR [] = id from rfl] at h1 h2
    dsimp only [id] at h1 h2
    refine mix_98 h1 ?_
    rw [← h2]
    congr 1
    omega
  | cons a r =>
    obtain ⟨n1, g1, e1⟩ := mix_at a 2305843009213693950 (c + 1) (by omega)
    obtain ⟨n2, g2, e2⟩ := mix_at a 17592051827710 (c + 1) (by omega)
    obtain ⟨j, rfl⟩ := mix_nn (h n1 g1) (h n2 g2) (mix_e r e1 e2)
    rw [mix_j] at e1
    exact mix_yz e1 e2
end L3

set_option maxRecDepth 100000
set_option maxHeartbeats 4000000
/-! The data layer: the draws. -/
namespace L3
open PySem PySem.Spec L2
/-- the draws exactly -/
structure DrawX (d : Dw) (w c : Int) (H : Hp) : Prop where
  draw : H d.ad = some (.dK (kvD w c d.cl))
  cells : H d.cl = some (.lst (d.cells.map V.int))
  tabs : LamX.Tabs d.tabs H
  only : ∀ b ps, H b = some (.tbl ps) → b ∈ d.tabs.map (·.1)
def wdX (d : Dw) (w c : Int) : Wd where
  vol := fun b => b = d.ad ∨ b = d.cl ∨ b ∈ d.tabs.map (·.1)
  ok := DrawX d w c
  loc := fun H H' k nt h => by
    refine ⟨k _ _ h.draw (.inl (.inl rfl)), k _ _ h.cells (.inl (.inr (.inl rfl))), fun p hp => ?_, fun b ps hb => h.only b ps (nt b ps hb)⟩
    obtain ⟨ps, e1, e2, e3⟩ := h.tabs p hp
    refine ⟨ps, k _ _ e1 (.inl (.inr (.inr (List.mem_map.mpr ⟨p, hp, rfl⟩)))), e2, fun pos cv hc => ?_⟩
    obtain ⟨c, e4, e5⟩ := e3 pos cv hc
    exact ⟨c, e4, k _ _ e5 (.inr trivial)⟩
  there := fun H b h hv => by
    rcases hv with rfl | rfl | hv
    · exact ⟨_, h.draw, fun z => z⟩
    · exact ⟨_, h.cells, fun z => z⟩
    · obtain ⟨p, hp, rfl⟩ := List.mem_map.mp hv
      obtain ⟨ps, e1, _⟩ := h.tabs p hp
      exact ⟨_, e1, fun z => z⟩
theorem DrawX.ok {d : Dw} {w c : Int} {H : Hp} (h : DrawX d w c H) (hw : 0 ≤ w) (hc : 0 ≤ c) : DrawOk d H := ⟨⟨w, c, hw, hc, h.draw⟩, h.cells, h.tabs, h.only⟩
theorem DrawOk.x {d : Dw} {H : Hp} (h : DrawOk d H) : ∃ w c : Int, 0 ≤ w ∧ 0 ≤ c ∧ DrawX d w c H := by
  obtain ⟨w, c, w0, c0, e⟩ := h.draw
  exact ⟨w, c, w0, c0, e, h.cells, h.tabs, h.only⟩
theorem DrawX.ne {d : Dw} {w c : Int} {H : Hp} (h : DrawX d w c H) : d.cl ≠ d.ad := fun z => by
  have e := h.cells
  rw [z, h.draw] at e
  cases e
/-- the dict is written -/
theorem DrawX.put {d : Dw} {w c w' c' : Int} {H : Hp} (h : DrawX d w c H) : DrawX d w' c' (upd H d.ad (.dK (kvD w' c' d.cl))) := by
  refine ⟨upd_same, by rw [upd_ne h.ne]; exact h.cells, fun p hp => ?_, fun b ps hb => ?_⟩
  · obtain ⟨ps, e1, e2, e3⟩ := h.tabs p hp
    refine ⟨ps, by rw [upd_ne (fun z => by rw [z, h.draw] at e1; cases e1)]; exact e1, e2, fun pos cv hc => ?_⟩
    obtain ⟨c, e4, e5⟩ := e3 pos cv hc
    exact ⟨c, e4, by rw [upd_ne (fun z => by rw [z, h.draw] at e5; exact absurd (Option.some.inj e5) (by intro q; unfold LamX.CodeO at q; cases q))]; exact e5⟩
  · by_cases hz : b = d.ad
    · subst hz; rw [upd_same] at hb; cases hb
    · rw [upd_ne hz] at hb; exact h.only b ps hb
theorem kv_w {w c : Int} {a : Addr} : valV (kvD w c a) (.inr "whole") = some (.int w) := by rfl
theorem kv_c {w c : Int} {a : Addr} : valV (kvD w c a) (.inr "count") = some (.int c) := by rfl
theorem kv_l {w c : Int} {a : Addr} : valV (kvD w c a) (.inr "cells") = some (.ref a) := by rfl
theorem kp_w {w c w' : Int} {a : Addr} : putK (kvD w c a) (.inr "whole") (.int w') = kvD w' c a := by rfl
theorem kp_c {w c c' : Int} {a : Addr} : putK (kvD w c a) (.inr "count") (.int c') = kvD w c' a := by rfl
@[simp] def wAd (i : Nat) (d : Dw) (k : (R → Prop) → Prop) : WE := fun δ q => δ[i]? = some (some (.val (.obj (.ref d.ad)))) ∧ k q
section
variable {X : Cx} {E : XK} {rx : Exn → Prop} {d : Dw} {K : PySem.W.Frag} {mg : Str → Option Value} {H H0 H1 : Hp} {G G0 : Gh} {σ : L2.St} {δ : De} {pos p1 p2 p3 p4 p5 : Pos} {w c : Int} {x : Str}
theorem nosl {s : Str} {j : Nat} {p : Pos} : NoSl (.Constant (.str s) j p) := fun _ _ => rfl
theorem cells_ats {W : Wd} : ∀ ns : List Int, Ats K W H G (ns.map D.int) (ns.map V.int) := Ats.ints
theorem de_cnt (i : Nat) {j : Nat} (cx : Ctx X ⟨K, wdX d w c, H0, G0, mg⟩ E rx) (hN : X.N[i]? = some x := by rfl) (hv : Vis X.env.scope x := by first | exact Or.inl rfl | exact Or.inr (Or.inl rfl) | exact Or.inr (Or.inr rfl)) (hd : (x == ("__debug__" : Str)) = false := by decide)
    (hcd : (x == ("__classdict__" : Str)) = false := by decide) : PE X (.Subscript (.Name x p1) (.Constant (.str "count") j p2) pos) (tOf ⟨K, wdX d w c, H0, G0, mg⟩ (wAd i d fun q => q (.val (.int c)))) :=
  PE.str (pe_dget (by have := cx.hu; omega) (pe_var hN hv hd hcd) pe_str nosl) fun σ H Q ⟨G, δ, q, f, ⟨hs, hq⟩, k⟩ => by
    obtain ⟨v, e1, h1⟩ := f.sl i _ hs
    have h1 : v = .ref d.ad := h1
    subst h1
    exact ⟨_, e1, d.ad, .int c, rfl, by have := DGet.k (k := .inr "count") f.gh.ok.draw; rw [kv_c] at this; exact this, k _ (.val (.int c)) H G (.refl f.gh.ok) rfl hq⟩
theorem de_cat (i : Nat) {j j2 : Nat} {p6 p7 p8 p9 : Pos} (cx : Ctx X ⟨K, wdX d w c, H0, G0, mg⟩ E rx) (hN : X.N[i]? = some x := by rfl) (hv : Vis X.env.scope x := by first | exact Or.inl rfl | exact Or.inr (Or.inl rfl) | exact Or.inr (Or.inr rfl)) (hd : (x == ("__debug__" : Str)) = false := by decide)
    (hcd : (x == ("__classdict__" : Str)) = false := by decide) (hs1 : starEach [Expr.Subscript (.Name x p1) (.Constant (.str "count") j p2) p3] X.env = (false, eval (.Subscript (.Name x p1) (.Constant (.str "count") j p2) p3) X.env) :: starEach [] X.env := by rfl) : PE X (.BinOp (.Subscript (.Name x p6) (.Constant (.str "cells") j2 p7) p8) .Add (.List [.Subscript (.Name x p1) (.Constant (.str "count") j p2) p3] p9) pos)
      (tOf ⟨K, wdX d w c, H0, G0, mg⟩ (wAd i d fun q => q (.own ((d.cells ++ [c]).map D.int)))) :=
  PE.str (pe_op op_cat (pe_dget (by have := cx.hu; omega) (pe_var hN hv hd hcd) pe_str nosl) (pe_lst (pa_cons (pe_dget (by have := cx.hu; omega) (pe_var hN hv hd hcd) pe_str nosl) pa_nil hs1))) fun σ H Q ⟨G, δ, q, f, ⟨hs, hq⟩, k⟩ => by
    obtain ⟨v, e1, h1⟩ := f.sl i _ hs
    have h1 : v = .ref d.ad := h1
    subst h1
    have g1 : DGet H d.ad (kV (.inr "cells")) (some (.ref d.cl)) := by have := DGet.k (k := .inr "cells") f.gh.ok.draw; rw [kv_l] at this; exact this
    have g2 : DGet H d.ad (kV (.inr "count")) (some (.int c)) := by have := DGet.k (k := .inr "count") f.gh.ok.draw; rw [kv_c] at this; exact this
    refine ⟨_, e1, d.ad, _, rfl, g1, _, e1, d.ad, _, rfl, g2, show 1 ≤ sizeLine by decide, fun p hp => ?_⟩
    have hl : (d.cells.map V.int).length + [V.int c].length ≤ sizeLine := by
      have := d.hl
      rw [List.length_map]
      exact Nat.le_trans (show _ ≤ 64 by simp; omega) (by decide)
    refine ⟨d.cl, p, _, _, rfl, rfl, (by rw [upd_ne (ne_of_none f.gh.ok.cells hp)]; exact f.gh.ok.cells), upd_same, hl, fun p' hp' => ?_⟩
    have e := Ext.laid (o := .lst ([V.int c])) (Ext.refl (W := wdX d w c) (H := H) (G := G) f.gh.ok) hp
    have e' := Ext.laid (o := .lst (d.cells.map V.int ++ [V.int c])) e hp'
    have hp0 : H p' = none := e.free hp'
    refine k _ (.own _) _ G e' ⟨p', _, rfl, hp0, upd_same, f.gh.none hp0, ?_⟩ hq
    have := cells_ats (K := K) (W := wdX d w c) (H := upd (upd H p (.lst [V.int c])) p' (.lst (d.cells.map V.int ++ [V.int c]))) (G := G) (d.cells ++ [c])
    rwa [show (d.cells ++ [c]).map V.int = d.cells.map V.int ++ [V.int c] by simp] at this
end
/-- what the mixing promises -/
def spMix (d : Dw) : Sp := fun vs H Q _ => ∃ w c, vs = [.ref d.ad] ∧ 0 ≤ c ∧ DrawX d w c H ∧ ∀ H', (∀ b o, ¬ (wdOf d).vol b → H b = some o → H' b = some o) → DrawX d w (c + 1) H' → Q (.int (mixF d.cells (c + 1))) H'
end L3

set_option maxRecDepth 100000
set_option maxHeartbeats 4000000
/-! The data layer: the mixing, the draw. -/
namespace L3
open PySem PySem.Spec L2
/-- the body's rest, from the count c on -/
def wMixRest (d : Dw) (c : Int) : WS :=
  wSeq (wSet 1 (wOp addW (wC (.int 1469598103934665603)) (wOp mulW (wC (.int 97)) (wAd 0 d fun q => q (.val (.int c))))))
  (wSeq (wFor (wSeqI (wAd 0 d fun q => q (.own ((d.cells ++ [c]).map D.int)))) (gNm 2) (wSeq (wSet 1 (wOp modW (wCB intW (wCons (wOp mulW (wOp addW (wVar 1) (wVar 2)) (wC (.int 1099511628211))) wNil)) (wOp subW (wOp powW (wC (.int 2)) (wC (.int 61))) (wC (.int 1))))) (wSet 1 (wOp addW (wVar 1) (wOp divW (wVar 1) (wOp powW (wC (.int 2)) (wC (.int 17))))))))
  (wRet (wVar 1)))
abbrev wMixBody : WS := (wSeq (wSet 1 (wOp modW (wCB intW (wCons (wOp mulW (wOp addW (wVar 1) (wVar 2)) (wC (.int 1099511628211))) wNil)) (wOp subW (wOp powW (wC (.int 2)) (wC (.int 61))) (wC (.int 1))))) (wSet 1 (wOp addW (wVar 1) (wOp divW (wVar 1) (wOp powW (wC (.int 2)) (wC (.int 17)))))))
theorem p61 : (2 : Int) ^ (61 : Int).toNat - 1 = 2305843009213693951 := by decide
theorem p17 : (2 : Int) ^ (17 : Int).toNat = 131072 := by decide
theorem mix_body {a b : Option Sl} {f z : Int} {q : EndsD} (h : q.nx [a, some (.val (.int (mixS ((f + z) * 1099511628211)))), some (.val (.int z))]) : wMixBody [a, some (.val (.int f)), some (.val (.int z))] q := by
  have e : mixS ((f + z) * 1099511628211) = (f + z) * 1099511628211 % 2305843009213693951 + (f + z) * 1099511628211 % 2305843009213693951 / 131072 := rfl
  rw [e] at h
  simp [wMixBody, stD, CMul, CPow, CDivW, List.set]
  refine ⟨by decide, ?_⟩
  exact h
theorem mix_loop {a : Option Sl} {q : EndsD} : ∀ (cells : List Int) (f : Int) (b : Option Sl), (∀ b', q.nx [a, some (.val (.int (mixR cells f))), b']) → forW (gNm 2) wMixBody (cells.map D.int) [a, some (.val (.int f)), b] q
  | [], f, b, h => h b
  | z :: cells, f, b, h => mix_body (b := b) (mix_loop cells _ _ h)
theorem mix_rest {d : Dw} {c : Int} {q : EndsD} (h : q.rt (.val (.int (mixF d.cells c)))) : wMixRest d c [some (.val (.obj (.ref d.ad))), none, none] q := by
  simp [wMixRest, stD, CMul, List.set, -List.map_append]
  have e : d.cells.map D.int ++ [D.int c] = (d.cells ++ [c]).map D.int := by simp
  first
    | rw [e]
    | skip
  refine mix_loop _ _ _ fun b' => ?_
  have e2 : mixR (d.cells ++ [c]) (1469598103934665603 + 97 * c) = mixF d.cells c := by
    unfold mixR mixF mixR
    rw [List.foldl_append]; rfl
  rw [e2]
  exact h
/-- d['count'] = d['count'] + 1 -/
abbrev tBump : TS := sDPut (tVar 0) (tC (.str "count")) (tOp (rI0 fun i j => .int (i + j)) (tDGet (tVar 0) (tC (.str "count"))) (tC (.int 1)))
section
variable {P : Program} {w : World} {K : PySem.W.Frag} {mg : Str → Option Value} {base : Heap} {d : Dw}
/-- a def of the world: where it stands, its promise -/
structure CalX (P : Program) (w : World) (K : PySem.W.Frag) (mg : Str → Option Value) (base : Heap) (k : Nat) (x : Str) (ps : List Str) (sp : Sp) : Prop where
  ex : ∃ f fd, FnOk P w K mg base (CX P w) k f fd ps sp ∧ mg x = some (.ref f) ∧ PySem.W.keepIn K (.ref f) = true ∧ Binds K fd ps [] ∧ ∃ oc od osl, K.lookup f = some ⟨oc, od, .func fd, osl⟩
theorem mix_ok {st st1 : Stmt} {rest : List Stmt} {kb : List (List Str × List Nat)} (Df : DefAt K mg "_law_mixed" st ["draw"] kb) (S : FnScope ["draw", "found", "cell"] ["draw"] (defScope st)) (eb : defBody st = st1 :: rest)
    (h1 : ∀ (f : Addr) (cdv : Value) (A : Around) (outer : List Env) (s : Shared) (H : Hp) (E : XK), Room 0 (A.deeper (PyProof.Rows.envOfC "_law_mixed" (defScope st) s.heap.objs.size f cdv)) → PS (cxOf (CX P w) P w K mg base ["draw", "found", "cell"] "_law_mixed" (defScope st) f cdv A outer s H E) st1 tBump)
    (h2 : ∀ (f : Addr) (cdv : Value) (A : Around) (outer : List Env) (s : Shared) (H : Hp) (E : XK) (H0 : Hp) (G0 : Gh) (w' c : Int) (rx : Exn → Prop), Ctx (cxOf (CX P w) P w K mg base ["draw", "found", "cell"] "_law_mixed" (defScope st) f cdv A outer s H E) ⟨K, wdX d w' c, H0, G0, mg⟩ E rx →
      PSs (cxOf (CX P w) P w K mg base ["draw", "found", "cell"] "_law_mixed" (defScope st) f cdv A outer s H E) rest (sOf ⟨K, wdX d w' c, H0, G0, mg⟩ (wMixRest d c))) : CalX P w K mg base 1 "_law_mixed" ["draw"] (spMix d) := by
  obtain ⟨f, fd, F, hm, hb, _⟩ := Df.ex
  have lkk : ∃ oc od osl, K.lookup f = some ⟨oc, od, .func fd, osl⟩ := by
    obtain ⟨oc, od, _, _, _, _, _, _, osl, _, lk, _⟩ := F.ex
    exact ⟨oc, od, osl, lk⟩
  refine ⟨f, fd, F.okX S (fun vs H Q E ⟨w, c, e, _⟩ => by rw [e]; rfl) (fun cdv A outer s H vs Q E hr h => ?_), hm, F.kp, hb, lkk⟩
  obtain ⟨w', c, rfl, c0, x, kq⟩ := h
  have tk : Takes (cxOf (CX P w) P w K mg base ["draw", "found", "cell"] "_law_mixed" (defScope st) f cdv A outer s H E) (fun cls d _ H => E cls d H) := takes_of rfl rfl rfl rfl
  rw [eb]
  refine ⟨_, pss_cons (h1 f cdv A outer s H E hr) (u := fun D σ H1 => ∃ H0 G0 w' c, sOf ⟨K, wdX d w' c, H0, G0, mg⟩ (wMixRest d c) D σ H1) ⟨fun pins s' σ H1 D I ⟨H0, G0, w', c, h⟩ => (h2 f cdv A outer s H E H0 G0 w' c (fun _ => False) ⟨rfl, rfl, rfl, passes_call tk fun _ _ _ _ h => h, passes_of rfl, fun _ _ _ _ _ _ _ h => h.elim, hr.units⟩).run pins s' σ H1 D I h⟩, ?_⟩
  have g2 : DGet H d.ad (kV (.inr "count")) (some (.int c)) := by have := DGet.k (k := .inr "count") x.draw; rw [kv_c] at this; exact this
  have pt : DPut H d.ad (kV (.inr "count")) (.int (c + 1)) (upd H d.ad (.dK (kvD w' (c + 1) d.cl))) := by
    have := DPut.k (k := .inr "count") (v := .int (c + 1)) x.draw (show 3 < sizeLine by decide)
    rwa [kp_c] at this
  refine ⟨.ref d.ad, rfl, d.ad, .int c, rfl, g2, c, 1, rfl, rfl, .ref d.ad, rfl, d.ad, _, rfl, pt, ?_⟩
  have x2 : DrawX d w' (c + 1) (upd H d.ad (.dK (kvD w' (c + 1) d.cl))) := x.put
  refine ⟨_, fun _ => none, w', c + 1, fun _ => none, startD 3 [.obj (.ref d.ad)], { nx := fun _ => False, rt := fun r => r = .val (.int (mixF d.cells (c + 1))) }, start_frm (N := ["draw", "found", "cell"]) (vs := [.ref d.ad]) ⟨fun _ _ z => (nomatch z), x2⟩ ⟨_, [], rfl, rfl, rfl⟩, mix_rest rfl, ?_⟩
  refine ⟨fun _ _ _ _ _ _ z => z.elim, fun _ _ _ _ _ _ z => z.elim, fun _ _ _ _ _ _ z => z.elim, fun v r H' G' e p n q' => ?_⟩
  subst q'
  have p : v = .int (mixF d.cells (c + 1)) := p
  subst p
  exact kq H' (fun b o nv hb => e.same b o nv (show upd H d.ad (.dK (kvD w' (c + 1) d.cl)) b = some o by rw [upd_ne (fun z => nv (.inl z))]; exact hb)) e.ok
end
end L3

set_option maxRecDepth 100000
set_option maxHeartbeats 4000000
/-! The data layer: the draw. -/
namespace L3
open PySem PySem.Spec L2
section
variable {K : PySem.W.Frag} {W W' : Wd} {H : Hp} {G : Gh}
mutual
theorem At.wd (e : W'.vol = W.vol) : ∀ (d : D) (v : V), At K W H G d v → At K W' H G d v
  | .non, v, h => h
  | .bl b, v, h => h
  | .int i, v, h => h
  | .str x, v, h => h
  | .tup ds, v, h => by
    obtain ⟨a, vs, e1, hs, ha⟩ := h
    exact ⟨a, vs, e1, hs, Ats.wd e ds vs ha⟩
  | .lst ds, v, h => by
    obtain ⟨a, vs, e1, hs, ha⟩ := h
    exact ⟨a, vs, e1, hs, Ats.wd e ds vs ha⟩
  | .dct, v, h => by
    obtain ⟨a, e1, hs, n⟩ := h
    exact ⟨a, e1, hs, by rw [e]; exact n⟩
  | .obj u, v, h => h
theorem Ats.wd (e : W'.vol = W.vol) : ∀ (ds : List D) (vs : List V), Ats K W H G ds vs → Ats K W' H G ds vs
  | [], vs, h => h
  | d :: ds, vs, h => by
    obtain ⟨v, r, e1, h1, h2⟩ := h
    exact ⟨v, r, e1, At.wd e d v h1, Ats.wd e ds r h2⟩
end
end
/-- how many turns are left -/
def Meas (cells : List Int) (f c : Int) (m : Nat) : Prop := (f = 0 ∧ ∃ k : Nat, mixF cells (c + 1 + k) ≠ 0 ∧ m = k + 4) ∨ (1 ≤ f ∧ f < 2305843009213693952 ∧ m = 3) ∨ (2305843009213693952 ≤ f ∧ f < 5316911983139663491615228241121378304 ∧ m = 2) ∨
  (5316911983139663491615228241121378304 ≤ f ∧ f < 12259964326927110866866776217202473468949912977468817408 ∧ m = 1) ∨ (12259964326927110866866776217202473468949912977468817408 ≤ f ∧ m = 0)
theorem meas_ex (cells : List Int) {f c : Int} (h : 0 ≤ f) : ∃ m, Meas cells f c m := by
  by_cases h0 : f = 0
  · obtain ⟨k, hk⟩ := mix_some cells c
    exact ⟨k + 4, .inl ⟨h0, k, hk, rfl⟩⟩
  by_cases h1 : f < 2305843009213693952
  · exact ⟨3, .inr (.inl ⟨by omega, h1, rfl⟩)⟩
  by_cases h2 : f < 5316911983139663491615228241121378304
  · exact ⟨2, .inr (.inr (.inl ⟨by omega, h2, rfl⟩))⟩
  by_cases h3 : f < 12259964326927110866866776217202473468949912977468817408
  · exact ⟨1, .inr (.inr (.inr (.inl ⟨by omega, h3, rfl⟩)))⟩
  · exact ⟨0, .inr (.inr (.inr (.inr ⟨by omega, rfl⟩)))⟩
theorem meas_pos {cells : List Int} {f c : Int} (h : 1 ≤ f) : ∃ m, m ≤ 3 ∧ Meas cells f c m := by
  by_cases h1 : f < 2305843009213693952
  · exact ⟨3, by omega, .inr (.inl ⟨by omega, h1, rfl⟩)⟩
  by_cases h2 : f < 5316911983139663491615228241121378304
  · exact ⟨2, by omega, .inr (.inr (.inl ⟨by omega, h2, rfl⟩))⟩
  by_cases h3 : f < 12259964326927110866866776217202473468949912977468817408
  · exact ⟨1, by omega, .inr (.inr (.inr (.inl ⟨by omega, h3, rfl⟩)))⟩
  · exact ⟨0, by omega, .inr (.inr (.inr (.inr ⟨by omega, rfl⟩)))⟩
theorem meas_step {cells : List Int} {f c : Int} {m : Nat} (hf : f < 85070591730234615865843651857942052864) (h : Meas cells f c m) : ∃ m', m' < m ∧ Meas cells (f * 2305843009213693952 + mixF cells (c + 1)) (c + 1) m' := by
  have nn := mixF_nn cells (c + 1)
  have mg : ∀ {x : Int} {c : Int} (lo : Int), lo ≤ x → (lo = 2305843009213693952 → ∃ m', m' < 3 ∧ Meas cells x c m') ∧ (lo = 5316911983139663491615228241121378304 → ∃ m', m' < 2 ∧ Meas cells x c m') ∧ (lo = 12259964326927110866866776217202473468949912977468817408 → ∃ m', m' < 1 ∧ Meas cells x c m') := fun {x c} lo hl => by
    refine ⟨fun e => ?_, fun e => ?_, fun e => ?_⟩
    · subst e
      by_cases h2 : x < 5316911983139663491615228241121378304
      · exact ⟨2, by omega, .inr (.inr (.inl ⟨by omega, h2, rfl⟩))⟩
      by_cases h3 : x < 12259964326927110866866776217202473468949912977468817408
      · exact ⟨1, by omega, .inr (.inr (.inr (.inl ⟨by omega, h3, rfl⟩)))⟩
      · exact ⟨0, by omega, .inr (.inr (.inr (.inr ⟨by omega, rfl⟩)))⟩
    · subst e
      by_cases h3 : x < 12259964326927110866866776217202473468949912977468817408
      · exact ⟨1, by omega, .inr (.inr (.inr (.inl ⟨by omega, h3, rfl⟩)))⟩
      · exact ⟨0, by omega, .inr (.inr (.inr (.inr ⟨by omega, rfl⟩)))⟩
    · subst e
      exact ⟨0, by omega, .inr (.inr (.inr (.inr ⟨by omega, rfl⟩)))⟩
  rcases h with ⟨rfl, k, hk, rfl⟩ | ⟨h1, h2, rfl⟩ | ⟨h1, h2, rfl⟩ | ⟨h1, h2, rfl⟩ | ⟨h1, rfl⟩
  · by_cases h0 : mixF cells (c + 1) = 0
    · cases k with
      | zero => exact absurd (by simpa using h0) hk
      | succ k =>
        refine ⟨k + 4, by omega, .inl ⟨by rw [h0]; rfl, k, ?_, rfl⟩⟩
        rwa [show c + 1 + 1 + (k : Int) = c + 1 + ((k + 1 : Nat) : Int) by omega]
    · obtain ⟨m', h1, h2⟩ := meas_pos (cells := cells) (f := 0 * 2305843009213693952 + mixF cells (c + 1)) (c := c + 1) (by omega)
      exact ⟨m', by omega, h2⟩
  · exact (mg 2305843009213693952 (by omega)).1 rfl
  · exact (mg 5316911983139663491615228241121378304 (by omega)).2.1 rfl
  · exact (mg 12259964326927110866866776217202473468949912977468817408 (by omega)).2.2 rfl
  · omega
end L3

set_option maxRecDepth 100000
set_option maxHeartbeats 4000000
/-! The data layer: the draw's rules. -/
namespace L3
open PySem PySem.Spec L2
@[simp] def wPutW (i : Nat) (d : Dw) (wa : WE) : WS := fun δ q => wa δ fun r => match r with
  | .val (.int w) => 0 ≤ w ∧ δ[i]? = some (some (.val (.obj (.ref d.ad)))) ∧ q.nx δ
  | _ => False
def wMixW (d : Dw) : WS := fun δ q => ∃ n f : Int, δ[0]? = some (some (.val (.obj (.ref d.ad)))) ∧ δ[1]? = some (some (.val (.int n))) ∧ δ[2]? = some (some (.val (.int f))) ∧ 0 ≤ f ∧ 2 ≤ n ∧ n < 2 ^ 63 ∧ ∀ f' : Int, 0 ≤ f' → q.nx (δ.set 2 (some (.val (.int f'))))
section
variable {X : Cx} {E : XK} {rx : Exn → Prop} {d : Dw} {K : PySem.W.Frag} {mg : Str → Option Value} {H H0 H1 : Hp} {G G0 : Gh} {σ : L2.St} {δ : De} {pos p1 p2 p3 p4 p5 : Pos} {x : Str} {e : Expr} {wa : WE} {C : Ct}
theorem de_whl (i : Nat) {j : Nat} (cx : Ctx X C E rx) (hW : C.W = wdOf d) (hN : X.N[i]? = some x := by rfl) (hv : Vis X.env.scope x := by first | exact Or.inl rfl | exact Or.inr (Or.inl rfl) | exact Or.inr (Or.inr rfl)) (hd : (x == ("__debug__" : Str)) = false := by decide)
    (hcd : (x == ("__classdict__" : Str)) = false := by decide) : PE X (.Subscript (.Name x p1) (.Constant (.str "whole") j p2) pos) (tOf C (wAd i d fun q => ∀ w : Int, 0 ≤ w → q (.val (.int w)))) :=
  PE.str (pe_dget (by have := cx.hu; omega) (pe_var hN hv hd hcd) pe_str nosl) fun σ H Q ⟨G, δ, q, f, ⟨hs, hq⟩, k⟩ => by
    obtain ⟨v, e1, h1⟩ := f.sl i _ hs
    have h1 : v = .ref d.ad := h1
    subst h1
    have ok : (wdOf d).ok H := hW ▸ f.gh.ok
    obtain ⟨w, c, w0, c0, x⟩ := DrawOk.x ok
    exact ⟨_, e1, d.ad, .int w, rfl, by have := DGet.k (k := .inr "whole") x.draw; rw [kv_w] at this; exact this, k _ (.val (.int w)) H G (.refl f.gh.ok) rfl (hq w w0)⟩
theorem put_ext {w c w' c' : Int} (x : DrawX d w c H) (hw : 0 ≤ w') (hc : 0 ≤ c') : Ext (wdOf d) H G (upd H d.ad (.dK (kvD w' c' d.cl))) G :=
  ⟨fun b o n h => by rw [upd_ne (fun z => n (.inl z))]; exact h, fun _ _ h => h, fun _ _ h => .inl h, (x.put).ok hw hc⟩
theorem ds_whl (i : Nat) {j : Nat} (cx : Ctx X C E rx) (hW : C.W = wdOf d) (he : PE X e (tOf C wa)) (hN : X.N[i]? = some x := by rfl) (hv : Vis X.env.scope x := by first | exact Or.inl rfl | exact Or.inr (Or.inl rfl) | exact Or.inr (Or.inr rfl)) (hd : (x == ("__debug__" : Str)) = false := by decide)
    (hcd : (x == ("__classdict__" : Str)) = false := by decide) (hs : swapsWith e (some (.Subscript (.Name x p1) (.Constant (.str "whole") j p2) p3)) pos.line X.env = pure false := by rfl) : PS X (.Assign [.Subscript (.Name x p1) (.Constant (.str "whole") j p2) p3] e pos) (sOf C (wPutW i d wa)) :=
  PS.str (ps_dput (by have := cx.hu; omega) (pe_var hN hv hd hcd) pe_str he hs) fun D σ H ⟨G, δ, q, f, hw, k⟩ => run f hw fun v r H1 G1 e1 f1 p1 q1 => by
    split at q1
    · rename_i w'
      obtain ⟨w0', hs, q1⟩ := q1
      have p1 : v = .int w' := p1
      subst p1
      obtain ⟨u, e2, h2⟩ := f1.sl i _ hs
      have h2 : u = .ref d.ad := h2
      subst h2
      have ok : (wdOf d).ok H1 := hW ▸ f1.gh.ok
      obtain ⟨w, c, w0, c0, x⟩ := DrawOk.x ok
      have pt : DPut H1 d.ad (kV (.inr "whole")) (.int w') (upd H1 d.ad (.dK (kvD w' c d.cl))) := by
        have := DPut.k (k := .inr "whole") (v := .int w') x.draw (show 3 < sizeLine by decide)
        rwa [kp_w] at this
      have e3 : Ext C.W H1 G1 (upd H1 d.ad (.dK (kvD w' c d.cl))) G1 := hW ▸ put_ext x w0' c0
      exact ⟨_, e2, d.ad, _, rfl, pt, k.nx _ _ G1 δ (f1.up e3) ((e1.trans e3 f.gh.ok).up f.gh.ok) q1⟩
    · exact q1.elim
theorem mix_ext {w c : Int} {H' : Hp} (c0 : 0 ≤ c) (w0 : 0 ≤ w) (hk : ∀ b o, ¬ (wdOf d).vol b → H b = some o → H' b = some o) (x : DrawX d w (c + 1) H') : Ext (wdOf d) H G H' G := ⟨hk, fun _ _ h => h, fun _ _ h => .inl h, x.ok w0 (by omega)⟩
theorem de_mix (i : Nat) {k : Nat} (cx : Ctx X C E rx) (hW : C.W = wdOf d) (F : CalX X.prog X.w C.K C.mg X.base k "_law_mixed" ["draw"] (spMix d)) (hr : Room k X.A) (hg : Gl X "_law_mixed") (hN : X.N[i]? = some x := by rfl) (hv : Vis X.env.scope x := by first | exact Or.inl rfl | exact Or.inr (Or.inl rfl) | exact Or.inr (Or.inr rfl)) (hd : (x == ("__debug__" : Str)) = false := by decide)
    (hcd : (x == ("__classdict__" : Str)) = false := by decide) (he : starEach [Expr.Name x p1] X.env = (false, eval (.Name x p1) X.env) :: starEach [] X.env := by rfl) : PE X (.Call (.Name "_law_mixed" p2) [.Name x p1] [] pos) (tOf C (wAd i d fun q => ∀ v : Int, 0 ≤ v → q (.val (.int v)))) := by
  obtain ⟨f, fd, F1, hm, hk, hb, _⟩ := F.ex
  rw [cx.hK, cx.hM] at F1
  rw [cx.hK] at hk hb
  rw [cx.hM] at hm
  refine PE.str (pe_call F1 hr hg hm hk hb .nil cx.pass (pa_cons (pe_var hN hv hd hcd) pa_nil he) (by decide) he (by rfl)) fun σ H Q ⟨G, δ, q, f, ⟨hs, hq⟩, k⟩ => ?_
  obtain ⟨v, e1, h1⟩ := f.sl i _ hs
  have h1 : v = .ref d.ad := h1
  subst h1
  have ok : (wdOf d).ok H := hW ▸ f.gh.ok
  obtain ⟨w, c, w0, c0, x⟩ := DrawOk.x ok
  refine ⟨_, e1, w, c, rfl, c0, x, fun H' hk x' => ?_⟩
  have e2 : Ext C.W H G H' G := hW ▸ mix_ext c0 w0 hk x'
  exact k (.int _) (.val (.int _)) H' G e2 rfl (hq _ (mixF_nn _ _))
/-- the next turn of the draw's loop, exactly -/
abbrev tTurn (d : Dw) (E : XK) : TS := tAsg (tOp (rI0 fun i j => .int (i + j)) (tOp (rI CMul fun i j => .int (i * j)) (tVar 2) (tOp (rI CPow fun i j => .int (i ^ j.toNat)) (tC (.int 2)) (tC (.int 61)))) (tCall (spMix d) [] E (fun σ H Q => tVar 0 σ H fun v H1 => Q [v] H1))) (gName 2)
theorem ds_mixw {cond : Expr} {body : List Stmt} {ta : WT} (cx : Ctx X ⟨K, wdOf d, H0, G0, mg⟩ E rx) (hc : ∀ w c H0 G0, PT X cond (bOf ⟨K, wdX d w c, H0, G0, mg⟩ ta)) (hb : PSs X body (tTurn d E))
    (hta : ∀ (δ : De) (n f : Int) (q : Bool → Prop), δ[1]? = some (some (.val (.int n))) → δ[2]? = some (some (.val (.int f))) → 2 ≤ n → n < 2 ^ 63 → q (decide (2 ^ 50 < n) && decide (f < n * n)) → ta δ q) :
    PS X (.While cond body [] pos) (sOf ⟨K, wdOf d, H0, G0, mg⟩ (wMixW d)) :=
  PS.str (ps_while cx.own (tc := fun σ H Q => ∃ w c H0 G0, bOf ⟨K, wdX d w c, H0, G0, mg⟩ ta σ H Q) ⟨fun pins s σ H Q I ⟨w, c, H0, G0, h⟩ => (hc w c H0 G0).run pins s σ H Q I h⟩ hb) fun D σ H ⟨G, δ, q, f, ⟨n, f0, s0, s1, s2, hf0, hn, hn2, hq⟩, k⟩ => by
    obtain ⟨w, c, w0, c0, x⟩ := DrawOk.x f.gh.ok
    obtain ⟨m0, hm0⟩ := meas_ex d.cells (c := c) hf0
    have hl : 2 < δ.length := by have := (List.getElem?_eq_some_iff.mp s2).1; exact this
    have st0 : δ.set 2 (some (.val (.int f0))) = δ := by
      refine List.ext_getElem? fun i => ?_
      by_cases hi : 2 = i
      · subst hi; rw [List.getElem?_set_self hl, s2]
      · rw [List.getElem?_set_ne hi]
    refine ⟨fun m σ' H' => ∃ G' f w c, Frm ⟨K, wdOf d, H0, G0, mg⟩ H' G' σ' (δ.set 2 (some (.val (.int f)))) ∧ Up K (wdOf d) H G H' G' ∧ 0 ≤ f ∧ 0 ≤ w ∧ 0 ≤ c ∧ DrawX d w c H' ∧ Meas d.cells f c m, ⟨m0, G, f0, w, c, by rw [st0]; exact f, .refl, hf0, w0, c0, x, hm0⟩, ?_⟩
    rintro m σ2 H2 ⟨G2, f2, w2, c2, fr, u2, hf2, hw2, hc2, x2, hm2⟩
    have t0 : (δ.set 2 (some (.val (.int f2))))[0]? = some (some (.val (.obj (.ref d.ad)))) := by rw [List.getElem?_set_ne (by decide)]; exact s0
    have t1 : (δ.set 2 (some (.val (.int f2))))[1]? = some (some (.val (.int n))) := by rw [List.getElem?_set_ne (by decide)]; exact s1
    have t2 : (δ.set 2 (some (.val (.int f2))))[2]? = some (some (.val (.int f2))) := List.getElem?_set_self hl
    have frX : Frm ⟨K, wdX d w2 c2, H2, G2, mg⟩ H2 G2 σ2 (valD (δ.set 2 (some (.val (.int f2))))) := by
      refine ⟨by rw [fr.len]; unfold valD; rw [List.length_map], ⟨fun a vs h => ⟨(fr.gh.at_ a vs h).1, (fr.gh.at_ a vs h).2⟩, x2⟩, x2, .refl x2, fun i s hs => ?_, fun i j ds es v h1 => ?_⟩
      · obtain ⟨h1, y, rfl⟩ := valD_get hs
        obtain ⟨v, h2, h3⟩ := fr.sl i _ h1
        exact ⟨v, h2, At.wd (W := wdOf d) (W' := wdX d w2 c2) rfl y v (show At K (wdOf d) H2 G2 y v from h3)⟩
      · obtain ⟨_, y, z⟩ := valD_get h1
        cases z
    have vget : ∀ (i : Nat) (y : L3.D), (δ.set 2 (some (Sl.val (.int f2))))[i]? = some (some (.val y)) → (valD (δ.set 2 (some (Sl.val (.int f2)))))[i]? = some (some (.val y)) := fun i y h => by
      unfold valD
      rw [List.getElem?_map, h]; rfl
    refine ⟨w2, c2, H2, G2, ?_⟩
    refine runT frX (hta _ n f2 (fun b => b = (decide (2 ^ 50 < n) && decide (f2 < n * n))) (vget _ _ t1) (vget _ _ t2) hn hn2 rfl) fun b H3 G3 e3 f3 q3 => ?_
    have e3' : Ext (wdOf d) H2 G2 H3 G3 := ⟨e3.same, e3.g, e3.new, (show DrawX d w2 c2 H3 from e3.ok).ok hw2 hc2⟩
    have fr3 := fr.up e3'
    have u3 := u2.trans (e3'.up fr.gh.ok)
    cases b with
    | false =>
      rw [if_neg Bool.false_ne_true]
      exact k.nx σ2 H3 G3 _ fr3 u3 (hq f2 hf2)
    | true =>
      rw [if_pos rfl]
      have hlt : f2 < 85070591730234615865843651857942052864 := by
        have h1 : f2 < n * n := by
          have := q3.symm
          rw [Bool.and_eq_true] at this
          exact of_decide_eq_true this.2
        have h2 : n * n ≤ 9223372036854775808 * 9223372036854775808 := Int.mul_le_mul (by omega) (by omega) (by omega) (by decide)
        exact Int.lt_of_lt_of_le h1 h2
      obtain ⟨m', hm', hM⟩ := meas_step hlt hm2
      refine ⟨fun σ' H' => ∃ m', m' < m ∧ ∃ G' f w c, Frm ⟨K, wdOf d, H0, G0, mg⟩ H' G' σ' (δ.set 2 (some (.val (.int f)))) ∧ Up K (wdOf d) H G H' G' ∧ 0 ≤ f ∧ 0 ≤ w ∧ 0 ≤ c ∧ DrawX d w c H' ∧ Meas d.cells f c m', fun σ' H' h => h, ?_⟩
      obtain ⟨v2, a2, b2⟩ := fr3.sl 2 _ t2
      have b2 : v2 = .int f2 := b2
      subst b2
      obtain ⟨v0, a0, b0⟩ := fr3.sl 0 _ t0
      have b0 : v0 = .ref d.ad := b0
      subst b0
      refine ⟨.int f2, a2, 2, 61, rfl, rfl, by unfold CPow; decide, f2, 2305843009213693952, rfl, rfl, .inr (by decide), .ref d.ad, a0, w2, c2, rfl, hc2, e3.ok, fun H' hk x' => ⟨_, _, rfl, rfl, ?_⟩⟩
      have e4 : Ext (wdOf d) H3 G3 H' G3 := mix_ext hc2 hw2 hk x'
      have fr4 := (fr3.up e4).setV (i := 2) (v := .int (f2 * 2305843009213693952 + mixF d.cells (c2 + 1))) (d := .int (f2 * 2305843009213693952 + mixF d.cells (c2 + 1))) rfl
      rw [List.set_set] at fr4
      have nn := mixF_nn d.cells (c2 + 1)
      exact ⟨m', hm', G3, _, w2, c2 + 1, fr4, u3.trans (e4.up fr3.gh.ok), by omega, hw2, by omega, x', hM⟩
end
end L3

set_option maxRecDepth 100000
set_option maxHeartbeats 4000000
/-! The data layer: unknown tables are forgotten at the law's door; the draws begin. -/
namespace L3
open PySem PySem.Spec L2
section
variable {P : Program} {w : World} {K : PySem.W.Frag} {mg : Str → Option Value} {base : Heap} {d : Dw} {T : List (Addr × Str)}
/-- the hidden tables are put back -/
noncomputable def backT (T : List (Addr × Str)) (H H2 : Hp) : Hp := fun b => match H2 b with
  | some o => some o
  | none => open Classical in if hideT T H b = none then H b else none
theorem env_hide {A : Around} {outer : List Env} {s : Shared} {H : Hp} (e : Env0 P w K mg base A outer s H) : Env0 P w K mg base A outer s (hideT T H) := by
  refine ⟨e.frames, e.mod, fun b o h => ⟨(e.bs b o h).1, hideT_none (e.bs b o h).2⟩, e.bsz, e.funs, fun b hb => hideT_none (e.frf b hb), fun b u h => ?_, e.bare⟩
  have e' : H b = some u := by
    unfold hideT at h
    split at h
    · cases h
    · exact h
  exact (e.hok b u e').stay (fun _ _ _ q => q) (fun c q => hideT_keep q (by intro _ z; cases z)) fun c xs q => hideT_keep q (by intro _ z; cases z)
theorem hideT_some {H : Hp} {b : Addr} {o : HO} (h : hideT T H b = some o) : H b = some o := by
  unfold hideT at h
  split at h
  · cases h
  · exact h
theorem backT_new {H H2 : Hp} {b : Addr} {o : HO} (h : H2 b = some o) : backT T H H2 b = some o := by unfold backT; rw [h]
theorem backT_cases {H H2 : Hp} {b : Addr} {o : HO} (h : backT T H H2 b = some o) : H2 b = some o ∨ (H b = some o ∧ hideT T H b = none ∧ H2 b = none) := by
  unfold backT at h
  split at h
  · rename_i q; cases h; exact .inl q
  · rename_i q
    split at h
    · rename_i z; exact .inr ⟨h, z, q⟩
    · cases h
/-- the same promise at a heap with the known tables alone -/
theorem fnok_hide {k : Nat} {f : Addr} {fd : FuncData} {ps : List Str} {sp : Sp} (F : FnOk P w K mg base (CX P w) k f fd ps sp) :
    FnOk P w K mg base (CX P w) k f fd ps (fun vs H Q _ => (∀ H', Q (.bl true) H') ∧ sp vs (hideT T H) (fun v _ => v = .bl true) fun _ _ _ => False) := by
  refine ⟨fun vs H Q E h => F.len _ _ _ _ h.2, fun A outer s H args us vs Q E hr e0 hb hv h => ?_⟩
  refine codeAny_mono (F.run A outer s (hideT T H) args us vs _ _ hr (env_hide e0) hb hv h.2) fun r s' q => ?_
  cases r with
  | error e =>
    obtain ⟨a, B, H', cls, d, _, _, _, _, _, _, _, z⟩ := q
    exact z.elim
  | ok fl =>
    cases fl with
    | next => exact False.elim q
    | brk => exact False.elim q
    | cont => exact False.elim q
    | ret u =>
      obtain ⟨v, H2, os, bare, un, hok, rv, hv'⟩ := q
      refine ⟨v, backT T H H2, os, bare, ⟨fun b o e n => un.keep b o e (hideT_none n), fun b o e n => un.slot b o e (hideT_none n), fun b o e n hx => ?_, un.there, fun b xs h => backT_new (un.tups b xs (hideT_keep h (by intro _ z; cases z))), fun b o u h => backT_new (un.frzs b o u (hideT_keep h (by intro _ z; cases z))), fun b ps h => ?_⟩, fun b o e => ?_, rv, hv' ▸ h.1 _⟩
      · have z := un.free b o e (hideT_none n) hx
        unfold backT
        rw [z]
        show (if _ then _ else _) = _
        rw [if_pos (hideT_none n)]; exact n
      · cases q : hideT T H b with
        | some o =>
          have := hideT_some q
          rw [h] at this; cases this
          obtain ⟨more, z⟩ := un.tbls b ps q
          exact ⟨more, backT_new z⟩
        | none =>
          obtain ⟨oo, e1⟩ : ∃ oo, s.heap.get? b = some oo := ⟨_, e0.hok b _ h⟩
          have z := un.free b oo e1 q (by simp)
          refine ⟨#[], ?_⟩
          unfold backT
          rw [z]
          show (if _ then _ else _) = _
          rw [if_pos q, h, Array.append_empty]
      · rcases backT_cases e with z | ⟨z1, z2, z3⟩
        · exact (hok b o z).stay (fun _ _ _ q => q) (fun c q => backT_new q) fun c xs q => backT_new q
        · have tb : ∃ ps, o = .tbl ps := by
            have z2' := z2
            unfold hideT at z2'
            split at z2'
            · rename_i q
              obtain ⟨⟨ps, e4⟩, _⟩ := q
              rw [z1] at e4; exact ⟨ps, Option.some.inj e4⟩
            · rw [z1] at z2'; cases z2'
          obtain ⟨ps, rfl⟩ := tb
          have e1 : s.heap.get? b = _ := e0.hok b _ z1
          exact un.keep b _ e1 z2 (fun hb => by rw [e0.frf b hb] at z1; cases z1) (by simp)
end
end L3

set_option maxRecDepth 100000
set_option maxHeartbeats 4000000
/-! The data layer: the draws begin. -/
namespace L3
open PySem PySem.Spec L2 PyProof.Rows
/-- the world of tables alone -/
structure TabOk (T : List (Addr × Str)) (H : Hp) : Prop where
  tabs : LamX.Tabs T H
  only : ∀ b ps, H b = some (.tbl ps) → b ∈ T.map (·.1)
def wdT (T : List (Addr × Str)) : Wd where
  vol := fun b => b ∈ T.map (·.1)
  ok := TabOk T
  loc := fun H H' k nt h => by
    refine ⟨fun p hp => ?_, fun b ps hb => h.only b ps (nt b ps hb)⟩
    obtain ⟨ps, e1, e2, e3⟩ := h.tabs p hp
    refine ⟨ps, k _ _ e1 (.inl (List.mem_map.mpr ⟨p, hp, rfl⟩)), e2, fun pos cv hc => ?_⟩
    obtain ⟨c, e4, e5⟩ := e3 pos cv hc
    exact ⟨c, e4, k _ _ e5 (.inr trivial)⟩
  there := fun H b h hv => by
    obtain ⟨p, hp, rfl⟩ := List.mem_map.mp hv
    obtain ⟨ps, e1, _⟩ := h.tabs p hp
    exact ⟨_, e1, fun z => z⟩
theorem wdT_not {T : List (Addr × Str)} {H : Hp} (h : TabOk T H) {a : Addr} {o : HO} (e : H a = some o) (n : ∀ ps, o ≠ .tbl ps) : ¬ (wdT T).vol a := fun hv => by
  obtain ⟨p, hp, rfl⟩ := List.mem_map.mp hv
  obtain ⟨ps, e1, _⟩ := h.tabs p hp
  rw [e] at e1
  exact n _ (Option.some.inj e1)
section
variable {X : Cx} {C : Ct} {E : XK} {rx : Exn → Prop} {tg e a b : Expr} {wa wb : WE} {g : WG} {wb' : WS} {body : List Stmt} {pos p : Pos} {H : Hp} {G : Gh} {K : PySem.W.Frag}
/-- * of big factors -/
theorem op_mulB : OpR X (binaryOp .Mult) (rI IntMulOk fun i j => .int (i * j)) := opI fun _ _ _ _ _ _ _ hc q => mul_int q hc
theorem de_mulB (ha : PE X a (tOf C wa)) (hb : PE X b (tOf C wb)) : PE X (.BinOp a .Mult b pos) (tOf C (wOp (w2i IntMulOk fun i j => .int (i * j)) wa wb)) := de_op op_mulB (opd_i fun _ _ _ _ => rfl) ha hb
/-- the script is walked -/
def wForS (i : Nat) (a0 : Addr) (ns : List Int) (g : WG) (wb : WS) : WS := fun δ q => δ[i]? = some (some (.val (.obj (.ref a0)))) ∧ forW g wb (ns.map D.int) δ q
theorem ds_forS (i : Nat) {x : Str} {I : List Nat} {a0 : Addr} {ns : List Int} (c : Ctx X C E rx) (hq : SqL C.K C.H0 a0 (ns.map V.int)) (nv : ¬ C.W.vol a0) (hg : PG X tg (gOf C I g)) (hb : PSs X body (sOf C wb')) (hN : X.N[i]? = some x := by rfl) (hv : Vis X.env.scope x := by first | exact Or.inl rfl | exact Or.inr (Or.inl rfl) | exact Or.inr (Or.inr rfl))
    (hd : (x == ("__debug__" : Str)) = false := by decide) (hcd : (x == ("__classdict__" : Str)) = false := by decide) (hs : ∀ y, foldedSetIterable (.Name x p) X.env y = pure y := by intro _; rfl) : PS X (.For tg (.Name x p) body [] pos) (sOf C (wForS i a0 ns g wb')) :=
  PS.str (ps_for c.own c.calm (pi_seq (pe_var hN hv hd hcd)) hg hb hs) fun D0 σ H ⟨G, δ, q, f, ⟨hs, hw⟩, k⟩ => by
    obtain ⟨v, e1, h1⟩ := f.sl i _ hs
    have h1 : v = .ref a0 := h1
    subst h1
    have sq : ∀ {H' : Hp} {G' : Gh} {σ' : L2.St} {δ' : De}, Frm C H' G' σ' δ' → SqL C.K H' a0 (ns.map V.int) := fun f' => f'.ext.lst f'.h0 nv hq
    have hKK := c.hK
    refine ⟨_, e1, a0, rfl, .inl ⟨⟨ns.map V.int, hKK ▸ sq f⟩, fun i m σ' H' => ∃ G' δ', Frm C H' G' σ' δ' ∧ Up C.K C.W H G H' G' ∧ forW g wb' ((ns.map D.int).drop i) δ' q ∧ m = ns.length - i, ⟨ns.length, G, δ, f, .refl, hw, rfl⟩, ?_⟩⟩
    rintro i m σ2 H2 ⟨G2, δ2, f2, u2, q2, rfl⟩
    have s2 : SqL X.K H2 a0 (ns.map V.int) := hKK ▸ sq f2
    cases ed : ns[i]? with
    | none =>
      have hl := List.getElem?_eq_none_iff.mp ed
      refine .inl ⟨⟨_, s2, by rw [List.length_map]; exact hl⟩, ?_⟩
      rw [List.drop_eq_nil_of_le (by rw [List.length_map]; exact hl)] at q2
      exact k.nx σ2 H2 G2 δ2 f2 u2 q2
    | some z =>
      have hlt : i < ns.length := (List.getElem?_eq_some_iff.mp ed).1
      have ez : ns[i] = z := (List.getElem?_eq_some_iff.mp ed).2
      have edr : (ns.map D.int).drop i = D.int z :: (ns.map D.int).drop (i + 1) := by
        rw [List.drop_eq_getElem_cons (by rw [List.length_map]; exact hlt), List.getElem_map, ez]
      have ev : (ns.map V.int)[i]? = some (.int z) := by rw [List.getElem?_map, ed]; rfl
      rw [edr] at q2
      refine .inr ⟨⟨_, _, s2, ev⟩, fun σ' H' => ∃ G' δ', Frm C H' G' σ' δ' ∧ Up C.K C.W H G H' G' ∧ forW g wb' ((ns.map D.int).drop (i + 1)) δ' q, fun σ' H' ⟨G', δ', f', u', q'⟩ => ⟨ns.length - (i + 1), by omega, G', δ', f', u', q', rfl⟩, fun x H3 y3 => ?_⟩
      obtain ⟨rfl, y3⟩ := y3
      have y4 := y3 _ s2
      rw [ev] at y4
      cases y4
      refine ⟨G2, δ2, D.int z, _, f2, rfl, q2, fun σ4 δ4 f4 _ q4 => ⟨G2, δ4, _, f4, q4, ?_⟩⟩
      exact ⟨fun σ' H' G' δ' f' u' q' => ⟨G', δ', f', u2.trans u', q'⟩, fun σ' H' G' δ' f' u' q' => k.nx σ' H' G' δ' f' (u2.trans u') q', fun σ' H' G' δ' f' u' q' => ⟨G', δ', f', u2.trans u', q'⟩, k.rt⟩
end
end L3

set_option maxRecDepth 100000
set_option maxHeartbeats 4000000
/-! The data layer: the draws begin, the plain part and the whole. -/
namespace L3
open PySem PySem.Spec L2
theorem bits_le {x : Int} {m : Nat} (h : x.natAbs < 2 ^ m) : Builtin.Int.intBits x ≤ m := by
  unfold Builtin.Int.intBits
  split
  · exact Nat.zero_le _
  · rename_i hx
    rcases Nat.eq_zero_or_pos x.natAbs with h0 | hp
    · exact absurd (Int.natAbs_eq_zero.mp h0) (by simpa using hx)
    · have := (Nat.log2_lt (Nat.ne_of_gt hp)).mpr h
      omega
theorem lt_bits {x : Int} {m : Nat} (h : Builtin.Int.intBits x ≤ m) : x.natAbs < 2 ^ m := by
  unfold Builtin.Int.intBits at h
  split at h
  · rename_i hx
    have hx : x = 0 := by simpa using hx
    subst hx
    exact Nat.pos_of_ne_zero (by simp)
  · rename_i hx
    have hn : x.natAbs ≠ 0 := fun z => hx (by simpa using Int.natAbs_eq_zero.mp z)
    exact (Nat.log2_lt hn).mp (by omega)
/-- the loop's body -/
def wBegBody : WS := wIfS (wTru (wIsi .int (wVar 3)))
  (wSeq (wIfS (wTst (wOp geW (wVar 3) (wOp powW (wC (.int 10)) (wC (.int 18))))) (wSet 1 (wOp addW (wOp (w2i IntMulOk fun i j => .int (i * j)) (wVar 1) (wOp addW (wOp subW (wVar 3) (wOp powW (wC (.int 10)) (wC (.int 18)))) (wC (.int 1)))) (wOp subW (wVar 3) (wOp powW (wC (.int 10)) (wC (.int 18)))))) wSkip) (wApp 2 (wVar 3))) wSkip
theorem p18 : (10 : Int) ^ (18 : Int).toNat = 1000000000000000000 := by decide
theorem beg_body {o : Option Sl} {w z : Int} {acc : List D} {q : EndsD} (hm : 1000000000000000000 ≤ z → IntMulOk w (z - 1000000000000000000 + 1)) (ha : acc.length < sizeLine)
    (h : q.nx [o, some (.val (.int (if 1000000000000000000 ≤ z then w * (z - 1000000000000000000 + 1) + (z - 1000000000000000000) else w))), some (.own (acc ++ [.int z])), some (.val (.int z))]) : wBegBody [o, some (.val (.int w)), some (.own acc), some (.val (.int z))] q := by
  have e : (10 : Int) ^ 18 = 1000000000000000000 := by decide
  unfold wBegBody
  by_cases hz : 1000000000000000000 ≤ z
  · simp only [if_pos hz] at h
    have hm := hm hz
    simp [stD, CPow, List.set, e, hz]
    exact ⟨hm, ha, h⟩
  · simp only [if_neg hz] at h
    simp [stD, CPow, List.set, e, hz]
    exact ⟨ha, h⟩
theorem grow {w z : Int} {n B : Nat} (hw : 0 ≤ w) (h1 : w + 1 ≤ 2 ^ (n * B)) (hz : z.natAbs < 2 ^ B) (h18 : 1000000000000000000 ≤ z) : 0 ≤ w * (z - 1000000000000000000 + 1) + (z - 1000000000000000000) ∧ w * (z - 1000000000000000000 + 1) + (z - 1000000000000000000) + 1 ≤ 2 ^ ((n + 1) * B) := by
  have e : w * (z - 1000000000000000000 + 1) + (z - 1000000000000000000) + 1 = (w + 1) * (z - 1000000000000000000 + 1) := by
    rw [Int.add_mul, Int.one_mul]; omega
  have hz2 : z - 1000000000000000000 + 1 ≤ (2 : Int) ^ B := by
    have h2 : ((z.natAbs : Nat) : Int) < ((2 ^ B : Nat) : Int) := Int.ofNat_lt.mpr hz
    rw [Int.natCast_pow] at h2
    have h3 : ((2 : Nat) : Int) = 2 := rfl
    rw [h3] at h2
    omega
  refine ⟨?_, ?_⟩
  · have := Int.mul_nonneg hw (show 0 ≤ z - 1000000000000000000 + 1 by omega)
    omega
  · rw [e, Nat.add_mul, Nat.one_mul, Int.pow_add]
    exact Int.mul_le_mul h1 hz2 (by omega) (by omega)
theorem pow_mono2 {a b : Nat} (h : a ≤ b) : (2 : Int) ^ a ≤ 2 ^ b := by
  have := Nat.pow_le_pow_right (n := 2) (by decide) h
  have h2 := Int.ofNat_le.mpr this
  rw [Int.natCast_pow, Int.natCast_pow] at h2
  exact h2
theorem nat_lt {x : Int} {m : Nat} (h0 : 0 ≤ x) (h : x < 2 ^ m) : x.natAbs < 2 ^ m := by
  have h2 : ((x.natAbs : Nat) : Int) < ((2 ^ m : Nat) : Int) := by
    rw [Int.natCast_pow]
    have h3 : ((2 : Nat) : Int) = 2 := rfl
    rw [h3]; omega
  exact Int.ofNat_lt.mp h2
theorem beg_loop {B : Nat} {o : Option Sl} {q : EndsD} : ∀ (ns : List Int) (w : Int) (n : Nat) (acc : List Int) (b : Option Sl), 0 ≤ w → w + 1 ≤ 2 ^ (n * B) → (∀ z ∈ ns, z.natAbs < 2 ^ B) → (n + ns.length + 1) * B ≤ 134217728 → acc.length + ns.length ≤ 1000 →
    (∀ (w' : Int) b', 0 ≤ w' → q.nx [o, some (.val (.int w')), some (.own ((acc ++ ns).map D.int)), b']) → forW (gNm 3) wBegBody (ns.map D.int) [o, some (.val (.int w)), some (.own (acc.map D.int)), b] q
  | [], w, n, acc, b, hw, _, _, _, _, h => by
    have := h w b hw
    rwa [List.append_nil] at this
  | z :: ns, w, n, acc, b, hw, h1, hz, hl, ha, h => by
    have hz0 := hz z (List.mem_cons_self)
    have hle : (n + 1) * B ≤ 134217728 := Nat.le_trans (Nat.mul_le_mul_right B (by rw [List.length_cons]; omega)) hl
    have mono : (2 : Int) ^ (n * B) ≤ 2 ^ ((n + 1) * B) := pow_mono2 (Nat.mul_le_mul_right B (Nat.le_succ n))
    refine beg_body (o := o) (w := w) (z := z) (acc := acc.map D.int) (fun h18 => ?_) ?_ ?_
    · refine IntMulOk.of_le (m := n * B) (n := B) (bits_le (nat_lt hw (by omega))) (bits_le ?_) (by rw [Nat.add_mul, Nat.one_mul] at hle; exact hle)
      have : z.natAbs < 2 ^ B := hz0
      omega
    · rw [List.length_map]
      exact Nat.lt_of_le_of_lt (show acc.length ≤ 1000 by omega) (by decide)
    · have key : 0 ≤ (if 1000000000000000000 ≤ z then w * (z - 1000000000000000000 + 1) + (z - 1000000000000000000) else w) ∧ (if 1000000000000000000 ≤ z then w * (z - 1000000000000000000 + 1) + (z - 1000000000000000000) else w) + 1 ≤ 2 ^ ((n + 1) * B) := by
        split
        · rename_i h18
          exact grow hw h1 hz0 h18
        · exact ⟨hw, by omega⟩
      have e : acc.map D.int ++ [D.int z] = (acc ++ [z]).map D.int := by simp
      rw [e]
      refine beg_loop ns _ (n + 1) (acc ++ [z]) _ key.1 key.2 (fun y hy => hz y (List.mem_cons_of_mem _ hy)) (by rw [show n + 1 + ns.length + 1 = n + (z :: ns).length + 1 by rw [List.length_cons]; omega]; exact hl) (by simp at ha ⊢; omega) fun w' b' hw' => ?_
      have := h w' b' hw'
      rwa [show acc ++ [z] ++ ns = acc ++ z :: ns by simp]
end L3

set_option maxRecDepth 100000
set_option maxHeartbeats 4000000
/-! The data layer: the def that begins the draws. -/
namespace L3
open PySem PySem.Spec L2
/-- what the beginning promises -/
def spBeg (K : PySem.W.Frag) (T : List (Addr × Str)) : Sp := fun vs H Q _ => ∃ (a : Addr) (ns : List Int), vs = [.ref a] ∧ SqL K H a (ns.map V.int) ∧ ¬ (wdT T).vol a ∧ ns.length ≤ 63 ∧ (∀ z ∈ ns, Builtin.Int.intBits z ≤ 1048576) ∧ TabOk T H ∧
  ∀ (d : Dw) H', d.tabs = T → H d.ad = none → H d.cl = none → (∀ b o, ¬ (wdT T).vol b → H b = some o → H' b = some o) → DrawOk d H' → Q (.ref d.ad) H'
theorem ats_ints {K : PySem.W.Frag} {W : Wd} {H : Hp} {G : Gh} : ∀ {ns : List Int} {vs : List V}, Ats K W H G (ns.map D.int) vs → vs = ns.map V.int
  | [], vs, h => h
  | n :: ns, vs, h => by
    obtain ⟨v, r, rfl, h1, h2⟩ := h
    have h1 : v = .int n := h1
    rw [h1, ats_ints h2]; rfl
theorem merge_kv {w : Int} {a : Addr} : mergeK [] (kvD w 0 a) = kvD w 0 a := by rfl
/-- the dict is handed out -/
abbrev tBegRet : TS := tRet (tDisp [(tC (.str "whole"), tVar 1), (tC (.str "cells"), tVar 2), (tC (.str "count"), tC (.int 0))])
def wBegSet : WS := wPar 1 2 (wC (.int 0)) (wLst wNil)
theorem upd_upd {H : Hp} {p : Addr} {x y : HO} : upd (upd H p x) p y = upd H p y := by
  funext b
  by_cases h : b = p
  · subst h; rw [upd_same, upd_same]
  · rw [upd_ne h, upd_ne h, upd_ne h]
section
variable {P : Program} {w : World} {K : PySem.W.Frag} {mg : Str → Option Value} {base : Heap} {T : List (Addr × Str)}
theorem beg_ok {st s1 s2 s3 : Stmt} {kb : List (List Str × List Nat)} (Df : DefAt K mg "_law_begun" st ["script"] kb) (S : FnScope ["script", "whole", "cells", "cell"] ["script"] (defScope st)) (eb : defBody st = [s1, s2, s3])
    (h1 : ∀ (f : Addr) (cdv : Value) (A : Around) (outer : List Env) (s : Shared) (H : Hp) (E : XK) (H0 : Hp) (G0 : Gh) (rx : Exn → Prop), Ctx (cxOf (CX P w) P w K mg base ["script", "whole", "cells", "cell"] "_law_begun" (defScope st) f cdv A outer s H E) ⟨K, wdT T, H0, G0, mg⟩ E rx →
      PS (cxOf (CX P w) P w K mg base ["script", "whole", "cells", "cell"] "_law_begun" (defScope st) f cdv A outer s H E) s1 (sOf ⟨K, wdT T, H0, G0, mg⟩ wBegSet))
    (h2 : ∀ (f : Addr) (cdv : Value) (A : Around) (outer : List Env) (s : Shared) (H : Hp) (E : XK) (H0 : Hp) (G0 : Gh) (rx : Exn → Prop) (a : Addr) (ns : List Int), SqL K H0 a (ns.map V.int) → ¬ (wdT T).vol a → Ctx (cxOf (CX P w) P w K mg base ["script", "whole", "cells", "cell"] "_law_begun" (defScope st) f cdv A outer s H E) ⟨K, wdT T, H0, G0, mg⟩ E rx →
      PS (cxOf (CX P w) P w K mg base ["script", "whole", "cells", "cell"] "_law_begun" (defScope st) f cdv A outer s H E) s2 (sOf ⟨K, wdT T, H0, G0, mg⟩ (wForS 0 a ns (gNm 3) wBegBody)))
    (h3 : ∀ (f : Addr) (cdv : Value) (A : Around) (outer : List Env) (s : Shared) (H : Hp) (E : XK), PS (cxOf (CX P w) P w K mg base ["script", "whole", "cells", "cell"] "_law_begun" (defScope st) f cdv A outer s H E) s3 tBegRet) : CalX P w K mg base 1 "_law_begun" ["script"] (spBeg K T) := by
  obtain ⟨f, fd, F, hm, hb, _⟩ := Df.ex
  have lkk : ∃ oc od osl, K.lookup f = some ⟨oc, od, .func fd, osl⟩ := by
    obtain ⟨oc, od, _, _, _, _, _, _, osl, _, lk, _⟩ := F.ex
    exact ⟨oc, od, osl, lk⟩
  refine ⟨f, fd, F.okX S (fun vs H Q E ⟨a, ns, e, _⟩ => by rw [e]; rfl) (fun cdv A outer s H vs Q E hr h => ?_), hm, F.kp, hb, lkk⟩
  obtain ⟨a, ns, rfl, sq, nv, hl, hbits, tk0, kq⟩ := h
  have tk : Takes (cxOf (CX P w) P w K mg base ["script", "whole", "cells", "cell"] "_law_begun" (defScope st) f cdv A outer s H E) (fun cls d _ H => E cls d H) := takes_of rfl rfl rfl rfl
  have cx : Ctx (cxOf (CX P w) P w K mg base ["script", "whole", "cells", "cell"] "_law_begun" (defScope st) f cdv A outer s H E) ⟨K, wdT T, H, fun _ => none, mg⟩ E (fun _ => False) := ⟨rfl, rfl, rfl, passes_call tk fun _ _ _ _ h => h, passes_of rfl, fun _ _ _ _ _ _ _ h => h.elim, hr.units⟩
  rw [eb]
  refine ⟨_, pss_cons (h1 f cdv A outer s H E _ _ _ cx) (pss_cons (h2 f cdv A outer s H E _ _ _ a ns sq nv cx) (pss_one (h3 f cdv A outer s H E))), ?_⟩
  have fr0 : Frm ⟨K, wdT T, H, fun _ => none, mg⟩ H (fun _ => none) (L2.start ["script", "whole", "cells", "cell"] [.ref a]) (startD 4 [.obj (.ref a)]) := start_frm (N := ["script", "whole", "cells", "cell"]) (vs := [.ref a]) ⟨fun _ _ z => (nomatch z), tk0⟩ ⟨_, [], rfl, rfl, rfl⟩
  refine ⟨_, startD 4 [.obj (.ref a)], { nx := fun δ => δ = [some (.val (.obj (.ref a))), some (.val (.int 0)), some (.own []), none], rt := fun _ => False }, fr0, ?_, ?_⟩
  · simp [wBegSet, stD, List.set]
  refine ⟨fun σ1 H1 G1 δ1 f1 u1 q1 => ?_, fun _ _ _ _ _ _ z => z.elim, fun _ _ _ _ _ _ z => z.elim, fun _ _ _ _ _ _ _ z => z.elim⟩
  subst q1
  refine ⟨G1, _, { nx := fun δ => ∃ (w' : Int) (b' : Option Sl), 0 ≤ w' ∧ δ = [some (.val (.obj (.ref a))), some (.val (.int w')), some (.own (ns.map D.int)), b'], rt := fun _ => False }, f1, ⟨rfl, ?_⟩, ?_⟩
  · refine beg_loop (B := 1048576) ns 0 0 [] none (by decide) (by rw [Nat.zero_mul]; decide) (fun z hz => lt_bits (hbits z hz)) ?_ (by simp; omega) fun w' b' hw' => ⟨w', b', hw', rfl⟩
    exact Nat.le_trans (Nat.mul_le_mul_right 1048576 (show 0 + ns.length + 1 ≤ 64 by omega)) (by decide)
  refine ⟨fun σ2 H2 G2 δ2 f2 u2 ⟨w', b', hw', q2⟩ => ?_, fun _ _ _ _ _ _ z => z.elim, fun _ _ _ _ _ _ z => z.elim, fun _ _ _ _ _ _ _ z => z.elim⟩
  subst q2
  obtain ⟨v1, a1, b1⟩ := f2.sl 1 _ rfl
  have b1 : v1 = .int w' := b1
  subst b1
  obtain ⟨v2, a2, l, vs, rfl, l0, nvl, e1, e2, e3⟩ := f2.sl 2 _ rfl
  have evs := ats_ints e3
  subst evs
  intro p hp
  refine ⟨.int w', a1, .ref l, a2, upd_same, kvD w' 0 l, rfl, show 3 ≤ 15 by decide, ?_⟩
  rw [merge_kv, upd_upd]
  have e4 : Ext (wdT T) H (fun _ => none) (upd H2 p (.dK (kvD w' 0 l))) G2 := f2.ext.laid hp
  have ok : TabOk T (upd H2 p (.dK (kvD w' 0 l))) := e4.ok
  exact kq ⟨p, l, ns, T, hbits, hl⟩ _ rfl (f2.ext.free hp) l0 e4.same ⟨⟨w', 0, hw', by decide, upd_same⟩, by rw [upd_ne (ne_of_none e1 hp)]; exact e1, ok.tabs, ok.only⟩
end
end L3

set_option maxRecDepth 100000
set_option maxHeartbeats 4000000
/-! The data layer: repr of truths, the mixing as a part of an expression, calls of world defs. -/
namespace L3
open PySem PySem.Spec L2
@[simp] def reprW : List D → (R → Prop) → Prop
  | [.bl b], q => q (.val (.str (if b then "True" else "False")))
  | [.non], q => q (.val (.str "None"))
  | _, _ => False
theorem cdivw {i j : Int} (h0 : 0 < j) (h1 : j < 18446744073709551616) : CDivW i j := by
  refine ⟨h0, ?_⟩
  have hn : j.natAbs ≠ 0 := by omega
  have : j.natAbs.log2 < 64 := (Nat.log2_lt hn).mpr (by omega)
  omega
section
variable {X : Cx} {C : Ct} {E : XK} {rx : Exn → Prop} {d : Dw} {pos p1 p2 : Pos} {x : Str}
theorem cr_repr : CallR X (.builtin "repr") (fun xs H Q => (∃ b, xs = [.bl b] ∧ Q (.str (if b then "True" else "False")) H) ∨ (xs = [.non] ∧ Q (.str "None") H)) := by
  intro pins s σ H xs us Q I r h
  rcases h with ⟨b, rfl, q⟩ | ⟨rfl, q⟩
  · obtain ⟨u, rfl, rx⟩ := vals1 r
    obtain rfl : u = Value.bool b := rx
    exact P.repr_of_bool ⟨.str (if b then "True" else "False"), H, I.tok _, ⟨_, rfl⟩, q⟩
  · obtain ⟨u, rfl, rx⟩ := vals1 r
    obtain rfl : u = Value.none := rx
    exact P.repr_of_none ⟨.str "None", H, I.tok _, ⟨_, rfl⟩, q⟩
theorem cd_repr : CallD C (fun xs H Q => (∃ b, xs = [.bl b] ∧ Q (.str (if b then "True" else "False")) H) ∨ (xs = [.non] ∧ Q (.str "None") H)) reprW := fun H G rs xs Hs q Q gh hks hfree h w k => by
  unfold reprW at w
  split at w
  · rename_i b e
    obtain ⟨r, y, rfl, e1, h1⟩ := reps1 h e
    have h2 : y = .bl b := h1.flat e1 (by intro _ z; cases z)
    exact .inl ⟨b, by rw [h2], k _ (.val (.str _)) H G (.refl gh.ok) rfl w⟩
  · rename_i e
    obtain ⟨r, y, rfl, e1, h1⟩ := reps1 h e
    have h2 : y = .non := h1.flat e1 (by intro _ z; cases z)
    exact .inr ⟨by rw [h2], k _ (.val (.str _)) H G (.refl gh.ok) rfl w⟩
  · exact w.elim
/-- one turn of the draw's loop -/
theorem ds_turn {k : Nat} {y : Str} {q1 q2 q3 q4 q5 q6 q7 q8 : Pos} {j1 j2 : Nat} (cx : Ctx X C E rx) (F : CalX X.prog X.w C.K C.mg X.base k "_law_mixed" ["draw"] (spMix d)) (hr : Room k X.A) (nd : X.N.Nodup) (hg : Gl X "_law_mixed") (hN : X.N[0]? = some x := by rfl) (hN2 : X.N[2]? = some y := by rfl) (hv : Vis X.env.scope x := by first | exact Or.inl rfl | exact Or.inr (Or.inl rfl) | exact Or.inr (Or.inr rfl))
    (hv2 : Vis X.env.scope y := by first | exact Or.inl rfl | exact Or.inr (Or.inl rfl) | exact Or.inr (Or.inr rfl)) (hl : Loc X.env.scope y := by first | exact Or.inl rfl | exact Or.inr rfl) (hd : (x == ("__debug__" : Str)) = false := by decide) (hcd : (x == ("__classdict__" : Str)) = false := by decide)
    (hd2 : (y == ("__debug__" : Str)) = false := by decide) (hcd2 : (y == ("__classdict__" : Str)) = false := by decide) (he : starEach [Expr.Name x p1] X.env = (false, eval (.Name x p1) X.env) :: starEach [] X.env := by rfl)
    (hs : swapsWith (.BinOp (.BinOp (.Name y q1) .Mult (.BinOp (.Constant (.int 2) j1 q2) .Pow (.Constant (.int 61) j2 q3) q4) q5) .Add (.Call (.Name "_law_mixed" p2) [.Name x p1] [] pos) q6) (some (.Name y q7)) q8.line X.env = pure false := by rfl)
    (hf : X.fn y = true ∨ X.env.scope.names.lookup y = some .local := by first | exact .inl rfl | exact .inr rfl | assumption) :
    PS X (.Assign [.Name y q7] (.BinOp (.BinOp (.Name y q1) .Mult (.BinOp (.Constant (.int 2) j1 q2) .Pow (.Constant (.int 61) j2 q3) q4) q5) .Add (.Call (.Name "_law_mixed" p2) [.Name x p1] [] pos) q6) q8) (tTurn d E) := by
  obtain ⟨f, fd, F1, hm, hk, hb, _⟩ := F.ex
  rw [cx.hK, cx.hM] at F1
  rw [cx.hK] at hk hb
  rw [cx.hM] at hm
  refine ps_set nd hN2 hl ⟨fun pins s σ H Q I h => (pe_op op_add (pe_op op_mul (pe_var hN2 hv2 hd2 hcd2) (pe_op op_pow pe_int pe_int)) (pe_call F1 hr hg hm hk hb .nil cx.pass (pa_cons (pe_var hN hv hd hcd) pa_nil he) (by decide) he (by rfl))).run pins s σ H Q I ?_⟩ hs hf
  obtain ⟨v, e1, h⟩ := h
  refine ⟨v, e1, ?_⟩
  obtain ⟨i, j, e2, e3, hc, i2, j2, e4, e5, hc2, u, e6, h⟩ := h
  exact ⟨i, j, e2, e3, hc, i2, j2, e4, e5, hc2, u, e6, h⟩
/-- a, b = e1, e2 of captured names: by a tuple -/
theorem ds_parC {i j : Nat} {x y : Str} {a b : Expr} {wa wb : WE} {px py pt : Pos} {kt k2 : Nat} {pt2 : Pos} (hc : X.calm = true) (hN : X.N.Nodup) (ha : PE X a (tOf C wa)) (hb : PE X b (tOf C wb)) (hi : X.N[i]? = some x := by rfl) (hj : X.N[j]? = some y := by rfl) (hij : i ≠ j := by decide)
    (hx : Loc X.env.scope x := by first | exact Or.inl rfl | exact Or.inr rfl) (hy : Loc X.env.scope y := by first | exact Or.inl rfl | exact Or.inr rfl) (hfx : X.fn x = true ∨ X.env.scope.names.lookup x = some .local := by first | exact .inl rfl | exact .inr rfl) (hfy : X.fn y = true ∨ X.env.scope.names.lookup y = some .local := by first | exact .inl rfl | exact .inr rfl)
    (hw : swappedStores [.Tuple [.Name x px, .Name y py] kt pt] (.Tuple [a, b] k2 pt2) X.env = pure none := by rfl) (hs : swapsWithSole [.Tuple [.Name x px, .Name y py] kt pt] (.Tuple [a, b] k2 pt2) pos.line X.env = pure false := by rfl)
    (hA : (assignEach [.Tuple [.Name x px, .Name y py] kt pt] X.env).map (·.2) = [assign (.Tuple [.Name x px, .Name y py] kt pt) X.env] := by rfl) (hn : (assignEach [Expr.Name x px, .Name y py] X.env).length = 2 := by rfl) (hst : (assignEach [Expr.Name x px, .Name y py] X.env).findIdx? (·.1) = none := by rfl)
    (hB : (assignEach [Expr.Name x px, .Name y py] X.env).map (·.2) = assign (.Name x px) X.env :: (assignEach [Expr.Name y py] X.env).map (·.2) := by rfl) (hD : (assignEach [Expr.Name y py] X.env).map (·.2) = assign (.Name y py) X.env :: (assignEach [] X.env).map (·.2) := by rfl)
    (h1 : starEach [a, b] X.env = (false, eval a X.env) :: starEach [b] X.env := by rfl) (h2 : starEach [b] X.env = (false, eval b X.env) :: starEach [] X.env := by rfl) :
    PS X (.Assign [.Tuple [.Name x px, .Name y py] kt pt] (.Tuple [a, b] k2 pt2) pos) (sOf C (wPar i j wa wb)) :=
  PS.str (ps_asg (pe_tup (pa_cons ha (pa_cons hb pa_nil h2) h1)) (pg_tup hc (pgs_cons (pg_name hN hi hx hfx) (pgs_cons (pg_name hN hj hy hfy) pgs_nil hD) hB) hn hst) hs hw hA) fun D0 σ H ⟨G, δ, q, f, hw, k⟩ => run f hw fun v r1 H1 G1 e1 f1 p1 q1 => run f1 q1 fun u r2 H2 G2 e2 f2 p2 q2 => by
    split at q2
    · rename_i s1 s2 es1 es2
      refine ⟨show 2 ≤ sizeLine by decide, fun p hp => ⟨p, [v, u], rfl, .inl (.inl upd_same), rfl, v, [u], rfl, u, [], rfl, rfl, ?_⟩⟩
      have e3 : Ext C.W H2 G2 (upd H2 p (.tup [v, u])) G2 := Ext.laid (Ext.refl f2.gh.ok) hp
      exact k.nx _ _ G2 _ ((f2.up e3).store2 hij f f1 e1 (e2.trans e3 f1.gh.ok) p1 (p2.up f2.gh.ok e3 (fun _ h => h) f1.gh.ok) es1 es2) (((e1.trans e2 f.gh.ok).trans e3 f.gh.ok).up f.gh.ok) q2
    · exact q2.elim
end
end L3

set_option maxRecDepth 100000
set_option maxHeartbeats 1000000
/-! Plain: equality of data, comprehensions, truths of data. -/
namespace L3
open PySem PySem.Spec L2
@[simp] theorem eqP_int (i j : Int) : eqP (.int i) (.int j) = decide (i = j) := by unfold eqP toP; simp [PyData.eqv]; by_cases h : i = j <;> simp [h]
@[simp] theorem eqP_bl (i j : Bool) : eqP (.bl i) (.bl j) = (i == j) := by unfold eqP toP; cases i <;> cases j <;> rfl
theorem eqP_lst_nil (xs : List D) : eqP (.lst xs) (.lst []) = xs.isEmpty := by unfold eqP toP; cases xs <;> rfl
mutual
theorem eqv_self : ∀ d : D, PyData.eqv (toP d) (toP d) = true
  | .non => by unfold toP; rfl
  | .bl b => by unfold toP; cases b <;> rfl
  | .int i => by unfold toP; simp [PyData.eqv]
  | .str x => by unfold toP; simp [PyData.eqv]
  | .tup ds => by unfold toP; simp only [PyData.eqv]; exact eqvs_self ds
  | .lst ds => by unfold toP; simp only [PyData.eqv]; exact eqvs_self ds
  | .dct => by unfold toP; rfl
  | .obj _ => by unfold toP; rfl
theorem eqvs_self : ∀ ds : List D, PyData.eqvAll (toPs ds) (toPs ds) = true
  | [] => by unfold toPs; rfl
  | d :: ds => by unfold toPs; simp only [PyData.eqvAll]; rw [eqv_self d, eqvs_self ds]; rfl
end
theorem eqP_self (d : D) : eqP d d = true := eqv_self d
mutual
/-- no opaque thing anywhere -/
def okA : D → Bool
  | .obj _ => false
  | .tup ds => okAs ds
  | .lst ds => okAs ds
  | _ => true
def okAs : List D → Bool
  | [] => true
  | d :: ds => okA d && okAs ds
end
theorem okAs_mem : ∀ {ds : List D}, okAs ds = true → ∀ d ∈ ds, okA d = true
  | [], _, _, h => by cases h
  | c :: ds, h, d, hd => by
    have h : (okA c && okAs ds) = true := by simpa [okAs] using h
    rw [Bool.and_eq_true] at h
    rcases List.mem_cons.mp hd with rfl | hd
    · exact h.1
    · exact okAs_mem h.2 d hd
theorem okA_B {d : D} (h : okA d = true) : okB d = true := by cases d <;> first | rfl | (unfold okA at h; cases h)
theorem dpts_mem : ∀ {ds : List D} {n : Nat}, dpts ds n = true → ∀ d ∈ ds, dpt d n = true
  | [], _, _, _, h => by cases h
  | c :: ds, n, h, d, hd => by
    have h : (dpt c n && dpts ds n) = true := by simpa [dpts] using h
    rw [Bool.and_eq_true] at h
    rcases List.mem_cons.mp hd with rfl | hd
    · exact h.1
    · exact dpts_mem h.2 d hd
theorem dpts_of : ∀ {ds : List D} {n : Nat}, (∀ d ∈ ds, dpt d n = true) → dpts ds n = true
  | [], _, _ => by unfold dpts; rfl
  | c :: ds, n, h => by
    unfold dpts
    rw [h c List.mem_cons_self, dpts_of fun d hd => h d (List.mem_cons_of_mem _ hd)]; rfl
mutual
theorem dpt_mono : ∀ (d : D) {m n : Nat}, m ≤ n → dpt d m = true → dpt d n = true
  | .non, m, n, _, h => by unfold dpt; rfl
  | .bl b, m, n, _, h => by unfold dpt; rfl
  | .int i, m, n, _, h => by unfold dpt; rfl
  | .str x, m, n, _, h => by unfold dpt at h ⊢; exact h
  | .tup ds, 0, n, _, h => by simp [dpt] at h
  | .tup ds, m + 1, 0, hm, h => by omega
  | .tup ds, m + 1, n + 1, hm, h => by
    have h : dpts ds m = true := by simpa [dpt] using h
    simp [dpt]; exact dpts_mono ds (by omega) h
  | .lst ds, 0, n, _, h => by simp [dpt] at h
  | .lst ds, m + 1, 0, hm, h => by omega
  | .lst ds, m + 1, n + 1, hm, h => by
    have h : dpts ds m = true := by simpa [dpt] using h
    simp [dpt]; exact dpts_mono ds (by omega) h
  | .dct, m, n, _, h => by simp [dpt] at h
  | .obj _, m, n, _, h => by simp [dpt] at h
theorem dpts_mono : ∀ (ds : List D) {m n : Nat}, m ≤ n → dpts ds m = true → dpts ds n = true
  | [], m, n, _, h => by unfold dpts; rfl
  | d :: ds, m, n, hm, h => by
    have h : (dpt d m && dpts ds m) = true := by simpa [dpts] using h
    rw [Bool.and_eq_true] at h
    unfold dpts
    rw [dpt_mono d hm h.1, dpts_mono ds hm h.2]; rfl
end
/-- a comprehension that is a function of its items -/
theorem lc_pure {g : WG} {tt : WT} {te : WE} {δ0 : De} {q : R → Prop} (F : D → Option D) : ∀ (ds acc : List D), (∀ d ∈ ds, ∀ Q : Option D → Prop, Q (F d) → g d δ0 fun δ1 => tt δ1 fun b => match b with | true => te δ1 fun r => nb r ∧ Q (some r.data) | false => Q none) →
    acc.length + ds.length ≤ sizeLine → q (.own (acc ++ ds.filterMap F)) → lcW g tt te δ0 ds acc q
  | [], acc, _, _, h => by
    simp only [List.filterMap_nil, List.append_nil] at h
    exact h
  | d :: ds, acc, hs, hl, h => by
    have hl' : acc.length + ds.length + 1 ≤ sizeLine := by rw [List.length_cons] at hl; omega
    refine hs d List.mem_cons_self (fun o => match o with | some v => acc.length < sizeLine ∧ lcW g tt te δ0 ds (acc ++ [v]) q | none => lcW g tt te δ0 ds acc q) ?_
    cases e : F d with
    | none =>
      refine lc_pure F ds acc (fun c hc => hs c (List.mem_cons_of_mem _ hc)) (by omega) ?_
      rwa [List.filterMap_cons_none e] at h
    | some v =>
      refine ⟨by omega, lc_pure F ds _ (fun c hc => hs c (List.mem_cons_of_mem _ hc)) (by rw [List.length_append, List.length_singleton]; omega) ?_⟩
      rw [List.filterMap_cons_some e] at h
      rw [List.append_assoc]; exact h
/-- a comprehension of items that are drawn -/
theorem lc_each {g : WG} {te : WE} {δ0 : De} {q : R → Prop} (S : D → Prop) : ∀ (ds acc : List D), (∀ d ∈ ds, ∀ Q : D → Prop, (∀ v, S v → Q v) → g d δ0 fun δ1 => te δ1 fun r => nb r ∧ Q r.data) →
    acc.length + ds.length ≤ sizeLine → (∀ vs : List D, vs.length = ds.length → (∀ v ∈ vs, S v) → q (.own (acc ++ vs))) → lcW g wYes te δ0 ds acc q
  | [], acc, _, _, h => by
    have := h [] rfl (fun _ z => by cases z)
    rwa [List.append_nil] at this
  | d :: ds, acc, hs, hl, h => by
    have hl' : acc.length + ds.length + 1 ≤ sizeLine := by rw [List.length_cons] at hl; omega
    refine hs d List.mem_cons_self (fun v => acc.length < sizeLine ∧ lcW g wYes te δ0 ds (acc ++ [v]) q) fun v hv => ?_
    refine ⟨by omega, lc_each S ds _ (fun c hc => hs c (List.mem_cons_of_mem _ hc)) (by rw [List.length_append, List.length_singleton]; omega) fun vs h1 h2 => ?_⟩
    have := h (v :: vs) (by rw [List.length_cons, List.length_cons, h1]) (fun u hu => by
      rcases List.mem_cons.mp hu with rfl | hu
      · exact hv
      · exact h2 u hu)
    rw [List.append_assoc]; exact this
/-- a loop that looks for a bad item -/
theorem forW_all {g : WG} {wb : WS} {q : EndsD} (T : D → Bool) (J : De → Prop) : ∀ (ds : List D) (δ : De), J δ → (∀ d ∈ ds, ∀ (δ : De) (q' : EndsD), J δ → (∀ δ', J δ' → T d = true → q'.nx δ') → (T d = false → q'.rt (.val (.bl false))) → g d δ fun δ1 => wb δ1 q') →
    (∀ δ', J δ' → ds.all T = true → q.nx δ') → (ds.all T = false → q.rt (.val (.bl false))) → forW g wb ds δ q
  | [], δ, hj, _, h1, _ => h1 δ hj rfl
  | d :: ds, δ, hj, hs, h1, h2 => by
    refine hs d List.mem_cons_self δ _ hj (fun δ' hj' ht => ?_) (fun hf => h2 (by rw [List.all_cons, hf]; rfl))
    exact forW_all T J ds δ' hj' (fun c hc => hs c (List.mem_cons_of_mem _ hc)) (fun δ'' hj'' ha => h1 δ'' hj'' (by rw [List.all_cons, ht, ha]; rfl)) (fun hf => h2 (by rw [List.all_cons, hf, Bool.and_false]))
/-- a loop over a range, by an invariant -/
theorem forW_inv {g : WG} {wb : WS} {q : EndsD} (J : Nat → De → Prop) : ∀ (k lo : Nat) (δ : De), J lo δ → (∀ (i : Nat) (δ : De) (q' : EndsD), lo ≤ i → i < lo + k → J i δ → (∀ δ', J (i + 1) δ' → q'.nx δ') → g (.int (0 + (i : Nat))) δ fun δ1 => wb δ1 q') →
    (∀ δ', J (lo + k) δ' → q.nx δ') → forW g wb ((List.range' lo k).map fun i => D.int (0 + (i : Nat))) δ q
  | 0, lo, δ, hj, _, h => h δ hj
  | k + 1, lo, δ, hj, hs, h => by
    rw [List.range'_succ]
    refine hs lo δ _ (Nat.le_refl _) (by omega) hj fun δ' hj' => ?_
    exact forW_inv J k (lo + 1) δ' hj' (fun i δ q' h1 h2 => hs i δ q' (by omega) (by omega)) (by rw [show lo + 1 + k = lo + (k + 1) by omega]; exact h)
theorem forW_rng {g : WG} {wb : WS} {q : EndsD} (J : Nat → De → Prop) (n : Nat) (δ : De) (h0 : J 0 δ) (hs : ∀ (i : Nat) (δ : De) (q' : EndsD), i < n → J i δ → (∀ δ', J (i + 1) δ' → q'.nx δ') → g (.int (0 + (i : Nat))) δ fun δ1 => wb δ1 q') (h : ∀ δ', J n δ' → q.nx δ') : forW g wb (rngD 0 n) δ q := by
  unfold rngD
  rw [List.range_eq_range']
  exact forW_inv J n 0 δ h0 (fun i δ q' _ h2 => hs i δ q' (by omega)) (by rw [Nat.zero_add]; exact h)
theorem blsOf_map {α : Type} (f : α → Bool) : ∀ xs : List α, blsOf (xs.map fun x => .bl (f x)) = some (xs.map f)
  | [] => rfl
  | x :: xs => by simp [blsOf, blsOf_map f xs]
theorem fm_some {α β : Type} (f : α → β) (xs : List α) : xs.filterMap (fun x => some (f x)) = xs.map f := by
  show List.filterMap (some ∘ f) xs = _
  rw [List.filterMap_eq_map]
theorem all_id {α : Type} (f : α → Bool) (xs : List α) : (xs.map f).all id = xs.all f := by rw [List.all_map]; rfl
/-- an index that stands -/
theorem atI_nat {α : Type} {xs : List α} {i : Nat} {x : α} (h : xs[i]? = some x) : atI xs (i : Int) = some x := by
  have hi := (List.getElem?_eq_some_iff.mp h).1
  unfold atI ixN
  rw [if_pos (by omega), if_pos (by omega)]
  simpa using h
theorem atI_int {α : Type} {xs : List α} {i : Int} {x : α} (h0 : 0 ≤ i) (h : xs[i.toNat]? = some x) : atI xs i = some x := by
  have := atI_nat h
  rwa [Int.toNat_of_nonneg h0] at this
end L3

set_option maxRecDepth 100000
set_option maxHeartbeats 1000000
/-! Plain: lines of numbers, noughts at the end cut, sums of polys. -/
namespace L3
open PySem PySem.Spec L2
abbrev dI (vs : List Int) : List D := vs.map D.int
/-- rests -/
def Rst (p : Int) (vs : List Int) : Prop := ∀ z ∈ vs, 0 ≤ z ∧ z < p
/-- noughts at the end are cut -/
def trim : List Int → List Int
  | [] => []
  | v :: vs => if trim vs = [] ∧ v = 0 then [] else v :: trim vs
abbrev co (vs : List Int) (i : Nat) : Int := vs.getD i 0
theorem co_nil (i : Nat) : co [] i = 0 := by simp [co]
theorem co_zero (v : Int) (vs : List Int) : co (v :: vs) 0 = v := rfl
theorem co_succ (v : Int) (vs : List Int) (i : Nat) : co (v :: vs) (i + 1) = co vs i := rfl
theorem co_trim : ∀ (vs : List Int) (i : Nat), co (trim vs) i = co vs i
  | [], i => rfl
  | v :: vs, i => by
    have ih := co_trim vs
    unfold trim
    split
    · rename_i h
      cases i with
      | zero => rw [co_zero, h.2]; rfl
      | succ i =>
        rw [co_succ, ← ih i, h.1, co_nil]; rfl
    · cases i with
      | zero => rfl
      | succ i => rw [co_succ, co_succ]; exact ih i
theorem trim_len : ∀ vs : List Int, (trim vs).length ≤ vs.length
  | [] => Nat.le_refl _
  | v :: vs => by
    have ih := trim_len vs
    unfold trim
    split
    · exact Nat.zero_le _
    · simp; exact ih
theorem trim_mem : ∀ (vs : List Int) {z : Int}, z ∈ trim vs → z ∈ vs
  | [], z, h => h
  | v :: vs, z, h => by
    unfold trim at h
    split at h
    · cases h
    · rcases List.mem_cons.mp h with rfl | h
      · exact List.mem_cons_self
      · exact List.mem_cons_of_mem _ (trim_mem vs h)
theorem Rst.trim {p : Int} {vs : List Int} (h : Rst p vs) : Rst p (trim vs) := fun z hz => h z (trim_mem vs hz)
theorem trim_trim : ∀ vs : List Int, trim (trim vs) = trim vs
  | [] => rfl
  | v :: vs => by
    have ih := trim_trim vs
    by_cases c : trim vs = [] ∧ v = 0
    · have e : trim (v :: vs) = [] := by rw [trim, if_pos c]
      rw [e]; rfl
    · have e : trim (v :: vs) = v :: trim vs := by rw [trim, if_neg c]
      rw [e, trim, ih, if_neg c]
theorem trim_nil_iff : ∀ {vs : List Int}, trim vs = [] ↔ ∀ i, co vs i = 0
  | [] => ⟨fun _ i => co_nil i, fun _ => rfl⟩
  | v :: vs => by
    have ih := @trim_nil_iff vs
    constructor
    · intro h i
      rw [← co_trim, h, co_nil]
    · intro h
      have h1 : trim vs = [] := ih.mpr fun i => by have := h (i + 1); rwa [co_succ] at this
      rw [trim, if_pos ⟨h1, by have := h 0; rwa [co_zero] at this⟩]
/-- the same numbers everywhere -/
theorem trim_ext : ∀ {as bs : List Int}, (∀ i, co as i = co bs i) → trim as = trim bs
  | [], bs, h => by
    have : trim bs = [] := trim_nil_iff.mpr fun i => by rw [← h i, co_nil]
    rw [this]; rfl
  | a :: as, [], h => by
    have : trim (a :: as) = [] := trim_nil_iff.mpr fun i => by rw [h i, co_nil]
    rw [this]; rfl
  | a :: as, b :: bs, h => by
    have ih := @trim_ext as bs fun i => by have := h (i + 1); simpa only [co_succ] using this
    have e : a = b := by have := h 0; simpa only [co_zero] using this
    subst e
    simp only [trim, ih]
theorem trim_snoc (v : Int) : ∀ vs : List Int, trim (vs ++ [v]) = if v = 0 then trim vs else vs ++ [v]
  | [] => by
    by_cases h : v = 0 <;> simp [trim, h]
  | a :: as => by
    have ih := trim_snoc v as
    by_cases h : v = 0
    · simp only [h, if_true] at ih ⊢
      simp only [List.cons_append, trim, ih]
    · simp only [h, if_false] at ih ⊢
      simp only [List.cons_append, trim, ih]
      rw [if_neg (fun z => by simp at z)]
theorem trim_take {vs : List Int} {m : Nat} {v : Int} (h : vs[m]? = some v) : trim (vs.take (m + 1)) = if v = 0 then trim (vs.take m) else vs.take (m + 1) := by
  have e : vs.take (m + 1) = vs.take m ++ [v] := by
    rw [List.take_add_one, h]; rfl
  rw [e, trim_snoc]
/-- a cut line ends by another number than 0 -/
theorem trim_last {vs : List Int} (h : trim vs = vs) (n : vs ≠ []) : ∃ v, vs[vs.length - 1]? = some v ∧ v ≠ 0 := by
  have hl : 0 < vs.length := List.length_pos_iff.mpr n
  have e : vs[vs.length - 1]? = some (vs[vs.length - 1]) := List.getElem?_eq_getElem (by omega)
  refine ⟨_, e, fun z => ?_⟩
  have := trim_take e
  rw [if_pos z, show vs.length - 1 + 1 = vs.length by omega, List.take_length, h] at this
  have l := congrArg List.length this
  have l2 := trim_len (vs.take (vs.length - 1))
  rw [List.length_take] at l2
  omega
theorem trim_of_last {vs : List Int} {v : Int} (e : vs[vs.length - 1]? = some v) (h : v ≠ 0) : trim vs = vs := by
  have hl : 0 < vs.length := by have := (List.getElem?_eq_some_iff.mp e).1; omega
  have := trim_take e
  rwa [if_neg h, show vs.length - 1 + 1 = vs.length by omega, List.take_length] at this
/-! ### sums -/
def pad (n : Nat) (vs : List Int) : List Int := vs ++ List.replicate (n - vs.length) 0
theorem co_pad (n : Nat) (vs : List Int) (i : Nat) : co (pad n vs) i = co vs i := by
  unfold pad co
  rw [List.getD_eq_getElem?_getD, List.getD_eq_getElem?_getD, List.getElem?_append]
  split
  · rfl
  · rename_i h
    rw [List.getElem?_eq_none (l := vs) (by omega), List.getElem?_replicate]
    split <;> rfl
theorem pad_len (n : Nat) (vs : List Int) (h : vs.length ≤ n) : (pad n vs).length = n := by unfold pad; simp; omega
def addZ (p : Int) (as bs : List Int) : List Int := List.zipWith (fun a b => (a + b) % p) (pad (max as.length bs.length) as) (pad (max as.length bs.length) bs)
def plusP (p : Int) (as bs : List Int) : List Int := trim (addZ p as bs)
theorem co_addZ {p : Int} (as bs : List Int) (i : Nat) : co (addZ p as bs) i = (co as i + co bs i) % p := by
  rw [← co_pad (max as.length bs.length) as, ← co_pad (max as.length bs.length) bs]
  have l1 := pad_len (max as.length bs.length) as (Nat.le_max_left _ _)
  have l2 := pad_len (max as.length bs.length) bs (Nat.le_max_right _ _)
  unfold addZ co
  rw [List.getD_eq_getElem?_getD, List.getElem?_zipWith, List.getD_eq_getElem?_getD, List.getD_eq_getElem?_getD]
  by_cases h : i < max as.length bs.length
  · rw [List.getElem?_eq_getElem (by omega), List.getElem?_eq_getElem (by omega)]; rfl
  · rw [List.getElem?_eq_none (by omega), List.getElem?_eq_none (by omega)]; simp
theorem co_plus {p : Int} (as bs : List Int) (i : Nat) : co (plusP p as bs) i = (co as i + co bs i) % p := by unfold plusP; rw [co_trim, co_addZ]
theorem plus_tr (p : Int) (as bs : List Int) : trim (plusP p as bs) = plusP p as bs := trim_trim _
theorem addZ_len (p : Int) (as bs : List Int) : (addZ p as bs).length = max as.length bs.length := by
  unfold addZ
  rw [List.length_zipWith, pad_len _ _ (Nat.le_max_left _ _), pad_len _ _ (Nat.le_max_right _ _), Nat.min_self]
theorem plus_len (p : Int) (as bs : List Int) : (plusP p as bs).length ≤ max as.length bs.length := by
  rw [← addZ_len p as bs]; exact trim_len _
theorem addZ_rst {p : Int} (hp : 0 < p) (as bs : List Int) : Rst p (addZ p as bs) := fun z hz => by
  unfold addZ at hz
  obtain ⟨i, hi, e⟩ := List.getElem_of_mem hz
  rw [List.getElem_zipWith] at e
  subst e
  exact ⟨Int.emod_nonneg _ (by omega), Int.emod_lt_of_pos _ hp⟩
theorem plus_rst {p : Int} (hp : 0 < p) (as bs : List Int) : Rst p (plusP p as bs) := (addZ_rst hp as bs).trim
theorem plus_ext {p : Int} {as bs cs ds : List Int} (h : ∀ i, (co as i + co bs i) % p = (co cs i + co ds i) % p) : plusP p as bs = plusP p cs ds := by
  rw [← plus_tr p as bs, ← plus_tr p cs ds]
  exact trim_ext fun i => by rw [co_plus, co_plus]; exact h i
def scaleP (p : Int) (as : List Int) (r : Int) : List Int := trim (as.map fun i => i * r % p)
theorem co_map {f : Int → Int} (h0 : f 0 = 0) (as : List Int) (i : Nat) : co (as.map f) i = f (co as i) := by
  unfold co
  rw [List.getD_eq_getElem?_getD, List.getElem?_map, List.getD_eq_getElem?_getD]
  cases as[i]? <;> simp [h0]
theorem co_scale {p : Int} (as : List Int) (r : Int) (i : Nat) : co (scaleP p as r) i = co as i * r % p := by
  unfold scaleP
  rw [co_trim, co_map (f := fun i => i * r % p) (by simp)]
theorem scale_rst {p : Int} (hp : 0 < p) (as : List Int) (r : Int) : Rst p (scaleP p as r) := Rst.trim fun z hz => by
  obtain ⟨i, _, rfl⟩ := List.mem_map.mp hz
  exact ⟨Int.emod_nonneg _ (by omega), Int.emod_lt_of_pos _ hp⟩
theorem scale_len (p : Int) (as : List Int) (r : Int) : (scaleP p as r).length ≤ as.length := Nat.le_trans (trim_len _) (by simp)
def lessP (p : Int) (as bs : List Int) : List Int := plusP p as (scaleP p bs (p - 1))
def turnP (p : Int) (as : List Int) : List Int := as.map fun i => (p - i) % p
theorem co_turn {p : Int} (as : List Int) (i : Nat) : co (turnP p as) i = (p - co as i) % p := by
  unfold turnP
  rw [co_map (f := fun i => (p - i) % p) (by simp)]
theorem co_less {p : Int} (as bs : List Int) (i : Nat) : co (lessP p as bs) i = (co as i - co bs i) % p := by
  unfold lessP
  rw [co_plus, co_scale, Int.add_emod_emod, show co as i + co bs i * (p - 1) = co as i - co bs i + p * co bs i by rw [Int.mul_sub, Int.mul_one, Int.mul_comm p]; omega, Int.add_mul_emod_self_left]
/-- less is plus the turned one -/
theorem less_turn (p : Int) (as bs : List Int) : lessP p as bs = plusP p as (turnP p bs) := by
  unfold lessP
  refine plus_ext fun i => ?_
  rw [co_scale, co_turn, Int.add_emod_emod, Int.add_emod_emod, show co as i + co bs i * (p - 1) = co as i - co bs i + p * co bs i by rw [Int.mul_sub, Int.mul_one, Int.mul_comm p]; omega, Int.add_mul_emod_self_left]
  rw [show co as i + (p - co bs i) = co as i - co bs i + p * 1 by omega, Int.add_mul_emod_self_left]
theorem co_rst {p : Int} (hp : 0 < p) {as : List Int} (h : Rst p as) (i : Nat) : 0 ≤ co as i ∧ co as i < p := by
  unfold co
  rw [List.getD_eq_getElem?_getD]
  cases e : as[i]? with
  | none => exact ⟨Int.le_refl _, hp⟩
  | some v => exact h v (List.mem_of_getElem? e)
theorem co_mod {p : Int} (hp : 0 < p) {as : List Int} (h : Rst p as) (i : Nat) : co as i % p = co as i := Int.emod_eq_of_lt (co_rst hp h i).1 (co_rst hp h i).2
/-- two polys with the same numbers -/
theorem poly_ext {as bs : List Int} (ha : trim as = as) (hb : trim bs = bs) (h : ∀ i, co as i = co bs i) : as = bs := by rw [← ha, ← hb]; exact trim_ext h
theorem less_plus {p : Int} (hp : 0 < p) {as bs : List Int} (ha : Rst p as) (ht : trim as = as) : lessP p (plusP p as bs) bs = as := by
  refine poly_ext (by unfold lessP; exact plus_tr _ _ _) ht fun i => ?_
  rw [co_less, co_plus, Int.emod_sub_emod, show co as i + co bs i - co bs i = co as i by omega, co_mod hp ha]
end L3

set_option maxRecDepth 100000
set_option maxHeartbeats 1000000
/-! Plain: data of ints, rests. -/
namespace L3
open PySem PySem.Spec L2
theorem inB_int {d : D} {lo hi : Int} (h : inB d lo hi = true) : ∃ i : Int, d = .int i ∧ lo ≤ i ∧ i ≤ hi := by
  cases d <;> simp [inB] at h
  exact ⟨_, rfl, h.1, h.2⟩
theorem intsOf_some : ∀ {ds : List D} {vs : List Int}, intsOf ds = some vs → ds = dI vs
  | [], vs, h => by simp [intsOf] at h; subst h; rfl
  | d :: ds, vs, h => by
    cases d <;> simp [intsOf] at h
    obtain ⟨us, h1, rfl⟩ := h
    rw [intsOf_some h1]; rfl
theorem intsOf_dI : ∀ vs : List Int, intsOf (dI vs) = some vs
  | [] => rfl
  | v :: vs => by
    show (intsOf (dI vs)).map _ = _
    rw [intsOf_dI vs]; rfl
/-- the rests of a line, if it is one -/
def rstO (p : Int) (ds : List D) : Option (List Int) := match intsOf ds with
  | some vs => if vs.all (fun v => decide (0 ≤ v) && decide (v < p)) then some vs else none
  | none => none
theorem rstO_some {p : Int} {ds : List D} {vs : List Int} (h : rstO p ds = some vs) : ds = dI vs ∧ Rst p vs := by
  unfold rstO at h
  split at h
  · rename_i us e
    split at h
    · rename_i c
      cases h
      refine ⟨intsOf_some e, fun z hz => ?_⟩
      have := List.all_eq_true.mp c z hz
      simpa using this
    · cases h
  · cases h
theorem rstO_dI {p : Int} {vs : List Int} (h : Rst p vs) : rstO p (dI vs) = some vs := by
  unfold rstO
  rw [intsOf_dI]
  simp only
  rw [if_pos (List.all_eq_true.mpr fun z hz => by simpa using h z hz)]
theorem all_inB (p : Int) (ds : List D) : ds.all (fun d => inB d 0 (p - 1)) = (rstO p ds).isSome := by
  cases e : rstO p ds with
  | some vs =>
    obtain ⟨rfl, hr⟩ := rstO_some e
    simp only [Option.isSome_some, List.all_eq_true]
    intro d hd
    obtain ⟨i, hi, rfl⟩ := List.mem_map.mp hd
    have := hr i hi
    simp [inB]; omega
  | none =>
    cases c : ds.all (fun d => inB d 0 (p - 1)) with
    | false => rfl
    | true =>
      have : ∀ ds : List D, ds.all (fun d => inB d 0 (p - 1)) = true → ∃ vs, ds = dI vs ∧ Rst p vs := by
        intro ds
        induction ds with
        | nil => exact fun _ => ⟨[], rfl, fun _ z => by cases z⟩
        | cons d ds ih =>
          intro h
          rw [List.all_cons, Bool.and_eq_true] at h
          obtain ⟨i, rfl, h1, h2⟩ := inB_int h.1
          obtain ⟨vs, rfl, hr⟩ := ih h.2
          exact ⟨i :: vs, rfl, fun z hz => by
            rcases List.mem_cons.mp hz with rfl | hz
            · omega
            · exact hr z hz⟩
      obtain ⟨vs, rfl, hr⟩ := this ds c
      rw [rstO_dI hr] at e; cases e
theorem dpts_dI (vs : List Int) (n : Nat) : dpts (dI vs) n = true := dpts_of fun d hd => by
  obtain ⟨i, _, rfl⟩ := List.mem_map.mp hd
  unfold dpt; rfl
theorem eqP_tup_nil (xs : List D) : eqP (.tup xs) (.tup []) = xs.isEmpty := by unfold eqP toP; cases xs <;> rfl
theorem atI_last {ms : List D} (h : ms ≠ []) : atI ms (-1) = some (ms.getLast h) := by
  have hl : 0 < ms.length := List.length_pos_iff.mpr h
  unfold atI ixN
  rw [if_neg (by decide), if_pos (by omega)]
  have e : ((-1 : Int) + ms.length).toNat = ms.length - 1 := by omega
  simp only [e, Option.bind_some]
  rw [List.getLast_eq_getElem]
  exact List.getElem?_eq_getElem (by omega)
theorem atI_lastI {vs : List Int} {v : Int} (e : vs[vs.length - 1]? = some v) : atI (dI vs) (-1) = some (.int v) := by
  have hl : 0 < vs.length := by have := (List.getElem?_eq_some_iff.mp e).1; omega
  have hn : dI vs ≠ [] := fun z => by
    have z2 : vs = [] := by simpa using z
    subst z2; simp at hl
  rw [atI_last hn, List.getLast_eq_getElem]
  have := (List.getElem?_eq_some_iff.mp e).2
  simp [this]
theorem sz1000 {n : Nat} (h : n ≤ 10000) : n ≤ sizeLine := Nat.le_trans h (by decide)
theorem sz100k {n : Nat} (h : n ≤ 100000) : n ≤ sizeLine := Nat.le_trans h (by decide)
theorem eqP_str (a b : Str) : eqP (.str a) (.str b) = decide (a = b) := by
  unfold eqP toP
  simp [PyData.eqv]
  by_cases h : a = b <;> simp [h]
theorem atI_dI {vs : List Int} {m : Nat} {v : Int} (h : vs[m]? = some v) : atI (dI vs) (m : Int) = some (.int v) := atI_nat (by rw [List.getElem?_map, h]; rfl)
theorem cutD_take {xs : List D} {m : Nat} (h : m ≤ xs.length) : cutD xs none (some (m : Int)) = xs.take m := by
  have h1 : ¬ ((m : Int) < 0) := by omega
  have h2 : min m xs.length = m := Nat.min_eq_left h
  simp [cutD, HT.sIx, h1, h2]
theorem call_nb {sp : WF} {rs : List R} {q : R → Prop} {x : Exn → Prop} (hb : nbB rs = true) (h : sp (rs.map R.data) q x) : if nbB rs = true then sp (rs.map R.data) q x else sp (rs.map R.data) (fun r => noLR r = true ∧ q r) x := (if_pos hb : (if nbB rs = true then sp (rs.map R.data) q x else sp (rs.map R.data) (fun r => noLR r = true ∧ q r) x) = sp (rs.map R.data) q x).mpr h
theorem rep_dI (n : Nat) (i : Int) : List.replicate n (D.int i) = dI (List.replicate n i) := by simp
theorem okA_dI (vs : List Int) : okA (.tup (dI vs)) = true := by
  show okAs (dI vs) = true
  induction vs with
  | nil => rfl
  | cons v vs ih => exact ih
theorem wv {δ : De} {i : Nat} {d : D} {q : R → Prop} (h : δ[i]? = some (some (.val d))) : wVar i δ q = q (.val d) := by simp [h]
end L3

set_option maxRecDepth 100000
set_option maxHeartbeats 4000000
/-! The data layer: the law itself: its script, its errors. -/
namespace L3
open PySem PySem.Spec L2
/-- the script is still there -/
structure ScrAt (C : Ct) (a0 : Addr) (ns : List Int) : Prop where
  sq : SqL C.K C.H0 a0 (ns.map V.int)
  nv : ¬ C.W.vol a0
@[simp] def wLenS (i : Nat) (a0 : Addr) (ns : List Int) : WE := fun δ q => δ[i]? = some (some (.val (.obj (.ref a0)))) ∧ q (.val (.int ns.length))
/-- a class of errors, what isinstance says of the caught ones -/
structure ErrX (K : PySem.W.Frag) (mg : Str → Option Value) (cls : Str) (ns : List (Str × Bool)) : Prop where
  ex : ∃ Ca CD, mg cls = some (.ref Ca) ∧ CaughtAt K mg CD ∧ ErrC K mg CD ns (.ref Ca)
section
variable {X : Cx} {C : Ct} {E : XK} {rx : Exn → Prop} {pos p : Pos} {x : Str} {a0 : Addr} {ns : List Int} {d : Dw} {K : PySem.W.Frag} {mg : Str → Option Value}
theorem de_lenS (i : Nat) {pn : Pos} (c : Ctx X C E rx) (S : ScrAt C a0 ns) (hg : Gl X "len") (hm : X.mg "len" = none) (hN : X.N[i]? = some x := by rfl) (hv : Vis X.env.scope x := by first | exact Or.inl rfl | exact Or.inr (Or.inl rfl) | exact Or.inr (Or.inr rfl))
    (hd : (x == ("__debug__" : Str)) = false := by decide) (hcd : (x == ("__classdict__" : Str)) = false := by decide) (he : starEach [Expr.Name x p] X.env = (false, eval (.Name x p) X.env) :: starEach [] X.env := by rfl) (hpl : (backTo pos (starEach [] X.env)).any (·.1) = false := by rfl) : PE X (.Call (.Name "len" pn) [.Name x p] [] pos) (tOf C (wLenS i a0 ns)) :=
  PE.str (pe_callB call_len_seq hg hm (by decide +kernel) (pa_cons (pe_var hN hv hd hcd) pa_nil he) (by decide) (by decide) he hpl) fun σ H Q ⟨G, δ, q, f, ⟨hs, hw⟩, k⟩ => by
    obtain ⟨v, e1, h1⟩ := f.sl i _ hs
    have h1 : v = .ref a0 := h1
    subst h1
    have sq := f.ext.lst f.h0 S.nv S.sq
    rw [c.hK] at sq
    refine ⟨_, e1, a0, _, rfl, .inl sq, ?_⟩
    rw [List.length_map]
    exact k (.int _) (.val (.int _)) H G (.refl f.gh.ok) rfl hw
theorem de_errX {Hz : Hp} {Gz : Gh} {cls : Str} {wb : (Exn → Prop) → WE} {ns : List (Str × Bool)} {params : Arguments} {body : Expr} {scope : Scope} {k j : Nat} {pi p lpos cpos pos pc : Pos} (c : Ctx X ⟨K, wdOf d, Hz, Gz, mg⟩ E rx) (ex : ErrX K mg cls ns)
    (hi : Gl X "isinstance") (hmi : X.mg "isinstance" = none) (hgc : Gl X cls) (hg : Gl X "_law_caught") (cd : CodeAt X.base mg d.tabs X.env.code (X.env.qual ++ "<lambda>")) (hr : Room j X.A) (hkj : k + 2 ≤ j) (L : LamX.LamS X.env.scope scope) (hdef : defaultsOf params X.env = ([], []))
    (hbind : ∀ (q : Str) (cl : List (Str × Addr)) (pm cv ctv : Value), bindArgs (PySem.W.kla_fn "<lambda>" q params body scope cl pm cv ctv) ⟨[], []⟩ = pure [])
    (hbody : ∀ (A : Around) (outer : List Env) (s : Shared) (H : Hp) (E : XK) (f c' : Addr) (H0 : Hp) (G0 : Gh) (rx : Exn → Prop), Room k (A.deeper (LamX.lamEnv X scope s.heap.objs.size f c')) → Ctx (LamX.lamCx X A outer s H E scope f c') ⟨K, wdOf d, H0, G0, mg⟩ E rx → PE (LamX.lamCx X A outer s H E scope f c') body (tOf ⟨K, wdOf d, H0, G0, mg⟩ (wb rx)))
    (hdc : (cls == ("__debug__" : Str)) = false := by decide)
    (he1 : starEach [Expr.Call (.Name "_law_caught" p) [.Lambda params body scope lpos] [] cpos, .Name cls pc] X.env = (false, eval (.Call (.Name "_law_caught" p) [.Lambda params body scope lpos] [] cpos) X.env) :: starEach [.Name cls pc] X.env := by rfl)
    (he2 : starEach [Expr.Name cls pc] X.env = (false, eval (.Name cls pc) X.env) :: starEach [] X.env := by rfl) (hpl : (backTo pos (starEach [Expr.Name cls pc] X.env)).any (·.1) = false := by rfl) :
    PE X (.Call (.Name "isinstance" pi) [.Call (.Name "_law_caught" p) [.Lambda params body scope lpos] [] cpos, .Name cls pc] [] pos) (tOf ⟨K, wdOf d, Hz, Gz, mg⟩ (wErr ns wb)) := by
  obtain ⟨Ca, CD, hm, ct, ec⟩ := ex.ex
  have hm2 : X.mg cls = some (.ref Ca) := by
    have := c.hM
    dsimp only at this
    rw [← this]; exact hm
  exact de_err c ct ec hi hmi (pe_glob (v := .ref Ca) hgc hm2 rfl hdc) (.own Ca) hg cd (hr.mono hkj) L hdef hbind hbody he1 he2 hpl
end
/-- what the law promises -/
def spLaw (K : PySem.W.Frag) (T : List (Addr × Str)) : Sp := fun vs H Q _ => ∃ (a : Addr) (ns : List Int), vs = [.ref a] ∧ SqL K H a (ns.map V.int) ∧ ¬ (wdT T).vol a ∧ ns.length ≤ 63 ∧ (∀ z ∈ ns, Builtin.Int.intBits z ≤ 1048576) ∧ TabOk T H ∧ ∀ H', Q (.bl true) H'
section
variable {P : Program} {w : World} {K : PySem.W.Frag} {mg : Str → Option Value} {base : Heap} {T : List (Addr × Str)}
/-- the law: the draws begin, then the rest in their world -/
theorem law_ok {k n : Nat} {N : List Str} {st s1 : Stmt} {rest : List Stmt} {kb : List (List Str × List Nat)} {wl : Dw → Addr → List Int → WS} (Df : DefAt K mg "law" st ["script"] kb) (S : FnScope N ["script"] (defScope st)) (hN : N.length = n + 2) (eb : defBody st = s1 :: rest) (B : CalX P w K mg base 1 "_law_begun" ["script"] (spBeg K T))
    (h1 : ∀ (f : Addr) (cdv : Value) (A : Around) (outer : List Env) (s : Shared) (H : Hp) (E : XK) (g : Addr) (fd : FuncData), Room k (A.deeper (PyProof.Rows.envOfC "law" (defScope st) s.heap.objs.size f cdv)) → FnOk P w K mg base (CX P w) 1 g fd ["script"] (spBeg K T) → mg "_law_begun" = some (.ref g) → PySem.W.keepIn K (.ref g) = true → Binds K fd ["script"] [] →
      Passes (CX P w) (cxOf (CX P w) P w K mg base N "law" (defScope st) f cdv A outer s H E) E →
      PS (cxOf (CX P w) P w K mg base N "law" (defScope st) f cdv A outer s H E) s1 (tAsg (tCall (spBeg K T) [] E (fun σ H Q => tVar 0 σ H fun v H1 => Q [v] H1)) (gName 1)))
    (h2 : ∀ (f : Addr) (cdv : Value) (A : Around) (outer : List Env) (s : Shared) (H : Hp) (E : XK) (d : Dw) (H0 : Hp) (G0 : Gh) (a : Addr) (ns : List Int), d.tabs = T → ScrAt ⟨K, wdOf d, H0, G0, mg⟩ a ns → Room k (A.deeper (PyProof.Rows.envOfC "law" (defScope st) s.heap.objs.size f cdv)) →
      (∃ oc od dV kV doc pm an ct osl, K.lookup f = some ⟨oc, od, .func (PySem.W.fnOf "law" "law" (defArgs st) (defBody st) (defScope st) dV kV doc pm an cdv ct), osl⟩) → mg "law" = some (.ref f) →
      Ctx (cxOf (CX P w) P w K mg base N "law" (defScope st) f cdv A outer s H E) ⟨K, wdOf d, H0, G0, mg⟩ E (fun _ => False) → Takes (cxOf (CX P w) P w K mg base N "law" (defScope st) f cdv A outer s H E) (fun cls d _ H => E cls d H) →
      PSs (cxOf (CX P w) P w K mg base N "law" (defScope st) f cdv A outer s H E) rest (sOf ⟨K, wdOf d, H0, G0, mg⟩ (wl d a ns)))
    (law : ∀ (d : Dw) (a : Addr) (ns : List Int) (q : EndsD), ns.length ≤ 63 → q.rt (.val (.bl true)) → wl d a ns (some (.val (.obj (.ref a))) :: some (.val (.obj (.ref d.ad))) :: List.replicate n none) q) :
    CalX P w K mg base (k + 1) "law" ["script"] (spLaw K T) := by
  obtain ⟨f, fd, F, hm, hb, _⟩ := Df.ex
  have Fx := F.ex
  have lkk : ∃ oc od osl, K.lookup f = some ⟨oc, od, .func fd, osl⟩ := by
    obtain ⟨oc, od, _, _, _, _, _, _, osl, _, lk, _⟩ := F.ex
    exact ⟨oc, od, osl, lk⟩
  refine ⟨f, fd, ?_, hm, F.kp, hb, lkk⟩
  clear lkk
  obtain ⟨oc, od, kV, doc, pm, an, cdv, ct, osl, rfl, lk, hcd⟩ := Fx
  refine fn_of lk hcd S (fun vs H Q E ⟨a, ns, e, _⟩ => by rw [e]; rfl) fun A outer s H vs Q E hr h => ?_
  obtain ⟨a, ns, rfl, sq, nv, hl, hbits, tk0, kq⟩ := h
  have tk : Takes (cxOf (CX P w) P w K mg base N "law" (defScope st) f cdv A outer s H E) (fun cls d _ H => E cls d H) := takes_of rfl rfl rfl rfl
  have pass : Passes (CX P w) (cxOf (CX P w) P w K mg base N "law" (defScope st) f cdv A outer s H E) E := passes_call tk fun _ _ _ _ h => h
  obtain ⟨g, gd, G1, gm, gk, gb, _⟩ := B.ex
  rw [eb]
  refine ⟨_, pss_cons (h1 f cdv A outer s H E g gd hr G1 gm gk gb pass) (u := fun D σ H1 => ∃ d G0, d.tabs = T ∧ ((SqL K H1 a (ns.map V.int) ∧ a ≠ d.ad ∧ a ≠ d.cl) ∨ ∃ o, K.lookup a = some o) ∧ SqL K H1 a (ns.map V.int) ∧ ¬ (wdT T).vol a ∧ DrawOk d H1 ∧ sOf ⟨K, wdOf d, H1, G0, mg⟩ (wl d a ns) D σ H1) ⟨fun pins s' σ H1 D I ⟨d, G0, et, hor, sqH, nvT, dok, h⟩ => by
    have sc : ScrAt ⟨K, wdOf d, H1, G0, mg⟩ a ns := by
      refine ⟨sqH, ?_⟩
      have ha : a ≠ d.ad ∧ a ≠ d.cl := by
        rcases hor with ⟨_, h⟩ | ⟨o, ho⟩
        · exact h
        · have eb : base.get? a = some o := I.ok.mod.kin a o ho
          obtain ⟨e1, e2⟩ := I.ok.bs a o eb
          have e3 : H1 a = none := I.base.free a o e1 e2 (I.ok.noex a o eb)
          obtain ⟨w1, c1, _, _, e4⟩ := dok.draw
          refine ⟨fun z => ?_, fun z => ?_⟩
          · rw [z, e4] at e3; cases e3
          · rw [z, dok.cells] at e3; cases e3
      rintro (z | z | z)
      · exact ha.1 z
      · exact ha.2 z
      · exact nvT (by rw [et] at z; exact z)
    exact (h2 f cdv A outer s H E d H1 G0 a ns et sc hr ⟨oc, od, _, kV, doc, pm, an, ct, osl, lk⟩ hm ⟨rfl, rfl, rfl, pass, passes_of rfl, fun _ _ _ _ _ _ _ h => h.elim, hr.units⟩ tk).run pins s' σ H1 D I h⟩, ?_⟩
  have hst : ∀ v : V, L2.start N [v] = some v :: none :: List.replicate n none := fun v => by
    unfold L2.start
    rw [hN]
    simp
    rfl
  refine ⟨.ref a, ?_, a, ns, rfl, sq, nv, hl, hbits, tk0, fun d H1 et fad fcl same ok => ?_⟩
  · rw [hst]; rfl
  have sqH : SqL K H1 a (ns.map V.int) := by
    rcases sq with (h | ⟨o, h⟩) | h
    · exact .inl (.inl (same _ _ nv h))
    · exact .inl (.inr ⟨o, same _ _ nv h⟩)
    · exact .inr h
  have hor : (SqL K H1 a (ns.map V.int) ∧ a ≠ d.ad ∧ a ≠ d.cl) ∨ ∃ o, K.lookup a = some o := by
    rcases sq with (h | ⟨o, h⟩) | ⟨o, its, m, h, _⟩
    · exact .inl ⟨sqH, ne_of_none h fad, ne_of_none h fcl⟩
    · exact .inl ⟨sqH, ne_of_none h fad, ne_of_none h fcl⟩
    · exact .inr ⟨o, h⟩
  refine ⟨d, fun _ => none, et, hor, sqH, nv, ok, fun _ => none, some (.val (.obj (.ref a))) :: some (.val (.obj (.ref d.ad))) :: List.replicate n none, { nx := fun _ => False, rt := fun r => r = .val (.bl true) }, ?_, law d a ns _ hl rfl, ?_⟩
  · rw [hst]
    refine ⟨by simp, ⟨fun _ _ z => (nomatch z), ok⟩, ok, .refl ok, fun i s hs => ?_, fun i j ds es v e1 => ?_⟩
    · rcases i with _ | _ | i
      · cases hs; exact ⟨_, rfl, rfl⟩
      · cases hs; exact ⟨_, rfl, rfl⟩
      · simp only [List.getElem?_cons_succ, List.getElem?_replicate] at hs
        split at hs <;> cases hs
    · rcases i with _ | _ | i
      · cases e1
      · cases e1
      · simp only [List.getElem?_cons_succ, List.getElem?_replicate] at e1
        split at e1 <;> cases e1
  · refine ⟨fun _ _ _ _ _ _ z => z.elim, fun _ _ _ _ _ _ z => z.elim, fun _ _ _ _ _ _ z => z.elim, fun v r H' G' e p n q' => ?_⟩
    subst q'
    have p : v = .bl true := p
    subst p
    exact kq H'
end
end L3

set_option maxRecDepth 100000
set_option maxHeartbeats 4000000
/-! The data layer: the law's end. -/
namespace L3
open PySem PySem.Spec PyProof.Rows L2
/-- the end, with what is known of the loose names -/
theorem walk3 {l : PySem.W.OpenLaw} {k : Nat} {q : Program} {loose : List Str} {XP : (Str → Option Value) → Heap → Prop} {YP : World → Heap → Prop} {d : DefRec}
    (h63 : l.most = some 63) (h0 : d.params.defaults = []) (room : Room k callerA)
    (at_ : ∀ (w : World) (mg : Str → Option Value) (fa : Addr) (h : Heap), YP w h → XP mg h → h.Ns mainGlobals mg → mg d.name = some (.ref fa) → ∃ K : PySem.W.Frag, K.In h ∧ LamX.LawAtS l w K (L2.CX l.prog w) k 63 "script" mg fa h) :
    PySem.W.WalkO q loose XP YP l.row.toRowW d [] (fun f vs => PySem.call f vs) := by
  refine Att.attach_callB h63 h0 fun w s₀ s1 mg mb f0 ob pm cd doc a0 vs ns Gr Y _ _ _ m1 o1 i1 l1 b1 g1 => ?_
  obtain ⟨K, KI, fd, cs, sp, t1, n1, c1, bnd, prm, fn⟩ := at_ w mg f0 _ Y Gr.X Gr.T.g m1
  refine LamX.law_callTs KI Gr.T.g Gr.T.b Gr.T.builtins Gr.T.nolimit g1 t1 n1 c1 Gr.T.bmain o1 i1 (Nat.le_trans l1 (by decide)) room fn bnd (fun H e1 e2 => prm H a0 ns l1 b1 e1 e2) fun H e s' z => ?_
  obtain ⟨_, _, _, _, _, _, _, _, _, _, _, _, no⟩ := z
  exact no
theorem law_at3 {l : PySem.W.OpenLaw} {w : World} {K : PySem.W.Frag} {mg : Str → Option Value} {h : Heap} {k : Nat} {fa c P : Addr} {fd : FuncData} {oc : Value} {od : Option Addr} {osl : Array (Option Value)} (hfa : mg "law" = some (.ref fa)) (lk : K.lookup fa = some ⟨oc, od, .func fd, osl⟩)
    (tab : h.get? P = some { cls := .none, data := .fields #[] }) (nT : K.lookup P = none) (hd : PySem.W.CodeHd h c P) (bnd : ∀ (s : Shared) (u : Value), BindsTo s fd ⟨[u], []⟩ [("script", u)])
    (F : ∀ base : Heap, K.In base → base.Ns mainGlobals mg → LamX.TabB base mg c P → CalX l.prog w K mg base k "law" ["script"] (spLaw K [(P, "law.<locals>.<lambda>")])) : LamX.LawAtS l w K (L2.CX l.prog w) k 63 "script" mg fa h := by
  refine ⟨fd, [(c, P)], fun vs H Q _ => (∀ H', Q (.bl true) H') ∧ spLaw K [(P, "law.<locals>.<lambda>")] vs (hideT [(P, "law.<locals>.<lambda>")] H) (fun v _ => v = .bl true) fun _ _ _ => False, fun p hp => ?_, fun p hp => ?_, fun p hp => ?_, bnd, fun H a ns h1 h2 h3 h4 => ?_, fun base k1 k2 k3 => ?_⟩
  · obtain rfl := List.mem_singleton.mp hp; exact tab
  · obtain rfl := List.mem_singleton.mp hp; exact nT
  · obtain rfl := List.mem_singleton.mp hp; exact hd
  · have hP : H P = some (.tbl #[]) := h3 (c, P) (by simp)
    refine ⟨fun _ => rfl, a, ns, rfl, ?_, ?_, h1, h2, ⟨tabs_hideT fun p hp => ?_, fun b ps hb => hideT_tbl hb⟩, fun _ => rfl⟩
    · rcases h4 with (e | ⟨o, e⟩) | e
      · exact .inl (.inl (hideT_keep e (by intro _ z; cases z)))
      · exact .inl (.inr ⟨o, hideT_keep e (by intro _ z; cases z)⟩)
      · exact .inr e
    · intro hv
      have hv : a ∈ [P] := hv
      obtain rfl := List.mem_singleton.mp hv
      rcases h4 with (e | ⟨o, e⟩) | ⟨o, its, m, e, _⟩
      · rw [hP] at e; cases e
      · rw [hP] at e; cases e
      · rw [nT] at e; cases e
    · obtain rfl := List.mem_singleton.mp hp
      exact ⟨#[], hP, by first | trivial | (intro z hz; cases hz) | simp [TriplesOk], fun pos cv z => by cases z⟩
  · obtain ⟨f, fd2, F1, hm, _, _, oc2, od2, osl2, lk2⟩ := (F base k1 k2 (k3 (c, P) (by simp))).ex
    have e : f = fa := by
      have := hm.symm.trans hfa
      cases this; rfl
    subst e
    rw [lk] at lk2
    cases lk2
    exact fnok_hide F1
/-- a def of the top, by the facts that the head finds -/
theorem def_at {K : PySem.W.Frag} {h : Heap} {mg : Str → Option Value} {x : Str} {st : Stmt} {ps : List Str} {kb : List (List Str × List Nat)} {f : Addr} {oc : Value} {od an : Option Addr} {osl : Array (Option Value)} {kV doc pm cdv ct : Value} (X : K.In h) (G : h.Ns mainGlobals mg) (a : PySem.W.nsIn K mainGlobals x = some (some (.ref f)))
    (l : K.lookup f = some ⟨oc, od, .func (PySem.W.fnOf x x (defArgs st) (defBody st) (defScope st) .none kV doc pm an cdv ct), osl⟩) (c : PySem.W.codeIn K cdv x = true) (k : PySem.W.keepIn K (.ref f) = true)
    (b : ∀ (kV doc pm : Value) (an : Option Addr) (cdv ct : Value) (us : List Value), us.length = ps.length → bindArgs (PySem.W.fnOf x x (defArgs st) (defBody st) (defScope st) .none kV doc pm an cdv ct) ⟨us, []⟩ = pure (ps.zip us))
    (hk : ∀ (kV doc pm : Value) (an : Option Addr) (cdv ct : Value), ∀ p ∈ kb, ∀ (s : Shared) (ws : List Value), ws.length = p.1.length → BindsTo s (PySem.W.fnOf x x (defArgs st) (defBody st) (defScope st) .none kV doc pm an cdv ct) ⟨[], p.1.zip ws⟩ (ps.zip (pick p.2 ws))) : DefAt K mg x st ps kb :=
  ⟨⟨f, _, fun_mk l c k, PySem.W.mg_of X G a, (fun_mk l c k).binds b, fun p hp s ws hw => hk _ _ _ _ _ _ p hp s ws hw⟩⟩
end L3

set_option maxRecDepth 100000
set_option maxHeartbeats 4000000
/-! The data layer: defs as values, a local that is one of several defs. -/
namespace L3
open PySem PySem.Spec L2
/-- the value of a def's name -/
def fv (mg : Str → Option Value) (x : Str) : V := match mg x with
  | some (.ref a) => .ref a
  | _ => .non
theorem fv_of {mg : Str → Option Value} {x : Str} {a : Addr} (h : mg x = some (.ref a)) : fv mg x = .ref a := by unfold fv; rw [h]
def wCallV (mg : Str → Option Value) (i : Nat) (tbl : List (Str × WF)) (wr : WA) (rx : Exn → Prop) : WE := fun δ q => ∃ p ∈ tbl, δ[i]? = some (some (.val (.obj (fv mg p.1)))) ∧ wCall p.2 wr rx δ q
structure Can (P : Program) (w : World) (K : PySem.W.Frag) (mg : Str → Option Value) (base : Heap) (W : Wd) (j : Nat) (x : Str) (sp : WF) : Prop where
  ex : ∃ k ps kb n, k ≤ j ∧ Cal3 P w K mg base W k x ps kb sp n
section
variable {X : Cx} {C : Ct} {E : XK} {rx : Exn → Prop} {e : Expr} {es : List Expr} {wr : WA} {pos p : Pos} {sp : WF} {n k j : Nat} {x : Str} {ps : List Str}
theorem de_fn {kb : List (List Str × List Nat)} {P : Program} {w : World} {base : Heap} {W : Wd} (c : Ctx X C E rx) (F : Cal3 P w C.K C.mg base W k x ps kb sp n) (hg : Gl X x) (hdb : (x == ("__debug__" : Str)) = false := by decide) : PE X (.Name x pos) (tOf C (wC (.obj (fv C.mg x)))) := by
  obtain ⟨f, fd, F1, hm, hk, hb, _⟩ := F.ex
  rw [fv_of hm]
  exact de_glob (v := .ref f) hg (by rw [← c.hM]; exact hm) rfl (fun _ _ => rfl) hdb
theorem de_cv {tbl : List (Str × WF)} (i : Nat) (c : Ctx X C E rx) (F : ∀ p ∈ tbl, Can X.prog X.w C.K C.mg X.base C.W j p.1 p.2) (hr : Room j X.A) (ha : PA X (e :: es) (aOf C wr)) (hN : X.N[i]? = some x := by rfl) (hv : Vis X.env.scope x := by first | exact Or.inl rfl | exact Or.inr (Or.inl rfl) | exact Or.inr (Or.inr rfl))
    (hdb : (x == ("__debug__" : Str)) = false := by decide) (hcd : (x == ("__classdict__" : Str)) = false := by decide) (he : starEach (e :: es) X.env = (false, eval e X.env) :: starEach es X.env := by rfl)
    (hpl : (backTo pos (starEach es X.env)).any (·.1) = false := by rfl) : PE X (.Call (.Name x p) (e :: es) [] pos) (tOf C (wCallV C.mg i tbl wr rx)) := by
  refine ⟨fun pins s σ H Q I h => ?_⟩
  obtain ⟨G, δ, q, f, ⟨t, ht, hs, hw⟩, kk⟩ := h
  obtain ⟨k, ps, kb, n, hkj, F3⟩ := (F t ht).ex
  obtain ⟨fa, fd, F1, hm, hk, hb, _⟩ := F3.ex
  obtain ⟨v, e1, h1⟩ := f.sl i _ hs
  have h1 : v = fv C.mg t.1 := h1
  rw [fv_of hm] at h1
  subst h1
  have eK := c.hK
  have eM := c.hM
  obtain ⟨K, W, H0, G0, mg⟩ := C
  dsimp only at eK eM
  subst eK eM
  refine (pe_callL (i := i) (f := fa) (dvs := []) F1 (hr.mono hkj) hN hv hk hb .nil c.pass ha hdb hcd he hpl).run pins s σ H Q I ⟨e1, ?_⟩
  exact call_run (dvs := []) (dds := []) c.lnk (fun _ _ => rfl) F3.len σ H Q ⟨G, δ, q, f, by simpa [wCall] using hw, kk⟩
end
end L3

set_option maxRecDepth 100000
set_option maxHeartbeats 4000000
/-! The data layer: defs with defaults. -/
namespace L3
open PySem PySem.Spec L2
/-- a def with defaults: where it stands -/
structure DefAtD (K : PySem.W.Frag) (mg : Str → Option Value) (x : Str) (st : Stmt) (ps : List Str) (dvs : List V) : Prop where
  ex : ∃ f fd, FunD K x x (defArgs st) (defBody st) (defScope st) dvs [] f fd ∧ mg x = some (.ref f) ∧ Binds K fd ps [] ∧ ∃ ds, Vals dvs ds ∧ Binds K fd ps ds
/-- .. that keeps its promise, the last parameters left out -/
structure CalD (P : Program) (w : World) (K : PySem.W.Frag) (mg : Str → Option Value) (base : Heap) (W : Wd) (k : Nat) (x : Str) (ps : List Str) (dds : List D) (sp : WF) (n : Nat) : Prop where
  ex : ∃ f fd dvs ds, FnOk P w K mg base (CX P w) k f fd ps (spW K W mg sp n) ∧ mg x = some (.ref f) ∧ PySem.W.keepIn K (.ref f) = true ∧ Binds K fd ps ds ∧ Vals dvs ds ∧ ∀ H G, Ats K W H G dds dvs
  len : ∀ ds q x, sp ds q x → ds.length = n
section
variable {P : Program} {w : World} {K : PySem.W.Frag} {mg : Str → Option Value} {base : Heap} {W : Wd}
theorem dokD {x : Str} {st : Stmt} {N ps : List Str} {k n : Nat} {sp : WF} {wf : (Exn → Prop) → WS} {dvs : List V} {dds : List D} (Df : DefAtD K mg x st ps dvs) (S : FnScope N ps (defScope st)) (hn : n = ps.length) (len : ∀ ds q x, sp ds q x → ds.length = n) (hdv : ∀ H G, Ats K W H G dds dvs)
    (body : ∀ (f : Addr) (cdv : Value) (A : Around) (outer : List Env) (s : Shared) (H : Hp) (G : Gh) (E : XK) (rx : Exn → Prop), Room k (A.deeper (PyProof.Rows.envOfC x (defScope st) s.heap.objs.size f cdv)) → Ctx (cxOf (CX P w) P w K mg base N x (defScope st) f cdv A outer s H E) ⟨K, W, H, G, mg⟩ E rx →
      Takes (cxOf (CX P w) P w K mg base N x (defScope st) f cdv A outer s H E) (fun cls d _ H => E cls d H) → PSs (cxOf (CX P w) P w K mg base N x (defScope st) f cdv A outer s H E) (defBody st) (sOf ⟨K, W, H, G, mg⟩ (wf rx)))
    (law : ∀ ds q x, sp ds q x → wf x (startD N.length ds) { nx := fun _ => q (.val .non), rt := q }) : Cal3 P w K mg base W (k + 1) x ps [] sp n ∧ CalD P w K mg base W (k + 1) x ps dds sp n := by
  obtain ⟨f, fd, F, hm, hb, ds, hv, hb2⟩ := Df.ex
  have ok : FnOk P w K mg base (CX P w) (k + 1) f fd ps (spW K W mg sp n) := F.ok S (spW_len hn) (fun cdv A outer s H vs Q E hr h => by
    obtain ⟨G, ds, q, rx, g, a, hl, hsp, kq, kx⟩ := h
    have tk : Takes (cxOf (CX P w) P w K mg base N x (defScope st) f cdv A outer s H E) (fun cls d _ H => E cls d H) := takes_of rfl rfl rfl rfl
    refine ⟨_, body f cdv A outer s H G E rx hr ⟨rfl, rfl, rfl, passes_call tk fun _ _ _ _ h => h, passes_of rfl, fun z cls d H' G' e hz hx => kx z cls d H' G' e hz hx, hr.units⟩ tk, G, startD N.length ds, _, start_frm g a, law ds q rx hsp, ?_⟩
    exact ⟨fun σ' H' G' δ' f' _ q' => kq .non (.val .non) H' G' f'.ext rfl trivial q', fun _ _ _ _ _ _ z => z.elim, fun _ _ _ _ _ _ z => z.elim, fun v r H' G' e p n q' => kq v r H' G' e p n q'⟩)
  exact ⟨⟨⟨f, fd, ok, hm, F.kp, hb, fun p hp => (List.not_mem_nil hp).elim⟩, len⟩, ⟨⟨f, fd, dvs, ds, ok, hm, F.kp, hb2, hv, hdv⟩, len⟩⟩
end
section
variable {X : Cx} {C : Ct} {E : XK} {rx : Exn → Prop} {e : Expr} {es : List Expr} {wr : WA} {pos p : Pos} {sp : WF} {n k j : Nat} {x : Str} {ps : List Str}
theorem de_cD {dds : List D} (c : Ctx X C E rx) (F : CalD X.prog X.w C.K C.mg X.base C.W k x ps dds sp n) (hr : Room j X.A) (hkj : k ≤ j) (hg : Gl X x) (ha : PA X (e :: es) (aOf C wr)) (hdb : (x == ("__debug__" : Str)) = false := by decide) (he : starEach (e :: es) X.env = (false, eval e X.env) :: starEach es X.env := by rfl)
    (hpl : (backTo pos (starEach es X.env)).any (·.1) = false := by rfl) : PE X (.Call (.Name x p) (e :: es) [] pos) (tOf C (wCallD sp wr dds rx)) := by
  obtain ⟨f, fd, dvs, ds, F1, hm, hk, hb, hv, hdv⟩ := F.ex
  have e := c.hK
  have e2 := c.hM
  obtain ⟨K, W, H0, G0, mg⟩ := C
  dsimp only at e e2
  subst e e2
  exact de_callD c F1 F.len hdv hv (hr.mono hkj) hg hm hk hb ha hdb he hpl
end
@[simp] theorem wCallD_eq {sp : WF} {wr : WA} {dds : List D} {rx : Exn → Prop} : wCallD sp wr dds rx = fun δ q => wr δ fun rs => if nbB rs = true then sp (rs.map R.data ++ dds) q rx else sp (rs.map R.data ++ dds) (fun r => noLR r = true ∧ q r) rx := rfl
/-- a def with one default of the top, by the facts that the head finds -/
theorem def_atD {K : PySem.W.Frag} {h : Heap} {mg : Str → Option Value} {x y : Str} {st : Stmt} {ps : List Str} {f T : Addr} {oc : Value} {od an to_ : Option Addr} {osl ts : Array (Option Value)} {kV doc pm cdv ct : Value} {tn : Nat} {tk : Tok} (X : K.In h) (G : h.Ns mainGlobals mg) (a : PySem.W.nsIn K mainGlobals x = some (some (.ref f)))
    (l : K.lookup f = some ⟨oc, od, .func (PySem.W.fnOf x x (defArgs st) (defBody st) (defScope st) (.ref T) kV doc pm an cdv ct), osl⟩) (c : PySem.W.codeIn K cdv x = true) (k : PySem.W.keepIn K (.ref f) = true)
    (lT : K.lookup T = some ⟨.type "tuple", to_, .seq #[.str y tk] tn, ts⟩)
    (b : ∀ (j : Nat), j ≤ 1 → ∀ (T : Addr) (kV doc pm : Value) (an : Option Addr) (cdv ct : Value) (us its : List Value), us.length + (1 - j) = ps.length → its.length = 1 →
      ∃ k, bindArgs (PySem.W.fnOf x x (defArgs st) (defBody st) (defScope st) (.ref T) kV doc pm an cdv ct) ⟨us, []⟩ = seqItems? (.ref T) >>= k ∧ k (some its.toArray) = pure (ps.zip (us ++ its.drop j))) (hp : 1 ≤ ps.length) : DefAtD K mg x st ps [.str y] := by
  have F : FunD K x x (defArgs st) (defBody st) (defScope st) [.str y] [] f _ := ⟨⟨oc, od, .ref T, kV, doc, pm, an, cdv, ct, osl, rfl, l, c, .inr ⟨by simp, T, _, [.str y tk], tn, rfl, lT, rfl, .cons ⟨tk, rfl⟩ .nil⟩, .inl rfl⟩, k⟩
  obtain ⟨ds1, v1, b1⟩ := F.binds1 (ps := ps) ps.length 1 (by simp) (by simp) (fun T kV doc pm an cdv ct us its h1 h2 => b 1 (by decide) T kV doc pm an cdv ct us its (by omega) (by simpa using h2))
  obtain ⟨ds2, v2, b2⟩ := F.binds1 (ps := ps) (ps.length - 1) 0 (by simp) (by simp; omega) (fun T kV doc pm an cdv ct us its h1 h2 => b 0 (by decide) T kV doc pm an cdv ct us its (by omega) (by simpa using h2))
  have e1 : ds1 = [] := by cases v1; rfl
  subst e1
  exact ⟨f, _, F, PySem.W.mg_of X G a, b1, ds2, v2, b2⟩
end L3

set_option maxRecDepth 100000
set_option maxHeartbeats 4000000
namespace My
open PySem PySem.Spec L2 L3
def top (i : Nat) : Stmt := PySem.Challenge.pw_rootsbydigits_k02_whole_sums_of_polys.main.body.getD i (.Pass ⟨0, 0, 0, 0⟩)
abbrev s__law_begun : Stmt := top 26
abbrev s__law_kinds : Stmt := top 31
abbrev s__law_says : Stmt := top 32
abbrev s__law_mixed : Stmt := top 27
abbrev s__law_take : Stmt := top 28
abbrev s__law_pick : Stmt := top 29
abbrev s__law_no_poly : Stmt := top 38
abbrev s__law_prime : Stmt := top 34
abbrev s__law_cut : Stmt := top 36
abbrev s__law_rests : Stmt := top 35
abbrev s__law_poly : Stmt := top 37
abbrev s__law_plus : Stmt := top 39
abbrev s_is_whole : Stmt := top 8
abbrev s_is_prime : Stmt := top 10
abbrev s_need_prime : Stmt := top 11
abbrev s_is_within : Stmt := top 9
abbrev s_is_rest : Stmt := top 12
abbrev s_is_poly_of : Stmt := top 16
abbrev s_need_poly : Stmt := top 17
abbrev s_need_both : Stmt := top 21
abbrev s_trimmed : Stmt := top 15
abbrev s_plus_by : Stmt := top 18
abbrev s_poly_sum : Stmt := top 23
abbrev s_scaled : Stmt := top 19
abbrev s_minus_by : Stmt := top 20
abbrev s_poly_less : Stmt := top 24
abbrev s_is_poly : Stmt := top 22
abbrev s__law_no_prime : Stmt := top 33
structure Txt (K : PySem.W.Frag) (mg : Str → Option Value) : Prop where
  b_all : mg "all" = none
  b_bool : mg "bool" = none
  b_dict : mg "dict" = none
  b_int : mg "int" = none
  b_isinstance : mg "isinstance" = none
  b_len : mg "len" = none
  b_list : mg "list" = none
  b_max : mg "max" = none
  b_min : mg "min" = none
  b_range : mg "range" = none
  b_repr : mg "repr" = none
  b_str : mg "str" = none
  b_tuple : mg "tuple" = none
  b_zip : mg "zip" = none
  k_MOST_NUMBERS : ∃ t, mg "MOST_NUMBERS" = some (.int 200 t)
  k_PRIMES : KTup K mg "PRIMES" [2, 3, 5, 7]
  x_BadOne : ∃ Ca bm, PySem.ExcBaseFacts "ValueError" "ValueError.__new__" "ValueError.__init__" bm ∧ ExcF K mg "BadOne" Ca bm
  x_BadOther : ∃ Ca bm, PySem.ExcBaseFacts "ValueError" "ValueError.__new__" "ValueError.__init__" bm ∧ ExcF K mg "BadOther" Ca bm
  x_BadPoly : ∃ Ca bm, PySem.ExcBaseFacts "ValueError" "ValueError.__new__" "ValueError.__init__" bm ∧ ExcF K mg "BadPoly" Ca bm
  x_BadPrime : ∃ Ca bm, PySem.ExcBaseFacts "ValueError" "ValueError.__new__" "ValueError.__init__" bm ∧ ExcF K mg "BadPrime" Ca bm
abbrev K_MOST_NUMBERS : D := .int 200
abbrev K_PRIMES : D := .tup (([2, 3, 5, 7] : List Int).map D.int)
end My

set_option maxRecDepth 100000
set_option maxHeartbeats 4000000
namespace My
open PySem PySem.Spec L2 L3
section
variable {P : Program} {w : World} {K : PySem.W.Frag} {mg : Str → Option Value} {base : Heap} {W : Wd}
abbrev kb__law_begun : List (List Str × List Nat) := []
theorem ok__law_begun {TT : List (Addr × Str)} (D : DefAt K mg "_law_begun" s__law_begun ["script"] kb__law_begun) (T : Txt K mg) : CalX P w K mg base 1 "_law_begun" ["script"] (spBeg K TT) :=
  have S : FnScope ["script", "whole", "cells", "cell"] ["script"] (defScope s__law_begun) := ⟨rfl, rfl, rfl, by decide +kernel, rfl, by decide +kernel, by decide +kernel⟩
  have nd := S.nd
  beg_ok D S rfl
    (fun f cdv A outer s H E H0 G0 rx c => (ds_par (i := 1) (j := 2) c.calm nd de_int (de_lst da_nil)))
    (fun f cdv A outer s H E H0 G0 rx a ns hq nv c => ds_forS 0 c hq nv (dg_name 3 nd) (dss_one (ds_if (dt_tru c.hK (de_isi .int c.hK rfl T.b_isinstance rfl T.b_int (by decide +kernel) (ha := (de_var 3))))
      (dss_cons (ds_if (dt_cmpC c_ge (de_var 3) (de_pow de_int de_int)) (dss_one (ds_set 1 nd (de_add c.hK (de_mulB (de_var 1) (de_add c.hK (de_sub (de_var 3) (de_pow de_int de_int)) de_int)) (de_sub (de_var 3) (de_pow de_int de_int))))) dss_nil) (dss_one (ds_app 2 (de_var 3)))) dss_nil)))
    (fun f cdv A outer s H E => ps_ret (pe_disp (pps_cons pe_str (pe_var (i := 1) rfl (.inl rfl)) (pps_cons pe_str (pe_var (i := 2) rfl (.inl rfl)) (pps_cons pe_str pe_int pps_nil))) rfl rfl (by simp) (by decide)))
end
end My

set_option maxRecDepth 100000
set_option maxHeartbeats 4000000
namespace My
open PySem PySem.Spec L2 L3
section
variable {P : Program} {w : World} {K : PySem.W.Frag} {mg : Str → Option Value} {base : Heap} {W : Wd}
abbrev kb__law_kinds : List (List Str × List Nat) := []
mutual
/-- the kinds within, as the law tells them -/
def knd : D → List D
  | .non => [.str "None"]
  | .bl b => [.str (if b then "True" else "False")]
  | .int _ => [.str "number"]
  | .str _ => [.str "string"]
  | .lst ds => .str "list" :: knds ds
  | .tup ds => .str "tuple" :: knds ds
  | _ => []
def knds : List D → List D
  | [] => []
  | d :: ds => knds ds ++ knd d
end
mutual
/-- how much there is -/
def nsz : D → Nat
  | .lst ds => 1 + nszs ds
  | .tup ds => 1 + nszs ds
  | _ => 1
def nszs : List D → Nat
  | [] => 0
  | d :: ds => nsz d + nszs ds
end
theorem knds_app : ∀ as bs : List D, knds (as ++ bs) = knds bs ++ knds as
  | [], bs => by simp [knds]
  | a :: as, bs => by simp only [List.cons_append, knds, knds_app as bs, List.append_assoc]
theorem nszs_app : ∀ as bs : List D, nszs (as ++ bs) = nszs as + nszs bs
  | [], bs => by simp [nszs]
  | a :: as, bs => by simp only [List.cons_append, nszs, nszs_app as bs, Nat.add_assoc]
theorem nsz_pos (d : D) : 1 ≤ nsz d := by cases d <;> simp [nsz]
theorem nszs_len : ∀ ds : List D, ds.length ≤ nszs ds
  | [] => by simp [nszs]
  | d :: ds => by have h1 := nsz_pos d; have h2 := nszs_len ds; simp [nszs]; omega
theorem dpts_app {as bs : List D} {n : Nat} : dpts (as ++ bs) n = true ↔ dpts as n = true ∧ dpts bs n = true := by
  induction as with
  | nil => simp [dpts]
  | cons a as ih => simp only [List.cons_append, dpts, Bool.and_eq_true, ih, and_assoc]
mutual
theorem knd_len : ∀ d : D, (knd d).length ≤ nsz d
  | .non => by simp [knd, nsz]
  | .bl b => by simp [knd, nsz]
  | .int _ => by simp [knd, nsz]
  | .str _ => by simp [knd, nsz]
  | .lst ds => by have := knds_len ds; simp [knd, nsz]; omega
  | .tup ds => by have := knds_len ds; simp [knd, nsz]; omega
  | .dct => by simp [knd, nsz]
  | .obj _ => by simp [knd, nsz]
theorem knds_len : ∀ ds : List D, (knds ds).length ≤ nszs ds
  | [] => by simp [knds, nszs]
  | d :: ds => by have h1 := knd_len d; have h2 := knds_len ds; simp [knds, nszs]; omega
end
def sp__law_kinds : WF := fun ds q x => match ds with
  | [d] => dpt d 30 = true ∧ nsz d ≤ 1000000 ∧ q (.own (knd d))
  | _ => False

theorem len__law_kinds : ∀ ds q x, sp__law_kinds ds q x → ds.length = 1 := by
  intro ds q x h
  unfold sp__law_kinds at h
  split at h
  · rfl
  · exact h.elim
def W__law_kinds (rx : Exn → Prop) : WS :=
    (wSeq (wPar 1 2 (wLst wNil) (wLst (wCons (wVar 0) wNil)))
    (wSeq (wWhile (wTst (wOp (eqW true) (wVar 2) (wLst wNil))) (wSeq (wPop 3 2)
    (wIfS (wOrT (wTru (wIsi .bool (wVar 3))) (wTst (wOp (isNonW false) (wVar 3) (wC .non)))) (wApp 1 (wCB reprW (wCons (wVar 3) wNil))) (wIfS (wTru (wIsi .int (wVar 3))) (wApp 1 (wC (.str "number"))) (wIfS (wTru (wIsi .str (wVar 3))) (wApp 1 (wC (.str "string"))) (wIfS (wOrT (wTru (wIsi .list (wVar 3))) (wTru (wIsi .tuple (wVar 3)))) (wSeq (wApp 1 (wIf (wTru (wIsi .list (wVar 3))) (wC (.str "list")) (wC (.str "tuple"))))
    (wSet 2 (wOp addW (wVar 2) (wCB listW (wCons (wVar 3) wNil))))) (wIfS (wTru (wIsi .dict (wVar 3))) (wSeq (wApp 1 (wC (.str "dict")))
    (fun _ _ => False)) (wApp 1 (wC (.str "other"))))))))))
    (wRet (wVar 1))))

theorem law__law_kinds : ∀ ds q x, sp__law_kinds ds q x → W__law_kinds x (startD 5 ds) { nx := fun _ => q (.val .non), rt := q } := by
  intro ds q x h
  unfold sp__law_kinds at h
  split at h
  rotate_left
  · exact h.elim
  rename_i d
  obtain ⟨hd, hz, h⟩ := h
  simp [W__law_kinds, stD, List.set]
  refine ⟨fun m δ => ∃ (found line : List D) (b3 b4 : Option Sl), δ = [some (.val d), some (.own found), some (.own line), b3, b4] ∧ m = nszs line ∧ found ++ knds line = knd d ∧ found.length + nszs line ≤ 1000000 ∧ dpts line 30 = true, ⟨_, [], [d], none, none, rfl, rfl, by simp [knds], by simp [nszs]; exact hz, by simp [dpts]; exact hd⟩, ?_⟩
  rintro m δ ⟨found, line, b3, b4, rfl, rfl, hk, hs, hl⟩
  have hnil : dpts [] 39 = true := by unfold dpts; rfl
  have hl9 : dpts line 39 = true := dpts_mono line (by decide) hl
  have big : ∀ {n : Nat}, n ≤ 1000000 → n < sizeLine := fun hn => Nat.lt_of_le_of_lt hn (by decide)
  rcases List.eq_nil_or_concat line with rfl | ⟨init, one, rfl⟩
  · simp [dpt, hnil, eqP_lst_nil, knds] at hk ⊢
    rw [hk]
    exact h
  · rw [List.concat_eq_append] at *
    have hl2 := dpts_app.mp hl
    have hone : dpt one 30 = true := dpts_mem hl2.2 one (by simp)
    rw [nszs_app, show nszs [one] = nsz one by simp [nszs]] at hs
    rw [knds_app, show knds [one] = knd one by simp [knds]] at hk
    have hpos := nsz_pos one
    have hf : found.length < sizeLine := big (by omega)
    have hlen := nszs_len init
    simp [dpt, hnil, eqP_lst_nil, hl9, stD, List.set]
    have he : (init ++ [one]).isEmpty = false := by cases init <;> rfl
    rw [he, nszs_app, show nszs [one] = nsz one by simp [nszs]]
    simp only [Bool.not_false]
    cases one <;> simp [knd, nsz, dpt] at hk hs hone ⊢
    · exact ⟨hf, nszs init, by omega, _, _, ⟨rfl, rfl⟩, rfl, by rw [← hk]; simp, by simp; omega, hl2.1⟩
    · exact ⟨hf, nszs init, by omega, _, _, ⟨rfl, rfl⟩, rfl, by rw [← hk]; simp, by simp; omega, hl2.1⟩
    · exact ⟨hf, nszs init, by omega, _, _, ⟨rfl, rfl⟩, rfl, by rw [← hk]; simp, by simp; omega, hl2.1⟩
    · exact ⟨hf, nszs init, by omega, _, _, ⟨rfl, rfl⟩, rfl, by rw [← hk]; simp, by simp; omega, hl2.1⟩
    all_goals
      rename_i ds
      have hdl := nszs_len ds
      refine ⟨hf, Nat.le_of_lt (big (by omega)), nszs (init ++ ds), by rw [nszs_app]; omega, _, _, ⟨rfl, rfl⟩, rfl, by rw [← hk, knds_app]; simp, by rw [nszs_app]; simp; omega, dpts_app.mpr ⟨hl2.1, dpts_mono ds (by decide) hone⟩⟩

theorem sc__law_kinds : FnScope ["thing", "found", "line", "one", "key"] ["thing"] (defScope s__law_kinds) := ⟨rfl, rfl, rfl, by decide +kernel, rfl, by decide +kernel, by decide +kernel⟩
theorem ok__law_kinds (D : DefAt K mg "_law_kinds" s__law_kinds ["thing"] kb__law_kinds) (T : Txt K mg) : Cal3 P w K mg base W 1 "_law_kinds" ["thing"] kb__law_kinds sp__law_kinds 1 :=
  have nd := sc__law_kinds.nd
  dok (N := ["thing", "found", "line", "one", "key"]) (wf := W__law_kinds) D sc__law_kinds rfl len__law_kinds (fun f cdv A outer s H G E rx hr c tk => (dss_cons (ds_par (i := 1) (j := 2) c.calm nd (de_lst da_nil) (de_lst (da_cons (de_var 0) da_nil)))
      (dss_cons (ds_while c (dt_cmpC (c_ne c.hu c.hK) (de_var 2) (de_lst da_nil)) (dss_cons (ds_pop 3 2 nd)
      (dss_one (ds_if (dt_pw (dw_or (dt_tru c.hK (de_isi .bool c.hK rfl T.b_isinstance rfl T.b_bool (by decide +kernel) (ha := (de_var 3)))) (dw_or1 (dt_cmpC c_is (de_var 3) de_non)))) (dss_one (ds_app 1 (de_callB cr_repr (cd_repr) rfl T.b_repr (by decide +kernel) (da_cons (de_var 3) da_nil)))) (dss_one (ds_if (dt_tru c.hK (de_isi .int c.hK rfl T.b_isinstance rfl T.b_int (by decide +kernel) (ha := (de_var 3)))) (dss_one (ds_app 1 de_str)) (dss_one (ds_if (dt_tru c.hK (de_isi .str c.hK rfl T.b_isinstance rfl T.b_str (by decide +kernel) (ha := (de_var 3)))) (dss_one (ds_app 1 de_str)) (dss_one (ds_if (dt_pw (dw_or (dt_tru c.hK (de_isi .list c.hK rfl T.b_isinstance rfl T.b_list (by decide +kernel) (ha := (de_var 3)))) (dw_or1 (dt_tru c.hK (de_isi .tuple c.hK rfl T.b_isinstance rfl T.b_tuple (by decide +kernel) (ha := (de_var 3))))))) (dss_cons (ds_app 1 (de_if (dt_tru c.hK (de_isi .list c.hK rfl T.b_isinstance rfl T.b_list (by decide +kernel) (ha := (de_var 3)))) de_str de_str))
      (dss_one (ds_set 2 nd (de_add c.hK (de_var 2) (de_callTy call_list_of (cd_list c.hK) rfl T.b_list (by decide +kernel) (da_cons (de_var 3) da_nil)))))) (dss_one (ds_if (dt_tru c.hK (de_isi .dict c.hK rfl T.b_isinstance rfl T.b_dict (by decide +kernel) (ha := (de_var 3)))) (dss_cons (ds_app 1 de_str)
      (dss_one ds_never)) (dss_one (ds_app 1 de_str))))))))))))))
      (dss_one (ds_ret (de_var 1)))))) law__law_kinds

end
end My

set_option maxRecDepth 100000
set_option maxHeartbeats 4000000
namespace My
open PySem PySem.Spec L2 L3
section
variable {P : Program} {w : World} {K : PySem.W.Frag} {mg : Str → Option Value} {base : Heap} {W : Wd}
abbrev kb__law_says : List (List Str × List Nat) := []
def sp__law_says : WF := fun ds q x => match ds with
  | [a, b] => a = b ∧ dpt a 30 = true ∧ nsz a ≤ 1000000 ∧ q (.val (.bl true))
  | _ => False
mutual
theorem knd_dpt : ∀ d : D, dpts (knd d) 39 = true
  | .non => by simp [knd, dpts, dpt]; decide +kernel
  | .bl b => by cases b <;> simp [knd, dpts, dpt] <;> decide +kernel
  | .int _ => by simp [knd, dpts, dpt]; decide +kernel
  | .str _ => by simp [knd, dpts, dpt]; decide +kernel
  | .lst ds => by simp only [knd, dpts, dpt, knds_dpt ds, Bool.and_true]; decide +kernel
  | .tup ds => by simp only [knd, dpts, dpt, knds_dpt ds, Bool.and_true]; decide +kernel
  | .dct => by simp [knd, dpts]
  | .obj _ => by simp [knd, dpts]
theorem knds_dpt : ∀ ds : List D, dpts (knds ds) 39 = true
  | [] => by simp [knds, dpts]
  | d :: ds => by simp only [knds]; exact dpts_app.mpr ⟨knds_dpt ds, knd_dpt d⟩
end

theorem len__law_says : ∀ ds q x, sp__law_says ds q x → ds.length = 2 := by
  intro ds q x h
  unfold sp__law_says at h
  split at h
  · rfl
  · exact h.elim
def W__law_says (rx : Exn → Prop) : WS :=
    (wRet (wAnd (wOp (eqW false) (wCall sp__law_kinds (wCons (wVar 0) wNil) rx) (wCall sp__law_kinds (wCons (wVar 1) wNil) rx)) (wOp (eqW false) (wVar 0) (wVar 1))))

theorem law__law_says : ∀ ds q x, sp__law_says ds q x → W__law_says x (startD 2 ds) { nx := fun _ => q (.val .non), rt := q } := by
  intro ds q x h
  unfold sp__law_says at h
  split at h
  rotate_left
  · exact h.elim
  rename_i a b
  obtain ⟨rfl, hd, hz, h⟩ := h
  have h40 : dpt a 40 = true := dpt_mono a (by decide) hd
  simp [W__law_says, sp__law_kinds, hd, hz, dpt, knd_dpt, eqP_self, h40]
  exact h

theorem sc__law_says : FnScope ["told", "due"] ["told", "due"] (defScope s__law_says) := ⟨rfl, rfl, rfl, by decide +kernel, rfl, by decide +kernel, by decide +kernel⟩
theorem ok__law_says (D : DefAt K mg "_law_says" s__law_says ["told", "due"] kb__law_says) (T : Txt K mg) (F__law_kinds : Cal3 P w K mg base W 1 "_law_kinds" ["thing"] kb__law_kinds sp__law_kinds 1) : Cal3 P w K mg base W 2 "_law_says" ["told", "due"] kb__law_says sp__law_says 2 :=
  have nd := sc__law_says.nd
  dok (N := ["told", "due"]) (wf := W__law_says) D sc__law_says rfl len__law_says (fun f cdv A outer s H G E rx hr c tk => (dss_one (ds_ret (de_and (de_cmpC (c_eq c.hu c.hK) (de_c c F__law_kinds hr (by decide) rfl (da_cons (de_var 0) da_nil)) (de_c c F__law_kinds hr (by decide) rfl (da_cons (de_var 1) da_nil))) (de_one (de_cmpC (c_eq c.hu c.hK) (de_var 0) (de_var 1))))))) law__law_says

end
end My

set_option maxRecDepth 100000
set_option maxHeartbeats 4000000
namespace My
open PySem PySem.Spec L2 L3
section
variable {P : Program} {w : World} {K : PySem.W.Frag} {mg : Str → Option Value} {base : Heap} {W : Wd}
abbrev kb__law_mixed : List (List Str × List Nat) := []
theorem ok__law_mixed {d : Dw} (D : DefAt K mg "_law_mixed" s__law_mixed ["draw"] kb__law_mixed) (T : Txt K mg) : CalX P w K mg base 1 "_law_mixed" ["draw"] (spMix d) :=
  have S : FnScope ["draw", "found", "cell"] ["draw"] (defScope s__law_mixed) := ⟨rfl, rfl, rfl, by decide +kernel, rfl, by decide +kernel, by decide +kernel⟩
  mix_ok D S rfl
    (fun f cdv A outer s H E hr => ps_dput (by have := hr.units; show (A.deeper _).units + 1 < cLine; omega) (pe_var (i := 0) rfl (.inl rfl)) pe_str (pe_op op_add (pe_dget (by have := hr.units; show (A.deeper _).units + 1 < cLine; omega) (pe_var (i := 0) rfl (.inl rfl)) pe_str nosl) pe_int) rfl)
    (fun f cdv A outer s H E H0 G0 w' c0 rx c => have nd := S.nd; (dss_cons (ds_set 1 nd (de_add c.hK de_int (de_mul c.hK de_int (de_cnt 0 c)))) (dss_cons (ds_for c (di_seq c.hK (de_cat 0 c)) (dg_name 2 nd) (dss_cons (ds_set 1 nd (de_mod (de_callTy call_int1 (cd_int) rfl T.b_int (by decide +kernel) (da_cons (de_mul c.hK (de_add c.hK (de_var 1) (de_var 2)) de_int) da_nil)) (de_sub (de_pow de_int de_int) de_int)))
      (dss_one (ds_set 1 nd (de_add c.hK (de_var 1) (de_fdiv (de_var 1) (de_pow de_int de_int))))))) (dss_one (ds_ret (de_var 1))))))
end
end My

set_option maxRecDepth 100000
set_option maxHeartbeats 4000000
namespace My
open PySem PySem.Spec L2 L3
section
variable {P : Program} {w : World} {K : PySem.W.Frag} {mg : Str → Option Value} {base : Heap} {W : Wd}
abbrev kb__law_take : List (List Str × List Nat) := []
def sp__law_take (d : Dw) : WF := fun ds q x => match ds with
  | [.obj u, .int n] => u = .ref d.ad ∧ n < 9223372036854775808 ∧ ∀ r : Int, 0 ≤ r → (n < 2 → r = 0) → (2 ≤ n → r < n) → q (.val (.int r))
  | _ => False
theorem take_ok {d : Dw} (n : Int) (q : R → Prop) (x : Exn → Prop) (h0 : 1 ≤ n) (h1 : n ≤ 1000000000000000000) (hq : ∀ r : Int, 0 ≤ r → r < n → q (.val (.int r))) : sp__law_take d [.obj (.ref d.ad), .int n] q x := by
  refine ⟨rfl, by omega, fun r r0 ra rb => hq r r0 ?_⟩
  by_cases c : n < 2
  · have := ra c; omega
  · exact rb (by omega)

theorem len__law_take {d : Dw} : ∀ ds q x, sp__law_take d ds q x → ds.length = 2 := by
  intro ds q x h
  unfold sp__law_take at h
  split at h
  · rfl
  · exact h.elim
def W__law_take (d : Dw) (rx : Exn → Prop) : WS :=
    (wSeq (wIfS (wTst (wOp ltW (wVar 1) (wC (.int 2)))) (wRet (wC (.int 0))) wSkip)
    (wSeq (wIfS (wTst (wOp gtW (wAd 0 d fun q => ∀ w : Int, 0 ≤ w → q (.val (.int w))) (wC (.int 0)))) (wSeq (wSet 2 (wOp modW (wCB intW (wCons (wAd 0 d fun q => ∀ w : Int, 0 ≤ w → q (.val (.int w))) wNil)) (wVar 1)))
    (wSeq (wPutW 0 d (wOp divW (wAd 0 d fun q => ∀ w : Int, 0 ≤ w → q (.val (.int w))) (wVar 1)))
    (wRet (wVar 2)))) wSkip)
    (wSeq (wSet 2 (wAd 0 d fun q => ∀ v : Int, 0 ≤ v → q (.val (.int v))))
    (wSeq (wMixW d)
    (wRet (wOp modW (wCB intW (wCons (wOp divW (wVar 2) (wC (.int 1024))) wNil)) (wVar 1)))))))

theorem hta__law_take : ∀ (δ : De) (n f : Int) (q : Bool → Prop), δ[1]? = some (some (.val (.int n))) → δ[2]? = some (some (.val (.int f))) → 2 ≤ n → n < 2 ^ 63 → q (decide (2 ^ 50 < n) && decide (f < n * n)) → (wAndT (wTst (wOp gtW (wVar 1) (wOp powW (wC (.int 2)) (wC (.int 50))))) (wTst (wOp ltW (wVar 2) (wOp mulW (wVar 1) (wVar 1))))) δ q := by
  intro δ n f q h1 h2 hn hn2 hq
  have e50 : (2 : Int) ^ 50 = 1125899906842624 := by decide
  have e63 : (2 : Int) ^ 63 = 9223372036854775808 := by decide
  rw [e50] at hq
  rw [e63] at hn2
  by_cases c : 1125899906842624 < n
  · have hm : CMul n n := .inl ⟨by omega, by omega⟩
    simp [h1, h2, CPow, hm, e50, c] at hq ⊢
    exact hq
  · simp [h1, h2, CPow, e50, c] at hq ⊢
    exact hq

theorem law__law_take {d : Dw} : ∀ ds q x, sp__law_take d ds q x → W__law_take d x (startD 3 ds) { nx := fun _ => q (.val .non), rt := q } := by
  intro ds q x h
  unfold sp__law_take at h
  split at h
  rotate_left
  · exact h.elim
  rename_i u n
  obtain ⟨rfl, hn, h⟩ := h
  by_cases c : n < 2
  · simp [W__law_take, c]
    exact h 0 (by decide) (fun _ => rfl) (fun z => by omega)
  · have n2 : 2 ≤ n := by omega
    have k : ∀ w : Int, q (.val (.int (w % n))) := fun w => h _ (Int.emod_nonneg _ (by omega)) (fun z => absurd z c) (fun _ => Int.emod_lt_of_pos _ (by omega))
    simp [W__law_take, c, stD, List.set]
    intro w hw
    by_cases cw : 0 < w
    · simp only [decide_eq_true cw]
      exact fun w0 h0 => ⟨by omega, fun w1 h1 => ⟨cdivw (by omega) (by omega), Int.ediv_nonneg h1 (by omega), k _⟩⟩
    · simp only [decide_eq_false cw]
      intro v hv
      refine ⟨n, v, rfl, rfl, rfl, hv, n2, by omega, fun f' hf' => ?_⟩
      simp [List.set]
      exact ⟨cdivw (by omega) (by omega), by omega, k _⟩

theorem sc__law_take : FnScope ["draw", "amount", "found"] ["draw", "amount"] (defScope s__law_take) := ⟨rfl, rfl, rfl, by decide +kernel, rfl, by decide +kernel, by decide +kernel⟩
theorem ok__law_take {d : Dw} (D : DefAt K mg "_law_take" s__law_take ["draw", "amount"] kb__law_take) (T : Txt K mg) (F__law_mixed : CalX P w K mg base 1 "_law_mixed" ["draw"] (spMix d)) : Cal3 P w K mg base (wdOf d) 2 "_law_take" ["draw", "amount"] kb__law_take (sp__law_take d) 2 :=
  have nd := sc__law_take.nd
  dok (N := ["draw", "amount", "found"]) (wf := W__law_take d) D sc__law_take rfl len__law_take (fun f cdv A outer s H G E rx hr c tk => (dss_cons (ds_if (dt_cmpC c_lt (de_var 1) de_int) (dss_one (ds_ret de_int)) dss_nil)
      (dss_cons (ds_if (dt_cmpC c_gt (de_whl 0 c rfl) de_int) (dss_cons (ds_set 2 nd (de_mod (de_callTy call_int1 (cd_int) rfl T.b_int (by decide +kernel) (da_cons (de_whl 0 c rfl) da_nil)) (de_var 1)))
      (dss_cons (ds_whl 0 c rfl (de_fdiv (de_whl 0 c rfl) (de_var 1)))
      (dss_one (ds_ret (de_var 2))))) dss_nil)
      (dss_cons (ds_set 2 nd (de_mix 0 c rfl F__law_mixed (hr.mono (by decide)) rfl))
      (dss_cons (ds_mixw c (fun _ _ _ _ => (dt_pw (dw_and (dt_cmpC c_gt (de_var 1) (de_pow de_int de_int)) (dw_and1 (dt_cmpC c_lt (de_var 2) (de_mul c.hK (de_var 1) (de_var 1))))))) (pss_one (ds_turn c F__law_mixed (hr.mono (by decide)) nd rfl)) hta__law_take)
      (dss_one (ds_ret (de_mod (de_callTy call_int1 (cd_int) rfl T.b_int (by decide +kernel) (da_cons (de_fdiv (de_var 2) de_int) da_nil)) (de_var 1))))))))) law__law_take

end
end My

set_option maxRecDepth 100000
set_option maxHeartbeats 4000000
namespace My
open PySem PySem.Spec L2 L3
section
variable {P : Program} {w : World} {K : PySem.W.Frag} {mg : Str → Option Value} {base : Heap} {W : Wd}
abbrev kb__law_pick : List (List Str × List Nat) := []
def sp__law_pick (d : Dw) : WF := fun ds q x => match ds with
  | [.obj u, .lst items] => u = .ref d.ad ∧ 1 ≤ items.length ∧ items.length ≤ 100000 ∧ ∀ v ∈ items, q (.val v)
  | _ => False

theorem len__law_pick {d : Dw} : ∀ ds q x, sp__law_pick d ds q x → ds.length = 2 := by
  intro ds q x h
  unfold sp__law_pick at h
  split at h
  · rfl
  · exact h.elim
def W__law_pick (d : Dw) (rx : Exn → Prop) : WS :=
    (wRet (wOp ixW (wVar 1) (wCall (sp__law_take d) (wCons (wVar 0) (wCons (wCB lenW (wCons (wVar 1) wNil)) wNil)) rx)))

theorem law__law_pick {d : Dw} : ∀ ds q x, sp__law_pick d ds q x → W__law_pick d x (startD 2 ds) { nx := fun _ => q (.val .non), rt := q } := by
  intro ds q x h
  unfold sp__law_pick at h
  split at h
  rotate_left
  · exact h.elim
  rename_i u items
  obtain ⟨rfl, h1, h2, h⟩ := h
  simp [W__law_pick, sp__law_take]
  refine ⟨by omega, fun r r0 ra rb => ?_⟩
  have hr : r.toNat < items.length := by
    by_cases c : (items.length : Int) < 2
    · have := ra c; omega
    · have := rb (by omega); omega
  have e : items[r.toNat]? = some items[r.toNat] := List.getElem?_eq_getElem hr
  rw [atI_int r0 e]
  exact h _ (List.getElem_mem hr)

theorem sc__law_pick : FnScope ["draw", "items"] ["draw", "items"] (defScope s__law_pick) := ⟨rfl, rfl, rfl, by decide +kernel, rfl, by decide +kernel, by decide +kernel⟩
theorem ok__law_pick {d : Dw} (D : DefAt K mg "_law_pick" s__law_pick ["draw", "items"] kb__law_pick) (T : Txt K mg) (F__law_take : Cal3 P w K mg base (wdOf d) 2 "_law_take" ["draw", "amount"] kb__law_take (sp__law_take d) 2) : Cal3 P w K mg base (wdOf d) 3 "_law_pick" ["draw", "items"] kb__law_pick (sp__law_pick d) 2 :=
  have nd := sc__law_pick.nd
  dok (N := ["draw", "items"]) (wf := W__law_pick d) D sc__law_pick rfl len__law_pick (fun f cdv A outer s H G E rx hr c tk => (dss_one (ds_ret (de_ix c.hK (de_var 1) (de_c c F__law_take hr (by decide) rfl (da_cons (de_var 0) (da_cons (de_callB call_len_seq (cd_len c.hK) rfl T.b_len (by decide +kernel) (da_cons (de_var 1) da_nil)) da_nil))))))) law__law_pick

end
end My

set_option maxRecDepth 100000
set_option maxHeartbeats 4000000
namespace My
open PySem PySem.Spec L2 L3
section
variable {P : Program} {w : World} {K : PySem.W.Frag} {mg : Str → Option Value} {base : Heap} {W : Wd}
abbrev kb_is_whole : List (List Str × List Nat) := []
def sp_is_whole : WF := fun ds q x => match ds with
  | [d] => okB d = true ∧ q (.val (.bl (whB d)))
  | _ => False

theorem len_is_whole : ∀ ds q x, sp_is_whole ds q x → ds.length = 1 := by
  intro ds q x h
  unfold sp_is_whole at h
  split at h
  · rfl
  · exact h.elim
def W_is_whole (rx : Exn → Prop) : WS :=
    (wRet (wAnd (wIsi .int (wVar 0)) (wNot (wIsi .bool (wVar 0)))))

theorem law_is_whole : ∀ ds q x, sp_is_whole ds q x → W_is_whole x (startD 1 ds) { nx := fun _ => q (.val .non), rt := q } := by
  intro ds q x h
  unfold sp_is_whole at h
  split at h
  rotate_left
  · exact h.elim
  rename_i d
  obtain ⟨h0, h⟩ := h
  cases d <;> simp [W_is_whole, okB, whB] at h0 h ⊢ <;> exact h

theorem sc_is_whole : FnScope ["thing"] ["thing"] (defScope s_is_whole) := ⟨rfl, rfl, rfl, by decide +kernel, rfl, by decide +kernel, by decide +kernel⟩
theorem ok_is_whole (D : DefAt K mg "is_whole" s_is_whole ["thing"] kb_is_whole) (T : Txt K mg) : Cal3 P w K mg base W 1 "is_whole" ["thing"] kb_is_whole sp_is_whole 1 :=
  have nd := sc_is_whole.nd
  dok (N := ["thing"]) (wf := W_is_whole) D sc_is_whole rfl len_is_whole (fun f cdv A outer s H G E rx hr c tk => (dss_one (ds_ret (de_and (de_isi .int c.hK rfl T.b_isinstance rfl T.b_int (by decide +kernel) (ha := (de_var 0))) (de_one (de_not (de_isi .bool c.hK rfl T.b_isinstance rfl T.b_bool (by decide +kernel) (ha := (de_var 0))))))))) law_is_whole

end
end My

set_option maxRecDepth 100000
set_option maxHeartbeats 4000000
namespace My
open PySem PySem.Spec L2 L3
section
variable {P : Program} {w : World} {K : PySem.W.Frag} {mg : Str → Option Value} {base : Heap} {W : Wd}
abbrev kb_is_within : List (List Str × List Nat) := []
def sp_is_within : WF := fun ds q x => match ds with
  | [d, .int lo, .int hi] => okB d = true ∧ q (.val (.bl (inB d lo hi)))
  | _ => False

theorem len_is_within : ∀ ds q x, sp_is_within ds q x → ds.length = 3 := by
  intro ds q x h
  unfold sp_is_within at h
  split at h
  · rfl
  · exact h.elim
def W_is_within (rx : Exn → Prop) : WS :=
    (wRet (wAnd (wCall sp_is_whole (wCons (wVar 0) wNil) rx) (wCh leW leW (wVar 1) (wVar 0) (wVar 2))))

theorem law_is_within : ∀ ds q x, sp_is_within ds q x → W_is_within x (startD 3 ds) { nx := fun _ => q (.val .non), rt := q } := by
  intro ds q x h
  unfold sp_is_within at h
  split at h
  rotate_left
  · exact h.elim
  rename_i d lo hi
  obtain ⟨h0, h⟩ := h
  cases d <;> simp [W_is_within, sp_is_whole, okB, whB, inB] at h0 h ⊢ <;> first | exact h | skip
  rename_i i
  by_cases c : lo ≤ i
  · simp [c] at h ⊢; exact h
  · simp [c] at h ⊢; exact h

theorem sc_is_within : FnScope ["thing", "low", "high"] ["thing", "low", "high"] (defScope s_is_within) := ⟨rfl, rfl, rfl, by decide +kernel, rfl, by decide +kernel, by decide +kernel⟩
theorem ok_is_within (D : DefAt K mg "is_within" s_is_within ["thing", "low", "high"] kb_is_within) (T : Txt K mg) (F_is_whole : Cal3 P w K mg base W 1 "is_whole" ["thing"] kb_is_whole sp_is_whole 1) : Cal3 P w K mg base W 2 "is_within" ["thing", "low", "high"] kb_is_within sp_is_within 3 :=
  have nd := sc_is_within.nd
  dok (N := ["thing", "low", "high"]) (wf := W_is_within) D sc_is_within rfl len_is_within (fun f cdv A outer s H G E rx hr c tk => (dss_one (ds_ret (de_and (de_c c F_is_whole hr (by decide) rfl (da_cons (de_var 0) da_nil)) (de_one (de_ch c_le c_le (de_var 1) (de_var 0) (de_var 2))))))) law_is_within

end
end My

set_option maxRecDepth 100000
set_option maxHeartbeats 4000000
namespace My
open PySem PySem.Spec L2 L3
section
variable {P : Program} {w : World} {K : PySem.W.Frag} {mg : Str → Option Value} {base : Heap} {W : Wd}
abbrev kb_is_rest : List (List Str × List Nat) := []
def sp_is_rest : WF := fun ds q x => match ds with
  | [.int p, d] => okB d = true ∧ q (.val (.bl (inB d 0 (p - 1))))
  | _ => False

theorem len_is_rest : ∀ ds q x, sp_is_rest ds q x → ds.length = 2 := by
  intro ds q x h
  unfold sp_is_rest at h
  split at h
  · rfl
  · exact h.elim
def W_is_rest (rx : Exn → Prop) : WS :=
    (wRet (wCall sp_is_within (wCons (wVar 1) (wCons (wC (.int 0)) (wCons (wOp subW (wVar 0) (wC (.int 1))) wNil))) rx))

theorem law_is_rest : ∀ ds q x, sp_is_rest ds q x → W_is_rest x (startD 2 ds) { nx := fun _ => q (.val .non), rt := q } := by
  intro ds q x h
  unfold sp_is_rest at h
  split at h
  rotate_left
  · exact h.elim
  rename_i p d
  obtain ⟨h0, h⟩ := h
  simp [W_is_rest, sp_is_within]
  exact ⟨h0, h⟩

theorem sc_is_rest : FnScope ["prime", "thing"] ["prime", "thing"] (defScope s_is_rest) := ⟨rfl, rfl, rfl, by decide +kernel, rfl, by decide +kernel, by decide +kernel⟩
theorem ok_is_rest (D : DefAt K mg "is_rest" s_is_rest ["prime", "thing"] kb_is_rest) (T : Txt K mg) (F_is_within : Cal3 P w K mg base W 2 "is_within" ["thing", "low", "high"] kb_is_within sp_is_within 3) : Cal3 P w K mg base W 3 "is_rest" ["prime", "thing"] kb_is_rest sp_is_rest 2 :=
  have nd := sc_is_rest.nd
  dok (N := ["prime", "thing"]) (wf := W_is_rest) D sc_is_rest rfl len_is_rest (fun f cdv A outer s H G E rx hr c tk => (dss_one (ds_ret (de_c c F_is_within hr (by decide) rfl (da_cons (de_var 1) (da_cons de_int (da_cons (de_sub (de_var 0) de_int) da_nil))))))) law_is_rest

end
end My

set_option maxRecDepth 100000
set_option maxHeartbeats 4000000
namespace My
open PySem PySem.Spec L2 L3
section
variable {P : Program} {w : World} {K : PySem.W.Frag} {mg : Str → Option Value} {base : Heap} {W : Wd}
abbrev kb_is_poly_of : List (List Str × List Nat) := []
/-- the numbers of a poly, if it is one -/
def polyO (p : Int) : D → Option (List Int)
  | .tup ds => match rstO p ds with
    | some vs => if vs.length ≤ 200 ∧ trim vs = vs then some vs else none
    | none => none
  | _ => none
theorem polyO_some {p : Int} {d : D} {vs : List Int} (h : polyO p d = some vs) : d = .tup (dI vs) ∧ Rst p vs ∧ vs.length ≤ 200 ∧ trim vs = vs := by
  unfold polyO at h
  split at h
  · split at h
    · rename_i us e
      split at h
      · rename_i c
        cases h
        obtain ⟨e1, e2⟩ := rstO_some e
        exact ⟨by rw [e1], e2, c.1, c.2⟩
      · cases h
    · cases h
  · cases h
theorem polyO_dI {p : Int} {vs : List Int} (h : Rst p vs) (hl : vs.length ≤ 200) (ht : trim vs = vs) : polyO p (.tup (dI vs)) = some vs := by
  unfold polyO
  simp only [rstO_dI h]
  rw [if_pos ⟨hl, ht⟩]
def sp_is_poly_of : WF := fun ds q x => match ds with
  | [.int p, d] => okA d = true ∧ p ≤ 1000 ∧ q (.val (.bl (polyO p d).isSome))
  | _ => False

theorem len_is_poly_of : ∀ ds q x, sp_is_poly_of ds q x → ds.length = 2 := by
  intro ds q x h
  unfold sp_is_poly_of at h
  split at h
  · rfl
  · exact h.elim
def W_is_poly_of (rx : Exn → Prop) : WS :=
    (wSeq (wIfS (wOrT (wNotT (wTru (wIsi .tuple (wVar 1)))) (wOrT (wTst (wOp gtW (wCB lenW (wCons (wVar 1) wNil)) (wC K_MOST_NUMBERS))) (wNotT (wTru (wCB allW (wCons (wLc (wSeqI (wVar 1)) (gNm 2) wYes (wCall sp_is_rest (wCons (wVar 0) (wCons (wVar 2) wNil)) (fun _ => False)) [2]) wNil)))))) (wRet (wC (.bl false))) wSkip)
    (wRet (wOr (wOp (eqW false) (wVar 1) (wTup wNil)) (wOp (eqW true) (wOp ixW (wVar 1) (wNeg (wC (.int 1)))) (wC (.int 0))))))

theorem law_is_poly_of : ∀ ds q x, sp_is_poly_of ds q x → W_is_poly_of x (startD 3 ds) { nx := fun _ => q (.val .non), rt := q } := by
  intro ds q x h
  unfold sp_is_poly_of at h
  split at h
  rotate_left
  · exact h.elim
  rename_i p d
  obtain ⟨h0, hp, h⟩ := h
  have ob := okA_B h0
  cases d <;> simp [W_is_poly_of, polyO, okB] at ob h ⊢ <;> first | exact h | skip
  rename_i ds
  have hok := okAs_mem (show okAs ds = true from h0)
  by_cases hl : ds.length ≤ 200
  rotate_left
  · have c : (200 : Int) < ds.length := by omega
    simp [c]
    cases e : rstO p ds with
    | none => rw [e] at h; exact h
    | some vs =>
      have l := congrArg List.length (rstO_some e).1
      simp at l
      rw [e] at h
      simp only at h
      rw [if_neg (fun z => by omega)] at h
      exact h
  have c : ¬ (200 : Int) < ds.length := by omega
  simp [c]
  refine lc_pure (fun d => some (.bl (inB d 0 (p - 1)))) ds [] (fun d hd Q hQ => ?_) (sz1000 (by simp; omega)) ?_
  · simp [wipeD, List.set, sp_is_rest]
    exact ⟨okA_B (hok d hd), hQ⟩
  · rw [fm_some, List.nil_append]
    simp only [R.data, allW, blsOf_map, all_id]
    rw [all_inB]
    cases e : rstO p ds with
    | none => rw [e] at h; simp; exact h
    | some vs =>
      rw [e] at h
      obtain ⟨rfl, hr⟩ := rstO_some e
      simp at hl
      simp [dpt, dpts_dI, eqP_tup_nil, dpts]
      rcases vs with _ | ⟨v, vs⟩
      · simp [trim] at h ⊢
        exact h
      · have e1 : (v :: vs)[(v :: vs).length - 1]? = some ((v :: vs)[(v :: vs).length - 1]) := List.getElem?_eq_getElem (by simp)
        have e2 := atI_lastI e1
        have hll : (v :: vs).length ≤ 200 := hl
        simp only [dI, List.map_cons] at e2
        simp [e2]
        by_cases z : (v :: vs)[(v :: vs).length - 1] = 0
        · have nt : ¬ trim (v :: vs) = v :: vs := fun ht => by
            obtain ⟨u, e3, nz⟩ := trim_last ht (by simp)
            rw [e1] at e3
            cases e3
            exact nz z
          simp only at h
          rw [if_neg (fun y => nt y.2)] at h
          simp at z
          simp [z, dpt] at h ⊢
          exact h
        · have ht := trim_of_last e1 z
          simp only at h
          rw [if_pos ⟨hll, ht⟩] at h
          simp at z
          simp [z, dpt] at h ⊢
          exact h

theorem sc_is_poly_of : FnScope ["prime", "thing", "item"] ["prime", "thing"] (defScope s_is_poly_of) := ⟨rfl, rfl, rfl, by decide +kernel, rfl, by decide +kernel, by decide +kernel⟩
theorem ok_is_poly_of (D : DefAt K mg "is_poly_of" s_is_poly_of ["prime", "thing"] kb_is_poly_of) (T : Txt K mg) (F_is_rest : Cal3 P w K mg base W 3 "is_rest" ["prime", "thing"] kb_is_rest sp_is_rest 2) : Cal3 P w K mg base W 4 "is_poly_of" ["prime", "thing"] kb_is_poly_of sp_is_poly_of 2 :=
  have nd := sc_is_poly_of.nd
  dok (N := ["prime", "thing", "item"]) (wf := W_is_poly_of) D sc_is_poly_of rfl len_is_poly_of (fun f cdv A outer s H G E rx hr c tk => (dss_cons (ds_if (dt_pw (dw_or (dt_not (dt_tru c.hK (de_isi .tuple c.hK rfl T.b_isinstance rfl T.b_tuple (by decide +kernel) (ha := (de_var 1))))) (dw_or (dt_cmpC c_gt (de_callB call_len_seq (cd_len c.hK) rfl T.b_len (by decide +kernel) (da_cons (de_var 1) da_nil)) (de_kint T.k_MOST_NUMBERS rfl)) (dw_or1 (dt_not (dt_tru c.hK (de_callB (cr_all c.calm) (cd_all c.hK) rfl T.b_all (by decide +kernel) (da_cons (de_lc (own := [("item", 2)]) c nd (by decide) (di_seq c.hK (de_var 1)) (blkOk_by rfl) (fun _ _ _ _ _ c => (dg_name 2 nd)) (fun _ _ _ _ _ c => dts_nil) (fun _ _ _ _ _ c => (de_c c F_is_rest hr (by decide) rfl (da_cons (de_var 0) (da_cons (de_var 2) da_nil))))) da_nil)))))))) (dss_one (ds_ret de_bl)) dss_nil)
      (dss_one (ds_ret (de_or (de_cmpC (c_eq c.hu c.hK) (de_var 1) (de_tup da_nil)) (de_one (de_cmpC (c_ne c.hu c.hK) (de_ix c.hK (de_var 1) (de_neg de_int)) de_int))))))) law_is_poly_of

end
end My

set_option maxRecDepth 100000
set_option maxHeartbeats 4000000
namespace My
open PySem PySem.Spec L2 L3
section
variable {P : Program} {w : World} {K : PySem.W.Frag} {mg : Str → Option Value} {base : Heap} {W : Wd}
abbrev kb__law_no_poly : List (List Str × List Nat) := []
def sp__law_no_poly (d : Dw) : WF := fun ds q x => match ds with
  | [.obj u, .int p] => u = .ref d.ad ∧ 2 ≤ p ∧ ∀ v : D, polyO p v = none → okA v = true → q (.val v)
  | _ => False
theorem ok_201 : okA (.tup (List.replicate 201 (.int 1))) = true := by rw [rep_dI]; exact okA_dI _
theorem no_201 {p : Int} (p2 : 2 ≤ p) : polyO p (.tup (List.replicate 201 (.int 1))) = none := by
  rw [rep_dI]
  unfold polyO
  simp only [rstO_dI (p := p) (vs := List.replicate 201 1) (fun z hz => by rw [List.eq_of_mem_replicate hz]; omega)]
  rw [if_neg (fun z => by rw [List.length_replicate] at z; omega)]
theorem trim_0 : trim [0] = [] := by simp [trim]
theorem trim_10 : trim [1, 0] = [1] := by simp [trim]
theorem no_0 {p : Int} : polyO p (.tup [.int 0]) = none := by
  cases e : polyO p (.tup [.int 0]) with
  | none => rfl
  | some vs =>
    obtain ⟨h1, _, _, h2⟩ := polyO_some e
    injection h1 with h1
    have h3 := intsOf_dI vs
    rw [← h1] at h3
    have h3 : some [0] = some vs := h3
    cases h3
    rw [trim_0] at h2; cases h2
theorem no_10 {p : Int} : polyO p (.tup [.int 1, .int 0]) = none := by
  cases e : polyO p (.tup [.int 1, .int 0]) with
  | none => rfl
  | some vs =>
    obtain ⟨h1, _, _, h2⟩ := polyO_some e
    injection h1 with h1
    have h3 := intsOf_dI vs
    rw [← h1] at h3
    have h3 : some [1, 0] = some vs := h3
    cases h3
    rw [trim_10] at h2; cases h2
theorem no_out {p z : Int} (hz : ¬ (0 ≤ z ∧ z < p)) : polyO p (.tup [.int z]) = none := by
  cases e : polyO p (.tup [.int z]) with
  | none => rfl
  | some vs =>
    obtain ⟨h1, hr, _, h2⟩ := polyO_some e
    injection h1 with h1
    have h3 := intsOf_dI vs
    rw [← h1] at h3
    have h3 : some [z] = some vs := h3
    cases h3
    exact absurd (hr z (by simp)) hz
theorem and3 {a b c q : Prop} (ha : a) (hb : b) (hc : c) (h : q) : a ∧ b ∧ c ∧ q := ⟨ha, hb, hc, h⟩

theorem len__law_no_poly {d : Dw} : ∀ ds q x, sp__law_no_poly d ds q x → ds.length = 2 := by
  intro ds q x h
  unfold sp__law_no_poly at h
  split at h
  · rfl
  · exact h.elim
def W__law_no_poly (d : Dw) (rx : Exn → Prop) : WS :=
    (wRet (wCall (sp__law_pick d) (wCons (wVar 0) (wCons (wLst (wCons (wC .non) (wCons (wC (.int 5)) (wCons (wLst (wCons (wC (.int 1)) wNil)) (wCons (wTup (wCons (wC (.int 0)) wNil)) (wCons (wTup (wCons (wC (.int 1)) (wCons (wC (.int 0)) wNil))) (wCons (wTup (wCons (wVar 1) wNil)) (wCons (wTup (wCons (wOp subW (wC (.int 0)) (wC (.int 1))) wNil)) (wCons (wTup (wCons (wC (.bl true)) wNil)) (wCons (wTup (wCons (wC (.str "1")) wNil)) (wCons (wOp mulW (wTup (wCons (wC (.int 1)) wNil)) (wC (.int 201))) (wCons (wC .dct) (wCons (wTup (wCons (wTup (wCons (wC (.int 1)) wNil)) wNil)) (wCons (wTup (wCons (wC (.int 1)) (wCons (wC .non) wNil))) wNil)))))))))))))) wNil)) rx))

theorem law__law_no_poly {d : Dw} : ∀ ds q x, sp__law_no_poly d ds q x → W__law_no_poly d x (startD 2 ds) { nx := fun _ => q (.val .non), rt := q } := by
  intro ds q x h
  unfold sp__law_no_poly at h
  split at h
  rotate_left
  · exact h.elim
  rename_i u p
  obtain ⟨rfl, p2, h⟩ := h
  unfold W__law_no_poly
  refine And.intro (nbB_ok rfl) (And.intro (Nat.le_of_ble_eq_true rfl) ?_)
  refine And.intro (nbB_ok rfl) (And.intro (Nat.le_of_ble_eq_true rfl) ?_)
  refine And.intro (nbB_ok rfl) (And.intro (Nat.le_of_ble_eq_true rfl) ?_)
  refine And.intro (nbB_ok rfl) (And.intro (Nat.le_of_ble_eq_true rfl) ?_)
  refine And.intro True.intro ?_
  refine And.intro (nbB_ok rfl) (And.intro (Nat.le_of_ble_eq_true rfl) ?_)
  refine And.intro (nbB_ok rfl) (And.intro (Nat.le_of_ble_eq_true rfl) ?_)
  refine And.intro (nbB_ok rfl) (And.intro (Nat.le_of_ble_eq_true rfl) ?_)
  refine And.intro (nbB_ok rfl) (And.intro (Nat.le_of_ble_eq_true rfl) ?_)
  refine and3 (show (-1000000 : Int) ≤ 201 by decide) (show (201 : Int) ≤ 1000000 by decide) (Nat.le_of_ble_eq_true rfl) ?_
  refine And.intro (nbB_ok rfl) (And.intro (Nat.le_of_ble_eq_true rfl) ?_)
  refine And.intro (nbB_ok rfl) (And.intro (Nat.le_of_ble_eq_true rfl) ?_)
  refine And.intro (nbB_ok rfl) (And.intro (Nat.le_of_ble_eq_true rfl) ?_)
  refine And.intro (nbB_ok rfl) (And.intro (Nat.le_of_ble_eq_true rfl) ?_)
  have e2 : (List.replicate (201 : Int).toNat [D.int 1]).flatten = List.replicate 201 (.int 1) := rfl
  refine call_nb (sp := sp__law_pick d) (q := fun r => match r with | .bor ds => q (.own ds) | r => q r) (x := x) (rs := [R.val (.obj (.ref d.ad)), R.own [.non, .int 5, .lst [.int 1], .tup [.int 0], .tup [.int 1, .int 0], .tup [.int p], .tup [.int (0 - 1)], .tup [.bl true], .tup [.str "1"], .tup (List.replicate (201 : Int).toNat [D.int 1]).flatten, .dct, .tup [.tup [.int 1]], .tup [.int 1, .non]]]) rfl ?_
  refine ⟨rfl, by simp, by simp, ?_⟩
  rw [e2]
  intro v hv
  have hv2 : polyO p v = none ∧ okA v = true := by
    simp only [List.mem_cons, List.not_mem_nil, or_false] at hv
    rcases hv with rfl | rfl | rfl | rfl | rfl | rfl | rfl | rfl | rfl | rfl | rfl | rfl | rfl
    · exact ⟨rfl, rfl⟩
    · exact ⟨rfl, rfl⟩
    · exact ⟨rfl, rfl⟩
    · exact ⟨no_0, rfl⟩
    · exact ⟨no_10, rfl⟩
    · exact ⟨no_out (by omega), rfl⟩
    · exact ⟨no_out (by omega), rfl⟩
    · exact ⟨rfl, rfl⟩
    · exact ⟨rfl, rfl⟩
    · exact ⟨no_201 p2, ok_201⟩
    · exact ⟨rfl, rfl⟩
    · exact ⟨rfl, rfl⟩
    · exact ⟨rfl, rfl⟩
  exact h v hv2.1 hv2.2

theorem sc__law_no_poly : FnScope ["draw", "prime"] ["draw", "prime"] (defScope s__law_no_poly) := ⟨rfl, rfl, rfl, by decide +kernel, rfl, by decide +kernel, by decide +kernel⟩
theorem ok__law_no_poly {d : Dw} (D : DefAt K mg "_law_no_poly" s__law_no_poly ["draw", "prime"] kb__law_no_poly) (T : Txt K mg) (F__law_pick : Cal3 P w K mg base (wdOf d) 3 "_law_pick" ["draw", "items"] kb__law_pick (sp__law_pick d) 2) : Cal3 P w K mg base (wdOf d) 4 "_law_no_poly" ["draw", "prime"] kb__law_no_poly (sp__law_no_poly d) 2 :=
  have nd := sc__law_no_poly.nd
  dok (N := ["draw", "prime"]) (wf := W__law_no_poly d) D sc__law_no_poly rfl len__law_no_poly (fun f cdv A outer s H G E rx hr c tk => (dss_one (ds_ret (de_c c F__law_pick hr (by decide) rfl (da_cons (de_var 0) (da_cons (de_lst (da_cons de_non (da_cons de_int (da_cons (de_lst (da_cons de_int da_nil)) (da_cons (de_tup (da_cons de_int da_nil)) (da_cons (de_tup (da_cons de_int (da_cons de_int da_nil))) (da_cons (de_tup (da_cons (de_var 1) da_nil)) (da_cons (de_tup (da_cons (de_sub de_int de_int) da_nil)) (da_cons (de_tup (da_cons de_bl da_nil)) (da_cons (de_tup (da_cons de_str da_nil)) (da_cons (de_mul c.hK (de_tup (da_cons de_int da_nil)) de_int) (da_cons de_dct (da_cons (de_tup (da_cons (de_tup (da_cons de_int da_nil)) da_nil)) (da_cons (de_tup (da_cons de_int (da_cons de_non da_nil))) da_nil)))))))))))))) da_nil)))))) law__law_no_poly

end
end My

set_option maxRecDepth 100000
set_option maxHeartbeats 4000000
namespace My
open PySem PySem.Spec L2 L3
section
variable {P : Program} {w : World} {K : PySem.W.Frag} {mg : Str → Option Value} {base : Heap} {W : Wd}
abbrev kb__law_prime : List (List Str × List Nat) := []
def sp__law_prime (d : Dw) : WF := fun ds q x => match ds with
  | [.obj u] => u = .ref d.ad ∧ ∀ p : Int, (p = 2 ∨ p = 3 ∨ p = 5 ∨ p = 7) → q (.val (.int p))
  | _ => False

theorem len__law_prime {d : Dw} : ∀ ds q x, sp__law_prime d ds q x → ds.length = 1 := by
  intro ds q x h
  unfold sp__law_prime at h
  split at h
  · rfl
  · exact h.elim
def W__law_prime (d : Dw) (rx : Exn → Prop) : WS :=
    (wRet (wCall (sp__law_pick d) (wCons (wVar 0) (wCons (wLst (wCons (wC (.int 2)) (wCons (wC (.int 2)) (wCons (wC (.int 2)) (wCons (wC (.int 3)) (wCons (wC (.int 3)) (wCons (wC (.int 5)) (wCons (wC (.int 7)) wNil)))))))) wNil)) rx))

theorem law__law_prime {d : Dw} : ∀ ds q x, sp__law_prime d ds q x → W__law_prime d x (startD 1 ds) { nx := fun _ => q (.val .non), rt := q } := by
  intro ds q x h
  unfold sp__law_prime at h
  split at h
  rotate_left
  · exact h.elim
  rename_i u
  obtain ⟨rfl, h⟩ := h
  simp [W__law_prime, sp__law_pick]
  exact ⟨h 2 (by omega), h 3 (by omega), h 5 (by omega), h 7 (by omega)⟩

theorem sc__law_prime : FnScope ["draw"] ["draw"] (defScope s__law_prime) := ⟨rfl, rfl, rfl, by decide +kernel, rfl, by decide +kernel, by decide +kernel⟩
theorem ok__law_prime {d : Dw} (D : DefAt K mg "_law_prime" s__law_prime ["draw"] kb__law_prime) (T : Txt K mg) (F__law_pick : Cal3 P w K mg base (wdOf d) 3 "_law_pick" ["draw", "items"] kb__law_pick (sp__law_pick d) 2) : Cal3 P w K mg base (wdOf d) 4 "_law_prime" ["draw"] kb__law_prime (sp__law_prime d) 1 :=
  have nd := sc__law_prime.nd
  dok (N := ["draw"]) (wf := W__law_prime d) D sc__law_prime rfl len__law_prime (fun f cdv A outer s H G E rx hr c tk => (dss_one (ds_ret (de_c c F__law_pick hr (by decide) rfl (da_cons (de_var 0) (da_cons (de_lst (da_cons de_int (da_cons de_int (da_cons de_int (da_cons de_int (da_cons de_int (da_cons de_int (da_cons de_int da_nil)))))))) da_nil)))))) law__law_prime

end
end My

set_option maxRecDepth 100000
set_option maxHeartbeats 4000000
namespace My
open PySem PySem.Spec L2 L3
section
variable {P : Program} {w : World} {K : PySem.W.Frag} {mg : Str → Option Value} {base : Heap} {W : Wd}
abbrev kb__law_cut : List (List Str × List Nat) := []
def sp__law_cut : WF := fun ds q x => match ds with
  | [s] => ∃ vs : List Int, (s = .lst (dI vs) ∨ s = .tup (dI vs)) ∧ vs.length ≤ 10000 ∧ q (.val (.tup (dI (trim vs))))
  | _ => False

theorem len__law_cut : ∀ ds q x, sp__law_cut ds q x → ds.length = 1 := by
  intro ds q x h
  unfold sp__law_cut at h
  split at h
  · rfl
  · exact h.elim
def W__law_cut (rx : Exn → Prop) : WS :=
    (wSeq (wSet 1 (wCB lenW (wCons (wVar 0) wNil)))
    (wSeq (wFor (wRng1 (wCB lenW (wCons (wVar 0) wNil))) (gNm 2) (wIfS (wAndT (wTst (wOp gtW (wVar 1) (wC (.int 0)))) (wTst (wOp (eqW false) (wOp ixW (wVar 0) (wOp subW (wVar 1) (wC (.int 1)))) (wC (.int 0))))) (wSet 1 (wOp subW (wVar 1) (wC (.int 1)))) wSkip))
    (wRet (wCB tupW (wCons (wSl (wVar 0) wNo (wSo (wVar 1))) wNil)))))

theorem law__law_cut : ∀ ds q x, sp__law_cut ds q x → W__law_cut x (startD 3 ds) { nx := fun _ => q (.val .non), rt := q } := by
  intro ds q x h
  unfold sp__law_cut at h
  split at h
  rotate_left
  · exact h.elim
  rename_i s
  obtain ⟨vs, hs, hl, h⟩ := h
  rcases hs with hs | hs
  all_goals
    simp [W__law_cut, stD, List.set, -forW, hs]
    rw [← hs]
    refine ⟨by omega, ?_⟩
    refine forW_rng (fun i δ => ∃ (m : Nat) (b : Option Sl), δ = [some (.val s), some (.val (.int (m : Int))), b] ∧ m ≤ vs.length ∧ trim (vs.take m) = trim vs ∧ (vs.length ≤ i + m ∧ m = vs.length - i ∨ vs.take m = trim vs)) vs.length _ ⟨vs.length, none, rfl, Nat.le_refl _, by rw [List.take_length], .inl ⟨by omega, by omega⟩⟩ ?_ ?_
    · rintro i δ q' hi ⟨m, b, rfl, hm, e, hj⟩ hnx
      cases m with
      | zero =>
        have := hnx _ ⟨0, some (.val (.int (0 + (i : Nat)))), rfl, hm, e, .inr (by rw [← e]; rfl)⟩
        simp [List.set, hs] at this ⊢
        exact this
      | succ m =>
        have e1 : vs[m]? = some (vs[m]) := List.getElem?_eq_getElem (by omega)
        have e3 := trim_take e1
        have a1 := atI_dI e1
        have c0 : (0 : Int) < (m : Int) + 1 := by omega
        simp [c0, a1, dpt, List.set, stD, hs]
        by_cases z : vs[m] = 0
        · rw [if_pos z] at e3
          simp [z, List.set]
          have e4 : trim (vs.take m) = trim vs := by rw [← e3]; exact e
          have := hnx _ ⟨m, some (.val (.int (0 + (i : Nat)))), rfl, by omega, e4, ?_⟩
          · simpa [hs] using this
          rcases hj with ⟨h1, h2⟩ | hj
          · exact .inl ⟨by omega, by omega⟩
          · have l1 := trim_len (vs.take m)
            rw [e4, ← hj, List.length_take, List.length_take] at l1
            omega
        · rw [if_neg z] at e3
          simp [z]
          have := hnx _ ⟨m + 1, some (.val (.int (0 + (i : Nat)))), rfl, hm, e, .inr (by rw [← e3]; exact e)⟩
          simpa [hs] using this
    · rintro δ ⟨m, b, rfl, hm, e, hj⟩
      have e2 : vs.take m = trim vs := by
        rcases hj with ⟨h1, h2⟩ | hj
        · have : m = 0 := by omega
          subst this
          rw [← e]; rfl
        · exact hj
      simp [hs, cutD_take (xs := dI vs) (m := m) (by simp; exact hm)]
      rw [← List.map_take, e2]; exact h

theorem sc__law_cut : FnScope ["numbers", "many", "lap"] ["numbers"] (defScope s__law_cut) := ⟨rfl, rfl, rfl, by decide +kernel, rfl, by decide +kernel, by decide +kernel⟩
theorem ok__law_cut (D : DefAt K mg "_law_cut" s__law_cut ["numbers"] kb__law_cut) (T : Txt K mg) : Cal3 P w K mg base W 1 "_law_cut" ["numbers"] kb__law_cut sp__law_cut 1 :=
  have nd := sc__law_cut.nd
  dok (N := ["numbers", "many", "lap"]) (wf := W__law_cut) D sc__law_cut rfl len__law_cut (fun f cdv A outer s H G E rx hr c tk => (dss_cons (ds_set 1 nd (de_callB call_len_seq (cd_len c.hK) rfl T.b_len (by decide +kernel) (da_cons (de_var 0) da_nil)))
      (dss_cons (ds_for c (di_rng1 rfl T.b_range (de_callB call_len_seq (cd_len c.hK) rfl T.b_len (by decide +kernel) (da_cons (de_var 0) da_nil))) (dg_name 2 nd) (dss_one (ds_if (dt_pw (dw_and (dt_cmpC c_gt (de_var 1) de_int) (dw_and1 (dt_cmpC (c_eq c.hu c.hK) (de_ix c.hK (de_var 0) (de_sub (de_var 1) de_int)) de_int)))) (dss_one (ds_set 1 nd (de_sub (de_var 1) de_int))) dss_nil)))
      (dss_one (ds_ret (de_callTy call_tuple_of (cd_tup c.hK) rfl T.b_tuple (by decide +kernel) (da_cons (de_sl c.hK (de_var 0) do_none (do_some (de_var 1))) da_nil))))))) law__law_cut

end
end My

set_option maxRecDepth 100000
set_option maxHeartbeats 4000000
namespace My
open PySem PySem.Spec L2 L3
section
variable {P : Program} {w : World} {K : PySem.W.Frag} {mg : Str → Option Value} {base : Heap} {W : Wd}
abbrev kb__law_rests : List (List Str × List Nat) := []
def sp__law_rests (d : Dw) : WF := fun ds q x => match ds with
  | [.obj u, .int p, .int n] => u = .ref d.ad ∧ 1 ≤ p ∧ p ≤ 1000000 ∧ 0 ≤ n ∧ n ≤ 100000 ∧ ∀ vs : List Int, (vs.length : Int) = n → (∀ z ∈ vs, 0 ≤ z ∧ z < p) → q (.val (.tup (vs.map D.int)))
  | _ => False
/-- a list of rests -/
theorem ints_of {p : Int} : ∀ vs : List D, (∀ v ∈ vs, ∃ z : Int, v = .int z ∧ 0 ≤ z ∧ z < p) → ∃ zs : List Int, vs = zs.map D.int ∧ ∀ z ∈ zs, 0 ≤ z ∧ z < p
  | [], _ => ⟨[], rfl, fun z h => by cases h⟩
  | v :: vs, h => by
    obtain ⟨z, rfl, hz⟩ := h v List.mem_cons_self
    obtain ⟨zs, rfl, hzs⟩ := ints_of vs fun u hu => h u (List.mem_cons_of_mem _ hu)
    refine ⟨z :: zs, rfl, fun y hy => ?_⟩
    rcases List.mem_cons.mp hy with rfl | hy
    · exact hz
    · exact hzs y hy

theorem len__law_rests {d : Dw} : ∀ ds q x, sp__law_rests d ds q x → ds.length = 3 := by
  intro ds q x h
  unfold sp__law_rests at h
  split at h
  · rfl
  · exact h.elim
def W__law_rests (d : Dw) (rx : Exn → Prop) : WS :=
    (wSeq (wSet 3 (wCall (sp__law_take d) (wCons (wVar 0) (wCons (wC (.int 4)) wNil)) rx))
    (wSeq (wIfS (wTst (wOp (eqW false) (wVar 3) (wC (.int 0)))) (wRet (wCB tupW (wCons (wLc (wRng1 (wVar 2)) (gNm 4) wYes (wIf (wTst (wOp (eqW false) (wCall (sp__law_take d) (wCons (wVar 0) (wCons (wC (.int 3)) wNil)) (fun _ => False)) (wC (.int 0)))) (wCall (sp__law_take d) (wCons (wVar 0) (wCons (wVar 1) wNil)) (fun _ => False)) (wC (.int 0))) [4]) wNil))) wSkip)
    (wSeq (wIfS (wTst (wOp (eqW false) (wVar 3) (wC (.int 1)))) (wRet (wOp mulW (wTup (wCons (wCall (sp__law_take d) (wCons (wVar 0) (wCons (wVar 1) wNil)) rx) wNil)) (wVar 2))) wSkip)
    (wRet (wCB tupW (wCons (wLc (wRng1 (wVar 2)) (gNm 4) wYes (wCall (sp__law_take d) (wCons (wVar 0) (wCons (wVar 1) wNil)) (fun _ => False)) [4]) wNil))))))

theorem law__law_rests {d : Dw} : ∀ ds q x, sp__law_rests d ds q x → W__law_rests d x (startD 5 ds) { nx := fun _ => q (.val .non), rt := q } := by
  intro ds q x h
  unfold sp__law_rests at h
  split at h
  rotate_left
  · exact h.elim
  rename_i u p n
  obtain ⟨rfl, p1, p2, n0, n1, h⟩ := h
  have tk : ∀ (n : Int) (q : R → Prop) (x : Exn → Prop), 1 ≤ n → n ≤ 1000000 → (∀ r : Int, 0 ≤ r → r < n → q (.val (.int r))) → sp__law_take d [.obj (.ref d.ad), .int n] q x := fun n q x h0 h1 hq => by
    refine ⟨rfl, by omega, fun r r0 ra rb => hq r r0 ?_⟩
    by_cases c : n < 2
    · have := ra c; omega
    · exact rb (by omega)
  have fin : ∀ vs : List D, vs.length = (rngD 0 n.toNat).length → (∀ v ∈ vs, ∃ z : Int, v = .int z ∧ 0 ≤ z ∧ z < p) → q (.val (.tup vs)) := fun vs hl hv => by
    obtain ⟨zs, rfl, hz⟩ := ints_of vs hv
    rw [List.length_map, rngD_len] at hl
    exact h zs (by omega) hz
  simp [W__law_rests, stD, List.set]
  refine tk 4 _ _ (by decide) (by decide) fun r r0 r1 => ?_
  simp [dpt]
  by_cases c0 : r = 0
  · simp [c0]
    refine ⟨by omega, by omega, ?_⟩
    refine lc_each (fun v => ∃ z : Int, v = .int z ∧ 0 ≤ z ∧ z < p) (rngD 0 n.toNat) [] (fun e he Q hQ => ?_) (by rw [rngD_len]; exact Nat.le_trans (show [].length + n.toNat ≤ 100000 by simp; omega) (by decide)) fun vs hl hv => ?_
    · simp [wipeD, List.set]
      refine tk 3 _ _ (by decide) (by decide) fun r r0 r1 => ?_
      simp [dpt]
      by_cases c : r = 0
      · simp [c]
        exact tk p _ _ p1 p2 fun z z0 z1 => ⟨trivial, hQ _ ⟨z, rfl, z0, z1⟩⟩
      · simp [c]
        exact hQ _ ⟨0, rfl, by decide, by omega⟩
    · exact fin vs hl hv
  · by_cases c1 : r = 1
    · simp [c0, c1]
      refine tk p _ _ p1 p2 fun z z0 z1 => ?_
      simp
      have := h (List.replicate n.toNat z) (by simp; omega) (fun y hy => by rw [List.eq_of_mem_replicate hy]; exact ⟨z0, z1⟩)
      rw [List.map_replicate] at this
      exact ⟨by omega, by omega, this⟩
    · simp [c0, c1]
      refine ⟨by omega, by omega, ?_⟩
      refine lc_each (fun v => ∃ z : Int, v = .int z ∧ 0 ≤ z ∧ z < p) (rngD 0 n.toNat) [] (fun e he Q hQ => ?_) (by rw [rngD_len]; exact Nat.le_trans (show [].length + n.toNat ≤ 100000 by simp; omega) (by decide)) fun vs hl hv => ?_
      · simp [wipeD, List.set]
        exact tk p _ _ p1 p2 fun z z0 z1 => ⟨trivial, hQ _ ⟨z, rfl, z0, z1⟩⟩
      · exact fin vs hl hv

theorem sc__law_rests : FnScope ["draw", "prime", "many", "way", "lap"] ["draw", "prime", "many"] (defScope s__law_rests) := ⟨rfl, rfl, rfl, by decide +kernel, rfl, by decide +kernel, by decide +kernel⟩
theorem ok__law_rests {d : Dw} (D : DefAt K mg "_law_rests" s__law_rests ["draw", "prime", "many"] kb__law_rests) (T : Txt K mg) (F__law_take : Cal3 P w K mg base (wdOf d) 2 "_law_take" ["draw", "amount"] kb__law_take (sp__law_take d) 2) : Cal3 P w K mg base (wdOf d) 3 "_law_rests" ["draw", "prime", "many"] kb__law_rests (sp__law_rests d) 3 :=
  have nd := sc__law_rests.nd
  dok (N := ["draw", "prime", "many", "way", "lap"]) (wf := W__law_rests d) D sc__law_rests rfl len__law_rests (fun f cdv A outer s H G E rx hr c tk => (dss_cons (ds_set 3 nd (de_c c F__law_take hr (by decide) rfl (da_cons (de_var 0) (da_cons de_int da_nil))))
      (dss_cons (ds_if (dt_cmpC (c_eq c.hu c.hK) (de_var 3) de_int) (dss_one (ds_ret (de_callTy call_tuple_of (cd_tup c.hK) rfl T.b_tuple (by decide +kernel) (da_cons (de_lc (own := [("lap", 4)]) c nd (by decide) (di_rng1 rfl T.b_range (de_var 2)) (blkOk_by rfl) (fun _ _ _ _ _ c => (dg_name 4 nd)) (fun _ _ _ _ _ c => dts_nil) (fun _ _ _ _ _ c => (de_if (dt_cmpC (c_eq c.hu c.hK) (de_c c F__law_take hr (by decide) rfl (da_cons (de_var 0) (da_cons de_int da_nil))) de_int) (de_c c F__law_take hr (by decide) rfl (da_cons (de_var 0) (da_cons (de_var 1) da_nil))) de_int))) da_nil)))) dss_nil)
      (dss_cons (ds_if (dt_cmpC (c_eq c.hu c.hK) (de_var 3) de_int) (dss_one (ds_ret (de_mul c.hK (de_tup (da_cons (de_c c F__law_take hr (by decide) rfl (da_cons (de_var 0) (da_cons (de_var 1) da_nil))) da_nil)) (de_var 2)))) dss_nil)
      (dss_one (ds_ret (de_callTy call_tuple_of (cd_tup c.hK) rfl T.b_tuple (by decide +kernel) (da_cons (de_lc (own := [("lap", 4)]) c nd (by decide) (di_rng1 rfl T.b_range (de_var 2)) (blkOk_by rfl) (fun _ _ _ _ _ c => (dg_name 4 nd)) (fun _ _ _ _ _ c => dts_nil) (fun _ _ _ _ _ c => (de_c c F__law_take hr (by decide) rfl (da_cons (de_var 0) (da_cons (de_var 1) da_nil))))) da_nil)))))))) law__law_rests

end
end My

set_option maxRecDepth 100000
set_option maxHeartbeats 4000000
namespace My
open PySem PySem.Spec L2 L3
section
variable {P : Program} {w : World} {K : PySem.W.Frag} {mg : Str → Option Value} {base : Heap} {W : Wd}
abbrev kb__law_poly : List (List Str × List Nat) := []
def sp__law_poly (d : Dw) : WF := fun ds q x => match ds with
  | [.obj u, .int p, .int n] => u = .ref d.ad ∧ 1 ≤ p ∧ p ≤ 1000 ∧ 0 ≤ n ∧ n ≤ 9000 ∧ ∀ vs : List Int, trim vs = vs → Rst p vs → (vs.length : Int) ≤ n → q (.val (.tup (dI vs)))
  | _ => False

theorem len__law_poly {d : Dw} : ∀ ds q x, sp__law_poly d ds q x → ds.length = 3 := by
  intro ds q x h
  unfold sp__law_poly at h
  split at h
  · rfl
  · exact h.elim
def W__law_poly (d : Dw) (rx : Exn → Prop) : WS :=
    (wRet (wCall sp__law_cut (wCons (wCall (sp__law_rests d) (wCons (wVar 0) (wCons (wVar 1) (wCons (wCall (sp__law_take d) (wCons (wVar 0) (wCons (wOp addW (wVar 2) (wC (.int 1))) wNil)) rx) wNil))) rx) wNil) rx))

theorem law__law_poly {d : Dw} : ∀ ds q x, sp__law_poly d ds q x → W__law_poly d x (startD 3 ds) { nx := fun _ => q (.val .non), rt := q } := by
  intro ds q x h
  unfold sp__law_poly at h
  split at h
  rotate_left
  · exact h.elim
  rename_i u p n
  obtain ⟨rfl, p1, p2, n0, n1, h⟩ := h
  simp [W__law_poly, sp__law_take]
  refine ⟨by omega, fun r r0 ra rb => ?_⟩
  simp [sp__law_rests]
  have hr : r ≤ n := by
    by_cases c : n + 1 < 2
    · have := ra c; omega
    · have := rb (by omega); omega
  refine ⟨by omega, by omega, r0, by omega, fun vs hl hv => ?_⟩
  simp [sp__law_cut]
  refine ⟨vs, rfl, by omega, ?_⟩
  have := trim_len vs
  exact h _ (trim_trim _) (Rst.trim hv) (by omega)

theorem sc__law_poly : FnScope ["draw", "prime", "most"] ["draw", "prime", "most"] (defScope s__law_poly) := ⟨rfl, rfl, rfl, by decide +kernel, rfl, by decide +kernel, by decide +kernel⟩
theorem ok__law_poly {d : Dw} (D : DefAt K mg "_law_poly" s__law_poly ["draw", "prime", "most"] kb__law_poly) (T : Txt K mg) (F__law_cut : Cal3 P w K mg base (wdOf d) 1 "_law_cut" ["numbers"] kb__law_cut sp__law_cut 1) (F__law_rests : Cal3 P w K mg base (wdOf d) 3 "_law_rests" ["draw", "prime", "many"] kb__law_rests (sp__law_rests d) 3) (F__law_take : Cal3 P w K mg base (wdOf d) 2 "_law_take" ["draw", "amount"] kb__law_take (sp__law_take d) 2) : Cal3 P w K mg base (wdOf d) 4 "_law_poly" ["draw", "prime", "most"] kb__law_poly (sp__law_poly d) 3 :=
  have nd := sc__law_poly.nd
  dok (N := ["draw", "prime", "most"]) (wf := W__law_poly d) D sc__law_poly rfl len__law_poly (fun f cdv A outer s H G E rx hr c tk => (dss_one (ds_ret (de_c c F__law_cut hr (by decide) rfl (da_cons (de_c c F__law_rests hr (by decide) rfl (da_cons (de_var 0) (da_cons (de_var 1) (da_cons (de_c c F__law_take hr (by decide) rfl (da_cons (de_var 0) (da_cons (de_add c.hK (de_var 2) de_int) da_nil))) da_nil)))) da_nil))))) law__law_poly

end
end My

set_option maxRecDepth 100000
set_option maxHeartbeats 4000000
namespace My
open PySem PySem.Spec L2 L3
section
variable {P : Program} {w : World} {K : PySem.W.Frag} {mg : Str → Option Value} {base : Heap} {W : Wd}
abbrev kb_trimmed : List (List Str × List Nat) := []
/-- a line handed in: a list or a tuple -/
def sp_trimmed : WF := fun ds q x => match ds with
  | [s] => ∃ vs : List Int, (s = .lst (dI vs) ∨ s = .tup (dI vs)) ∧ vs.length ≤ 100000 ∧ q (.val (.tup (dI (trim vs))))
  | _ => False

theorem len_trimmed : ∀ ds q x, sp_trimmed ds q x → ds.length = 1 := by
  intro ds q x h
  unfold sp_trimmed at h
  split at h
  · rfl
  · exact h.elim
def W_trimmed (rx : Exn → Prop) : WS :=
    (wSeq (wSet 1 (wCB lenW (wCons (wVar 0) wNil)))
    (wSeq (wWhile (wAndT (wTst (wOp gtW (wVar 1) (wC (.int 0)))) (wTst (wOp (eqW false) (wOp ixW (wVar 0) (wOp subW (wVar 1) (wC (.int 1)))) (wC (.int 0))))) (wSet 1 (wOp subW (wVar 1) (wC (.int 1)))))
    (wRet (wCB tupW (wCons (wSl (wVar 0) wNo (wSo (wVar 1))) wNil)))))

theorem law_trimmed : ∀ ds q x, sp_trimmed ds q x → W_trimmed x (startD 2 ds) { nx := fun _ => q (.val .non), rt := q } := by
  intro ds q x h
  unfold sp_trimmed at h
  split at h
  rotate_left
  · exact h.elim
  rename_i s
  obtain ⟨vs, hs, hl, h⟩ := h
  rcases hs with rfl | rfl
  all_goals
    simp [W_trimmed, stD, List.set]
    refine ⟨fun m δ => δ = [some (.val _), some (.val (.int (m : Int)))] ∧ m ≤ vs.length ∧ trim (vs.take m) = trim vs, ⟨vs.length, rfl, Nat.le_refl _, by rw [List.take_length]⟩, ?_⟩
    rintro m δ ⟨rfl, hm, e⟩
    have fin : vs.take m = trim vs → q (.val (.tup (cutD (dI vs) none (some (m : Int))))) := fun e2 => by
      rw [cutD_take (xs := dI vs) (m := m) (by simp; exact hm), ← List.map_take, e2]; exact h
    cases m with
    | zero =>
      have := fin (by rw [← e]; rfl)
      simpa using this
    | succ m =>
      have e1 : vs[m]? = some (vs[m]) := List.getElem?_eq_getElem (by omega)
      have e3 := trim_take e1
      have a1 := atI_dI e1
      have c0 : (0 : Int) < (m : Int) + 1 := by omega
      simp [c0, a1, dpt]
      by_cases z : vs[m] = 0
      · rw [if_pos z] at e3
        simp [z]
        exact ⟨m, by omega, rfl, by omega, by rw [← e3]; exact e⟩
      · rw [if_neg z] at e3
        simp [z]
        have := fin (by rw [← e3]; exact e)
        simpa using this

theorem sc_trimmed : FnScope ["numbers", "many"] ["numbers"] (defScope s_trimmed) := ⟨rfl, rfl, rfl, by decide +kernel, rfl, by decide +kernel, by decide +kernel⟩
theorem ok_trimmed (D : DefAt K mg "trimmed" s_trimmed ["numbers"] kb_trimmed) (T : Txt K mg) : Cal3 P w K mg base W 1 "trimmed" ["numbers"] kb_trimmed sp_trimmed 1 :=
  have nd := sc_trimmed.nd
  dok (N := ["numbers", "many"]) (wf := W_trimmed) D sc_trimmed rfl len_trimmed (fun f cdv A outer s H G E rx hr c tk => (dss_cons (ds_set 1 nd (de_callB call_len_seq (cd_len c.hK) rfl T.b_len (by decide +kernel) (da_cons (de_var 0) da_nil)))
      (dss_cons (ds_while c (dt_pw (dw_and (dt_cmpC c_gt (de_var 1) de_int) (dw_and1 (dt_cmpC (c_eq c.hu c.hK) (de_ix c.hK (de_var 0) (de_sub (de_var 1) de_int)) de_int)))) (dss_one (ds_set 1 nd (de_sub (de_var 1) de_int))))
      (dss_one (ds_ret (de_callTy call_tuple_of (cd_tup c.hK) rfl T.b_tuple (by decide +kernel) (da_cons (de_sl c.hK (de_var 0) do_none (do_some (de_var 1))) da_nil))))))) law_trimmed

end
end My

set_option maxRecDepth 100000
set_option maxHeartbeats 4000000
namespace My
open PySem PySem.Spec L2 L3
section
variable {P : Program} {w : World} {K : PySem.W.Frag} {mg : Str → Option Value} {base : Heap} {W : Wd}
abbrev kb_plus_by : List (List Str × List Nat) := []
def sp_plus_by : WF := fun ds q x => match ds with
  | [.int p, a, b] => ∃ as bs : List Int, a = .tup (dI as) ∧ b = .tup (dI bs) ∧ 0 < p ∧ as.length ≤ 10000 ∧ bs.length ≤ 10000 ∧ q (.val (.tup (dI (plusP p as bs))))
  | _ => False
theorem rep_pad (as : List Int) (n : Nat) : dI as ++ List.replicate (n - as.length) (D.int 0) = dI (pad n as) := by
  simp [pad]
theorem padW {δ : De} {i M : Nat} {as : List Int} {Q : R → Prop} (h3 : δ[3]? = some (some (.val (.int (M : Nat))))) (hi : δ[i]? = some (some (.val (.tup (dI as))))) (hl : as.length ≤ M) (hM : M ≤ 10000) (hq : Q (.own (dI (pad M as)))) :
    wOp addW (wCB listW (wCons (wVar i) wNil)) (wOp mulW (wLst (wCons (wC (.int 0)) wNil)) (wOp subW (wVar 3) (wCB lenW (wCons (wVar i) wNil)))) δ Q := by
  simp only [wOp, wCB, wCons, wNil, wLst, wC, wv hi, wv h3]
  have e : (List.replicate ((M : Int) - (dI as).length).toNat [D.int 0]).flatten = List.replicate (M - as.length) (D.int 0) := by
    rw [show ((M : Int) - (dI as).length).toNat = M - as.length by rw [List.length_map]; omega]
    induction (M - as.length) with
    | zero => rfl
    | succ k ih => rw [List.replicate_succ, List.flatten_cons, ih]; rfl
  have hl2 : (dI as).length = as.length := List.length_map ..
  refine ⟨⟨trivial, trivial⟩, show 1 ≤ 1000 by decide, trivial, ?_⟩
  refine ⟨show (-1000000 : Int) ≤ (M : Int) - (dI as).length by omega, show (M : Int) - (dI as).length ≤ 1000000 by omega, show 1 * ((M : Int) - (dI as).length).toNat ≤ 1000000 by omega, ?_⟩
  show (dI as).length + (List.replicate ((M : Int) - (dI as).length).toNat [D.int 0]).flatten.length ≤ sizeLine ∧ Q (.own (dI as ++ (List.replicate ((M : Int) - (dI as).length).toNat [D.int 0]).flatten))
  rw [e, rep_pad, List.length_replicate]
  exact ⟨sz1000 (by omega), hq⟩
theorem maxW2 {δ : De} {as bs : List Int} {Q : R → Prop} (h1 : δ[1]? = some (some (.val (.tup (dI as))))) (h2 : δ[2]? = some (some (.val (.tup (dI bs))))) (hq : Q (.val (.int ((max as.length bs.length : Nat) : Int)))) :
    wCB maxW (wCons (wCB lenW (wCons (wVar 1) wNil)) (wCons (wCB lenW (wCons (wVar 2) wNil)) wNil)) δ Q := by
  simp only [wCB, wCons, wNil, wv h1, wv h2]
  show Q (.val (.int (if ((dI bs).length : Int) > (dI as).length then ((dI bs).length : Int) else (dI as).length)))
  have e : (if ((dI bs).length : Int) > (dI as).length then ((dI bs).length : Int) else (dI as).length) = ((max as.length bs.length : Nat) : Int) := by
    rw [List.length_map, List.length_map]
    split <;> omega
  rw [e]; exact hq
theorem zip_dI (f : Int → Int → Int) : ∀ as bs : List Int, (zipD (dI as) (dI bs)).filterMap (fun d => match d with | .tup [.int a, .int b] => some (D.int (f a b)) | _ => none) = dI (List.zipWith f as bs)
  | [], bs => rfl
  | a :: as, [] => rfl
  | a :: as, b :: bs => by
    have := zip_dI f as bs
    simp [zipD] at this ⊢
    exact this
theorem zip_mem {as bs : List Int} {d : D} (h : d ∈ zipD (dI as) (dI bs)) : ∃ a b : Int, d = .tup [.int a, .int b] ∧ a ∈ as ∧ b ∈ bs := by
  obtain ⟨i, hi, e⟩ := List.getElem_of_mem h
  have e1 : (zipD (dI as) (dI bs))[i]? = some d := by rw [List.getElem?_eq_getElem hi, e]
  obtain ⟨x, y, h1, h2, rfl⟩ := zipD_get e1
  rw [List.getElem?_map] at h1 h2
  obtain ⟨a, ha, rfl⟩ := Option.map_eq_some_iff.mp h1
  obtain ⟨b, hb, rfl⟩ := Option.map_eq_some_iff.mp h2
  exact ⟨a, b, rfl, List.mem_of_getElem? ha, List.mem_of_getElem? hb⟩
theorem zip_len (as bs : List Int) : (zipD (dI as) (dI bs)).length = min as.length bs.length := by
  unfold zipD
  rw [List.length_zipWith, List.length_map, List.length_map]
abbrev wPd (i : Nat) : WE := wOp addW (wCB listW (wCons (wVar i) wNil)) (wOp mulW (wLst (wCons (wC (.int 0)) wNil)) (wOp subW (wVar 3) (wCB lenW (wCons (wVar i) wNil))))
abbrev wMx : WE := wCB maxW (wCons (wCB lenW (wCons (wVar 1) wNil)) (wCons (wCB lenW (wCons (wVar 2) wNil)) wNil))
theorem set_mx {w2 : WS} {δ : De} {q : EndsD} {as bs : List Int} (h1 : δ[1]? = some (some (.val (.tup (dI as))))) (h2 : δ[2]? = some (some (.val (.tup (dI bs))))) (h : w2 (δ.set 3 (some (.val (.int ((max as.length bs.length : Nat) : Int))))) q) : wSeq (wSet 3 wMx) w2 δ q := by
  unfold wSeq wSet
  exact maxW2 h1 h2 h
theorem par_pd {w3 : WS} {δ : De} {q : EndsD} {as bs : List Int} {M : Nat} (h1 : δ[1]? = some (some (.val (.tup (dI as))))) (h2 : δ[2]? = some (some (.val (.tup (dI bs))))) (h3 : δ[3]? = some (some (.val (.int (M : Nat))))) (l1 : as.length ≤ M) (l2 : bs.length ≤ M) (hM : M ≤ 10000)
    (h : w3 ((δ.set 4 (some (.own (dI (pad M as))))).set 5 (some (.own (dI (pad M bs))))) q) : wSeq (wPar 4 5 (wPd 1) (wPd 2)) w3 δ q := by
  unfold wSeq wPar
  exact padW h3 h1 l1 hM (padW h3 h2 l2 hM h)
theorem plusW {sp : WF} {te : WE} {x : Exn → Prop} {p : Int} {as bs : List Int} {q : EndsD} (ha : as.length ≤ 10000) (hb : bs.length ≤ 10000)
    (hte : ∀ (M l r : D) (a b : Int) (Q : R → Prop), Q (.val (.int ((a + b) % p))) → te [some (.val (.int p)), some (.val (.tup (dI as))), some (.val (.tup (dI bs))), some (.val M), some (.val l), some (.val r), some (.val (.int a)), some (.val (.int b))] Q)
    (hsp : sp [.lst (dI (addZ p as bs))] (fun r => match r with | .bor ds => q.rt (.own ds) | r => q.rt r) x) :
    (wSeq (wSet 3 wMx) (wSeq (wPar 4 5 (wPd 1) (wPd 2)) (wFz 5 (wFz 4 (wRet (wCall sp (wCons (wLc (wZip (wCons (wVar 4) (wCons (wVar 5) wNil))) (gTp 2 (gsCons (gNm 6) (gsCons (gNm 7) gsNil))) wYes te [6, 7]) wNil) x)))))) (startD 8 [.int p, .tup (dI as), .tup (dI bs)]) q := by
  have l1 := pad_len (max as.length bs.length) as (Nat.le_max_left _ _)
  have l2 := pad_len (max as.length bs.length) bs (Nat.le_max_right _ _)
  have hm : max as.length bs.length ≤ 10000 := Nat.max_le.mpr ⟨ha, hb⟩
  refine set_mx (as := as) (bs := bs) rfl rfl ?_
  refine par_pd (as := as) (bs := bs) (M := max as.length bs.length) rfl rfl rfl (Nat.le_max_left _ _) (Nat.le_max_right _ _) hm ?_
  show wRet (wCall sp (wCons (wLc (wZip (wCons (wVar 4) (wCons (wVar 5) wNil))) (gTp 2 (gsCons (gNm 6) (gsCons (gNm 7) gsNil))) wYes te [6, 7]) wNil) x) [some (.val (.int p)), some (.val (.tup (dI as))), some (.val (.tup (dI bs))), some (.val (.int ((max as.length bs.length : Nat) : Int))), some (.val (.lst (dI (pad (max as.length bs.length) as)))), some (.val (.lst (dI (pad (max as.length bs.length) bs)))), none, none] q
  refine ⟨⟨trivial, trivial, trivial⟩, ?_⟩
  refine lc_pure (fun d => match d with | .tup [.int a, .int b] => some (D.int ((a + b) % p)) | _ => none) (zipD (dI (pad (max as.length bs.length) as)) (dI (pad (max as.length bs.length) bs))) [] (fun d hd Q hQ => ?_) (sz1000 (by rw [zip_len, l1, l2, Nat.min_self, List.length_nil, Nat.zero_add]; exact hm)) ?_
  · obtain ⟨u, v, rfl, _, _⟩ := zip_mem hd
    exact ⟨rfl, hte _ _ _ u v _ ⟨trivial, hQ⟩⟩
  · rw [List.nil_append, zip_dI (fun a b => (a + b) % p)]
    exact call_nb (rs := [R.own (dI (addZ p as bs))]) rfl hsp

theorem len_plus_by : ∀ ds q x, sp_plus_by ds q x → ds.length = 3 := by
  intro ds q x h
  unfold sp_plus_by at h
  split at h
  · rfl
  · exact h.elim
def W_plus_by (rx : Exn → Prop) : WS :=
    (wSeq (wSet 3 (wCB maxW (wCons (wCB lenW (wCons (wVar 1) wNil)) (wCons (wCB lenW (wCons (wVar 2) wNil)) wNil))))
    (wSeq (wPar 4 5 (wOp addW (wCB listW (wCons (wVar 1) wNil)) (wOp mulW (wLst (wCons (wC (.int 0)) wNil)) (wOp subW (wVar 3) (wCB lenW (wCons (wVar 1) wNil))))) (wOp addW (wCB listW (wCons (wVar 2) wNil)) (wOp mulW (wLst (wCons (wC (.int 0)) wNil)) (wOp subW (wVar 3) (wCB lenW (wCons (wVar 2) wNil))))))
    (wFz 5 (wFz 4 (wRet (wCall sp_trimmed (wCons (wLc (wZip (wCons (wVar 4) (wCons (wVar 5) wNil))) (gTp 2 (gsCons (gNm 6) (gsCons (gNm 7) gsNil))) wYes (wOp modW (wOp addW (wVar 6) (wVar 7)) (wVar 0)) [6, 7]) wNil) rx))))))

theorem law_plus_by : ∀ ds q x, sp_plus_by ds q x → W_plus_by x (startD 8 ds) { nx := fun _ => q (.val .non), rt := q } := by
  intro ds q x h
  unfold sp_plus_by at h
  split at h
  rotate_left
  · exact h.elim
  rename_i p a b
  obtain ⟨as, bs, rfl, rfl, hp, ha, hb, h⟩ := h
  exact plusW ha hb (fun _ _ _ _ _ _ hQ => ⟨hp, hQ⟩) ⟨addZ p as bs, .inl rfl, by rw [addZ_len]; omega, h⟩

theorem sc_plus_by : FnScope ["prime", "one", "other", "many", "left", "right", "first", "second"] ["prime", "one", "other"] (defScope s_plus_by) := ⟨rfl, rfl, rfl, by decide +kernel, rfl, by decide +kernel, by decide +kernel⟩
theorem ok_plus_by (D : DefAt K mg "plus_by" s_plus_by ["prime", "one", "other"] kb_plus_by) (T : Txt K mg) (F_trimmed : Cal3 P w K mg base W 1 "trimmed" ["numbers"] kb_trimmed sp_trimmed 1) : Cal3 P w K mg base W 2 "plus_by" ["prime", "one", "other"] kb_plus_by sp_plus_by 3 :=
  have nd := sc_plus_by.nd
  dok (N := ["prime", "one", "other", "many", "left", "right", "first", "second"]) (wf := W_plus_by) D sc_plus_by rfl len_plus_by (fun f cdv A outer s H G E rx hr c tk => (dss_cons (ds_set 3 nd (de_callB (call_max2 c.calm) (cd_max2) rfl T.b_max (by decide +kernel) (da_cons (de_callB call_len_seq (cd_len c.hK) rfl T.b_len (by decide +kernel) (da_cons (de_var 1) da_nil)) (da_cons (de_callB call_len_seq (cd_len c.hK) rfl T.b_len (by decide +kernel) (da_cons (de_var 2) da_nil)) da_nil))))
      (dss_cons (ds_par (i := 4) (j := 5) c.calm nd (de_add c.hK (de_callTy call_list_of (cd_list c.hK) rfl T.b_list (by decide +kernel) (da_cons (de_var 1) da_nil)) (de_mul c.hK (de_lst (da_cons de_int da_nil)) (de_sub (de_var 3) (de_callB call_len_seq (cd_len c.hK) rfl T.b_len (by decide +kernel) (da_cons (de_var 1) da_nil))))) (de_add c.hK (de_callTy call_list_of (cd_list c.hK) rfl T.b_list (by decide +kernel) (da_cons (de_var 2) da_nil)) (de_mul c.hK (de_lst (da_cons de_int da_nil)) (de_sub (de_var 3) (de_callB call_len_seq (cd_len c.hK) rfl T.b_len (by decide +kernel) (da_cons (de_var 2) da_nil))))))
      (dss_one (ds_fz 5 (ds_fz 4 (ds_ret (de_c c F_trimmed hr (by decide) rfl (da_cons (de_lc (own := [("first", 6), ("second", 7)]) c nd (by decide) (di_zip c.hK rfl T.b_zip (da_cons (de_var 4) (da_cons (de_var 5) da_nil))) (blkOk_by rfl) (fun _ _ _ _ _ c => (dg_tup c.hK c.calm (dgs_cons (dg_name 6 nd) (dgs_cons (dg_name 7 nd) dgs_nil)))) (fun _ _ _ _ _ c => dts_nil) (fun _ _ _ _ _ c => (de_mod (de_add c.hK (de_var 6) (de_var 7)) (de_var 0)))) da_nil))))))))) law_plus_by

end
end My

set_option maxRecDepth 100000
set_option maxHeartbeats 4000000
namespace My
open PySem PySem.Spec L2 L3
section
variable {P : Program} {w : World} {K : PySem.W.Frag} {mg : Str → Option Value} {base : Heap} {W : Wd}
abbrev kb__law_plus : List (List Str × List Nat) := []
def sp__law_plus : WF := fun ds q x => match ds with
  | [.int p, a, b] => ∃ as bs : List Int, a = .tup (dI as) ∧ b = .tup (dI bs) ∧ 0 < p ∧ as.length ≤ 10000 ∧ bs.length ≤ 10000 ∧ q (.val (.tup (dI (plusP p as bs))))
  | _ => False

theorem len__law_plus : ∀ ds q x, sp__law_plus ds q x → ds.length = 3 := by
  intro ds q x h
  unfold sp__law_plus at h
  split at h
  · rfl
  · exact h.elim
def W__law_plus (rx : Exn → Prop) : WS :=
    (wSeq (wSet 3 (wCB maxW (wCons (wCB lenW (wCons (wVar 1) wNil)) (wCons (wCB lenW (wCons (wVar 2) wNil)) wNil))))
    (wSeq (wPar 4 5 (wOp addW (wCB listW (wCons (wVar 1) wNil)) (wOp mulW (wLst (wCons (wC (.int 0)) wNil)) (wOp subW (wVar 3) (wCB lenW (wCons (wVar 1) wNil))))) (wOp addW (wCB listW (wCons (wVar 2) wNil)) (wOp mulW (wLst (wCons (wC (.int 0)) wNil)) (wOp subW (wVar 3) (wCB lenW (wCons (wVar 2) wNil))))))
    (wFz 5 (wFz 4 (wRet (wCall sp__law_cut (wCons (wLc (wZip (wCons (wVar 4) (wCons (wVar 5) wNil))) (gTp 2 (gsCons (gNm 6) (gsCons (gNm 7) gsNil))) wYes (wOp modW (wCB intW (wCons (wOp addW (wVar 6) (wVar 7)) wNil)) (wVar 0)) [6, 7]) wNil) rx))))))

theorem law__law_plus : ∀ ds q x, sp__law_plus ds q x → W__law_plus x (startD 8 ds) { nx := fun _ => q (.val .non), rt := q } := by
  intro ds q x h
  unfold sp__law_plus at h
  split at h
  rotate_left
  · exact h.elim
  rename_i p a b
  obtain ⟨as, bs, rfl, rfl, hp, ha, hb, h⟩ := h
  exact plusW ha hb (fun _ _ _ _ _ _ hQ => ⟨hp, hQ⟩) ⟨addZ p as bs, .inl rfl, by rw [addZ_len]; omega, h⟩

theorem sc__law_plus : FnScope ["prime", "one", "other", "many", "left", "right", "a", "b"] ["prime", "one", "other"] (defScope s__law_plus) := ⟨rfl, rfl, rfl, by decide +kernel, rfl, by decide +kernel, by decide +kernel⟩
theorem ok__law_plus (D : DefAt K mg "_law_plus" s__law_plus ["prime", "one", "other"] kb__law_plus) (T : Txt K mg) (F__law_cut : Cal3 P w K mg base W 1 "_law_cut" ["numbers"] kb__law_cut sp__law_cut 1) : Cal3 P w K mg base W 2 "_law_plus" ["prime", "one", "other"] kb__law_plus sp__law_plus 3 :=
  have nd := sc__law_plus.nd
  dok (N := ["prime", "one", "other", "many", "left", "right", "a", "b"]) (wf := W__law_plus) D sc__law_plus rfl len__law_plus (fun f cdv A outer s H G E rx hr c tk => (dss_cons (ds_set 3 nd (de_callB (call_max2 c.calm) (cd_max2) rfl T.b_max (by decide +kernel) (da_cons (de_callB call_len_seq (cd_len c.hK) rfl T.b_len (by decide +kernel) (da_cons (de_var 1) da_nil)) (da_cons (de_callB call_len_seq (cd_len c.hK) rfl T.b_len (by decide +kernel) (da_cons (de_var 2) da_nil)) da_nil))))
      (dss_cons (ds_par (i := 4) (j := 5) c.calm nd (de_add c.hK (de_callTy call_list_of (cd_list c.hK) rfl T.b_list (by decide +kernel) (da_cons (de_var 1) da_nil)) (de_mul c.hK (de_lst (da_cons de_int da_nil)) (de_sub (de_var 3) (de_callB call_len_seq (cd_len c.hK) rfl T.b_len (by decide +kernel) (da_cons (de_var 1) da_nil))))) (de_add c.hK (de_callTy call_list_of (cd_list c.hK) rfl T.b_list (by decide +kernel) (da_cons (de_var 2) da_nil)) (de_mul c.hK (de_lst (da_cons de_int da_nil)) (de_sub (de_var 3) (de_callB call_len_seq (cd_len c.hK) rfl T.b_len (by decide +kernel) (da_cons (de_var 2) da_nil))))))
      (dss_one (ds_fz 5 (ds_fz 4 (ds_ret (de_c c F__law_cut hr (by decide) rfl (da_cons (de_lc (own := [("a", 6), ("b", 7)]) c nd (by decide) (di_zip c.hK rfl T.b_zip (da_cons (de_var 4) (da_cons (de_var 5) da_nil))) (blkOk_by rfl) (fun _ _ _ _ _ c => (dg_tup c.hK c.calm (dgs_cons (dg_name 6 nd) (dgs_cons (dg_name 7 nd) dgs_nil)))) (fun _ _ _ _ _ c => dts_nil) (fun _ _ _ _ _ c => (de_mod (de_callTy call_int1 (cd_int) rfl T.b_int (by decide +kernel) (da_cons (de_add c.hK (de_var 6) (de_var 7)) da_nil)) (de_var 0)))) da_nil))))))))) law__law_plus

end
end My

set_option maxRecDepth 100000
set_option maxHeartbeats 4000000
namespace My
open PySem PySem.Spec L2 L3
section
variable {P : Program} {w : World} {K : PySem.W.Frag} {mg : Str → Option Value} {base : Heap} {W : Wd}
abbrev kb_is_prime : List (List Str × List Nat) := []
def primeB : D → Bool
  | .int i => decide (i = 2) || decide (i = 3) || decide (i = 5) || decide (i = 7)
  | _ => false
def sp_is_prime : WF := fun ds q x => match ds with
  | [d] => okB d = true ∧ q (.val (.bl (primeB d)))
  | _ => False

theorem len_is_prime : ∀ ds q x, sp_is_prime ds q x → ds.length = 1 := by
  intro ds q x h
  unfold sp_is_prime at h
  split at h
  · rfl
  · exact h.elim
def W_is_prime (rx : Exn → Prop) : WS :=
    (wRet (wAnd (wCall sp_is_whole (wCons (wVar 0) wNil) rx) (wOp (inW false) (wVar 0) (wC K_PRIMES))))

theorem law_is_prime : ∀ ds q x, sp_is_prime ds q x → W_is_prime x (startD 1 ds) { nx := fun _ => q (.val .non), rt := q } := by
  intro ds q x h
  unfold sp_is_prime at h
  split at h
  rotate_left
  · exact h.elim
  rename_i d
  obtain ⟨h0, h⟩ := h
  cases d <;> simp [primeB, okB, whB, W_is_prime, sp_is_whole, K_PRIMES, toV, toVs, inV, eqV] at h0 h ⊢ <;> first | exact h | skip
  rename_i i
  have e : (2 == i || (3 == i || (5 == i || 7 == i))) = (decide (i = 2) || decide (i = 3) || decide (i = 5) || decide (i = 7)) := Bool.eq_iff_iff.mpr (by simp; omega)
  rw [e]; exact h

theorem sc_is_prime : FnScope ["thing"] ["thing"] (defScope s_is_prime) := ⟨rfl, rfl, rfl, by decide +kernel, rfl, by decide +kernel, by decide +kernel⟩
theorem ok_is_prime (D : DefAt K mg "is_prime" s_is_prime ["thing"] kb_is_prime) (T : Txt K mg) (F_is_whole : Cal3 P w K mg base W 1 "is_whole" ["thing"] kb_is_whole sp_is_whole 1) : Cal3 P w K mg base W 2 "is_prime" ["thing"] kb_is_prime sp_is_prime 1 :=
  have nd := sc_is_prime.nd
  dok (N := ["thing"]) (wf := W_is_prime) D sc_is_prime rfl len_is_prime (fun f cdv A outer s H G E rx hr c tk => (dss_one (ds_ret (de_and (de_c c F_is_whole hr (by decide) rfl (da_cons (de_var 0) da_nil)) (de_one (de_cmpC (c_in c.hK) (de_var 0) (de_ktup c.hK T.k_PRIMES rfl))))))) law_is_prime

end
end My

set_option maxRecDepth 100000
set_option maxHeartbeats 4000000
namespace My
open PySem PySem.Spec L2 L3
section
variable {P : Program} {w : World} {K : PySem.W.Frag} {mg : Str → Option Value} {base : Heap} {W : Wd}
abbrev kb_need_prime : List (List Str × List Nat) := []
abbrev P4 (p : Int) : Prop := p = 2 ∨ p = 3 ∨ p = 5 ∨ p = 7
theorem primeB_int {a : D} (h : primeB a = true) : ∃ p : Int, a = .int p ∧ P4 p := by
  cases a <;> simp [primeB] at h
  exact ⟨_, rfl, by simp only [P4]; omega⟩
theorem primeB_of {p : Int} (h : P4 p) : primeB (.int p) = true := by
  simp [primeB]; simp only [P4] at h; omega
theorem nprime {p : Int} (h : P4 p) (e : primeB (.int p) = false) : False := by rw [primeB_of h] at e; cases e
def sp_need_prime : WF := fun ds q x => match ds with
  | [d] => okB d = true ∧ (primeB d = false → x ⟨"BadPrime", none⟩) ∧ (primeB d = true → q (.val .non))
  | _ => False

theorem len_need_prime : ∀ ds q x, sp_need_prime ds q x → ds.length = 1 := by
  intro ds q x h
  unfold sp_need_prime at h
  split at h
  · rfl
  · exact h.elim
def W_need_prime (rx : Exn → Prop) : WS :=
    (wIfS (wNotT (wTru (wCall sp_is_prime (wCons (wVar 0) wNil) rx))) (wRaise "BadPrime" rx) wSkip)

theorem law_need_prime : ∀ ds q x, sp_need_prime ds q x → W_need_prime x (startD 1 ds) { nx := fun _ => q (.val .non), rt := q } := by
  intro ds q x h
  unfold sp_need_prime at h
  split at h
  rotate_left
  · exact h.elim
  rename_i d
  obtain ⟨h0, h1, h2⟩ := h
  cases c : primeB d with
  | false => simp [W_need_prime, sp_is_prime, h0, c]; exact h1 c
  | true => simp [W_need_prime, sp_is_prime, h0, c]; exact h2 c

theorem sc_need_prime : FnScope ["prime"] ["prime"] (defScope s_need_prime) := ⟨rfl, rfl, rfl, by decide +kernel, rfl, by decide +kernel, by decide +kernel⟩
theorem ok_need_prime (D : DefAt K mg "need_prime" s_need_prime ["prime"] kb_need_prime) (T : Txt K mg) (F_is_prime : Cal3 P w K mg base W 2 "is_prime" ["thing"] kb_is_prime sp_is_prime 1) : Cal3 P w K mg base W 3 "need_prime" ["prime"] kb_need_prime sp_need_prime 1 :=
  have nd := sc_need_prime.nd
  dok (N := ["prime"]) (wf := W_need_prime) D sc_need_prime rfl len_need_prime (fun f cdv A outer s H G E rx hr c tk => (dss_one (ds_if (dt_not (dt_tru c.hK (de_c c F_is_prime hr (by decide) rfl (da_cons (de_var 0) da_nil)))) (dss_one (ds_raiseX c tk T.x_BadPrime rfl)) dss_nil))) law_need_prime

end
end My

set_option maxRecDepth 100000
set_option maxHeartbeats 4000000
namespace My
open PySem PySem.Spec L2 L3
section
variable {P : Program} {w : World} {K : PySem.W.Frag} {mg : Str → Option Value} {base : Heap} {W : Wd}
abbrev kb_need_poly : List (List Str × List Nat) := []
def polyErr (w : Str) : Str := if w = "one" then "BadOne" else if w = "other" then "BadOther" else "BadPoly"
def sp_need_poly : WF := fun ds q x => match ds with
  | [.int p, d, .str w] => okA d = true ∧ p ≤ 1000 ∧ (w = "one" ∨ w = "other" ∨ w = "poly") ∧ (polyO p d = none → x ⟨polyErr w, none⟩) ∧ (∀ vs, polyO p d = some vs → q (.val .non))
  | _ => False

theorem len_need_poly : ∀ ds q x, sp_need_poly ds q x → ds.length = 3 := by
  intro ds q x h
  unfold sp_need_poly at h
  split at h
  · rfl
  · exact h.elim
def W_need_poly (rx : Exn → Prop) : WS :=
    (wSeq (wIfS (wTru (wCall sp_is_poly_of (wCons (wVar 0) (wCons (wVar 1) wNil)) rx)) wRetN wSkip)
    (wSeq (wIfS (wTst (wOp (eqW false) (wVar 2) (wC (.str "one")))) (wRaise "BadOne" rx) wSkip)
    (wSeq (wIfS (wTst (wOp (eqW false) (wVar 2) (wC (.str "other")))) (wRaise "BadOther" rx) wSkip)
    (wRaise "BadPoly" rx))))

theorem law_need_poly : ∀ ds q x, sp_need_poly ds q x → W_need_poly x (startD 3 ds) { nx := fun _ => q (.val .non), rt := q } := by
  intro ds q x h
  unfold sp_need_poly at h
  split at h
  rotate_left
  · exact h.elim
  rename_i p d w
  obtain ⟨h0, hp, hw, h1, h2⟩ := h
  cases c : polyO p d with
  | some vs => simp [W_need_poly, sp_is_poly_of, h0, hp, c]; exact h2 vs c
  | none =>
    have h1 := h1 c
    have d1 : (PyData.str ("one" : Str)).canLay0 = true := by decide +kernel
    have d2 : (PyData.str ("other" : Str)).canLay0 = true := by decide +kernel
    have d3 : (PyData.str ("poly" : Str)).canLay0 = true := by decide +kernel
    rcases hw with rfl | rfl | rfl
    · simp [W_need_poly, sp_is_poly_of, h0, hp, c, dpt, d1, d2, d3, eqP_str]
      exact h1
    · simp [W_need_poly, sp_is_poly_of, h0, hp, c, dpt, d1, d2, d3, eqP_str]
      exact h1
    · simp [W_need_poly, sp_is_poly_of, h0, hp, c, dpt, d1, d2, d3, eqP_str]
      exact h1

theorem sc_need_poly : FnScope ["prime", "poly", "which"] ["prime", "poly", "which"] (defScope s_need_poly) := ⟨rfl, rfl, rfl, by decide +kernel, rfl, by decide +kernel, by decide +kernel⟩
theorem ok_need_poly (D : DefAtD K mg "need_poly" s_need_poly ["prime", "poly", "which"] [.str "poly"]) (T : Txt K mg) (F_is_poly_of : Cal3 P w K mg base W 4 "is_poly_of" ["prime", "thing"] kb_is_poly_of sp_is_poly_of 2) : Cal3 P w K mg base W 5 "need_poly" ["prime", "poly", "which"] kb_need_poly sp_need_poly 3 ∧ CalD P w K mg base W 5 "need_poly" ["prime", "poly", "which"] [.str "poly"] sp_need_poly 3 :=
  have nd := sc_need_poly.nd
  dokD (N := ["prime", "poly", "which"]) (wf := W_need_poly) D sc_need_poly rfl len_need_poly (fun _ _ => ⟨_, _, rfl, rfl, rfl⟩) (fun f cdv A outer s H G E rx hr c tk => (dss_cons (ds_if (dt_tru c.hK (de_c c F_is_poly_of hr (by decide) rfl (da_cons (de_var 0) (da_cons (de_var 1) da_nil)))) (dss_one ds_retN) dss_nil)
      (dss_cons (ds_if (dt_cmpC (c_eq c.hu c.hK) (de_var 2) de_str) (dss_one (ds_raiseX c tk T.x_BadOne rfl)) dss_nil)
      (dss_cons (ds_if (dt_cmpC (c_eq c.hu c.hK) (de_var 2) de_str) (dss_one (ds_raiseX c tk T.x_BadOther rfl)) dss_nil)
      (dss_one (ds_raiseX c tk T.x_BadPoly rfl)))))) law_need_poly

end
end My

set_option maxRecDepth 100000
set_option maxHeartbeats 4000000
namespace My
open PySem PySem.Spec L2 L3
section
variable {P : Program} {w : World} {K : PySem.W.Frag} {mg : Str → Option Value} {base : Heap} {W : Wd}
abbrev kb_need_both : List (List Str × List Nat) := []
/-- a prime and two polys: what is raised, what is told -/
def both2 (P a b : D) (x : Exn → Prop) (k : Int → List Int → List Int → Prop) : Prop :=
  (primeB P = false → x ⟨"BadPrime", none⟩) ∧ ∀ p : Int, P = .int p → P4 p → (polyO p a = none → x ⟨"BadOne", none⟩) ∧ ∀ as, polyO p a = some as → (polyO p b = none → x ⟨"BadOther", none⟩) ∧ ∀ bs, polyO p b = some bs → k p as bs
def sp_need_both : WF := fun ds q x => match ds with
  | [P, a, b] => okA P = true ∧ okA a = true ∧ okA b = true ∧ both2 P a b x (fun _ _ _ => q (.val .non))
  | _ => False
/-- a poly's numbers -/
def Pol (p : Int) (vs : List Int) : Prop := trim vs = vs ∧ Rst p vs ∧ vs.length ≤ 200
theorem Pol.o {p : Int} {vs : List Int} (h : Pol p vs) : polyO p (.tup (dI vs)) = some vs := polyO_dI h.2.1 h.2.2 h.1
theorem b2_ok {p : Int} {as bs : List Int} {x : Exn → Prop} {k : Int → List Int → List Int → Prop} (ha : Pol p as) (hb : Pol p bs) (hp : P4 p) (h : k p as bs) : both2 (.int p) (.tup (dI as)) (.tup (dI bs)) x k := by
  refine ⟨fun e => (nprime hp e).elim, fun p' e _ => ?_⟩
  cases e
  refine ⟨fun e => (by rw [ha.o] at e; cases e), fun as' e => ?_⟩
  rw [ha.o] at e; cases e
  refine ⟨fun e => (by rw [hb.o] at e; cases e), fun bs' e => ?_⟩
  rw [hb.o] at e; cases e
  exact h
theorem b2_prime {P a b : D} {x : Exn → Prop} {k : Int → List Int → List Int → Prop} (hP : primeB P = false) (h : x ⟨"BadPrime", none⟩) : both2 P a b x k := by
  refine ⟨fun _ => h, fun p e hp => ?_⟩
  subst e
  rw [primeB_of hp] at hP; cases hP
theorem b2_one {p : Int} {a b : D} {x : Exn → Prop} {k : Int → List Int → List Int → Prop} (hp : P4 p) (ha : polyO p a = none) (h : x ⟨"BadOne", none⟩) : both2 (.int p) a b x k := by
  refine ⟨fun e => (nprime hp e).elim, fun p' e _ => ?_⟩
  cases e
  exact ⟨fun _ => h, fun as' e => by rw [ha] at e; cases e⟩
theorem b2_other {p : Int} {as : List Int} {b : D} {x : Exn → Prop} {k : Int → List Int → List Int → Prop} (hp : P4 p) (ha : Pol p as) (hb : polyO p b = none) (h : x ⟨"BadOther", none⟩) : both2 (.int p) (.tup (dI as)) b x k := by
  refine ⟨fun e => (nprime hp e).elim, fun p' e _ => ?_⟩
  cases e
  refine ⟨fun e => (by rw [ha.o] at e; cases e), fun as' e => ?_⟩
  exact ⟨fun _ => h, fun bs' e => by rw [hb] at e; cases e⟩

theorem len_need_both : ∀ ds q x, sp_need_both ds q x → ds.length = 3 := by
  intro ds q x h
  unfold sp_need_both at h
  split at h
  · rfl
  · exact h.elim
def W_need_both (rx : Exn → Prop) : WS :=
    (wSeq (wDrop (wCall sp_need_prime (wCons (wVar 0) wNil) rx))
    (wSeq (wDrop (wCall sp_need_poly (wCons (wVar 0) (wCons (wVar 1) (wCons (wC (.str "one")) wNil))) rx))
    (wDrop (wCall sp_need_poly (wCons (wVar 0) (wCons (wVar 2) (wCons (wC (.str "other")) wNil))) rx))))

theorem law_need_both : ∀ ds q x, sp_need_both ds q x → W_need_both x (startD 3 ds) { nx := fun _ => q (.val .non), rt := q } := by
  intro ds q x h
  unfold sp_need_both at h
  split at h
  rotate_left
  · exact h.elim
  rename_i P a b
  obtain ⟨oP, oa, ob, h1, h2⟩ := h
  cases c : primeB P with
  | false =>
    simp [W_need_both, sp_need_prime, okA_B oP, c]
    exact h1 c
  | true =>
    obtain ⟨p, rfl, hp⟩ := primeB_int c
    obtain ⟨h3, h4⟩ := h2 p rfl hp
    have hp3 : p ≤ 1000 := by simp only [P4] at hp; omega
    simp [W_need_both, sp_need_prime, okA_B oP, c, sp_need_poly, oa, ob, hp3]
    refine ⟨fun e => h3 e, fun as e => ?_⟩
    obtain ⟨h5, h6⟩ := h4 as e
    exact ⟨fun e => h5 e, fun bs e => h6 bs e⟩

theorem sc_need_both : FnScope ["prime", "one", "other"] ["prime", "one", "other"] (defScope s_need_both) := ⟨rfl, rfl, rfl, by decide +kernel, rfl, by decide +kernel, by decide +kernel⟩
theorem ok_need_both (D : DefAt K mg "need_both" s_need_both ["prime", "one", "other"] kb_need_both) (T : Txt K mg) (F_need_poly : Cal3 P w K mg base W 5 "need_poly" ["prime", "poly", "which"] kb_need_poly sp_need_poly 3) (F_need_prime : Cal3 P w K mg base W 3 "need_prime" ["prime"] kb_need_prime sp_need_prime 1) : Cal3 P w K mg base W 6 "need_both" ["prime", "one", "other"] kb_need_both sp_need_both 3 :=
  have nd := sc_need_both.nd
  dok (N := ["prime", "one", "other"]) (wf := W_need_both) D sc_need_both rfl len_need_both (fun f cdv A outer s H G E rx hr c tk => (dss_cons (ds_expr (de_c c F_need_prime hr (by decide) rfl (da_cons (de_var 0) da_nil)))
      (dss_cons (ds_expr (de_c c F_need_poly hr (by decide) rfl (da_cons (de_var 0) (da_cons (de_var 1) (da_cons de_str da_nil)))))
      (dss_one (ds_expr (de_c c F_need_poly hr (by decide) rfl (da_cons (de_var 0) (da_cons (de_var 2) (da_cons de_str da_nil))))))))) law_need_both

end
end My

set_option maxRecDepth 100000
set_option maxHeartbeats 4000000
namespace My
open PySem PySem.Spec L2 L3
section
variable {P : Program} {w : World} {K : PySem.W.Frag} {mg : Str → Option Value} {base : Heap} {W : Wd}
abbrev kb_poly_sum : List (List Str × List Nat) := [(["other", "one", "prime"], [2, 1, 0])]
def sp_poly_sum : WF := fun ds q x => match ds with
  | [P, a, b] => okA P = true ∧ okA a = true ∧ okA b = true ∧ both2 P a b x (fun p as bs => q (.val (.tup (dI (plusP p as bs)))))
  | _ => False
theorem poly_sum_of {P a b : D} {q : R → Prop} {x : Exn → Prop} (oP : okA P = true) (oa : okA a = true) (ob : okA b = true) (h : both2 P a b x (fun p as bs => q (.val (.tup (dI (plusP p as bs)))))) : sp_poly_sum [P, a, b] q x := ⟨oP, oa, ob, h⟩

theorem len_poly_sum : ∀ ds q x, sp_poly_sum ds q x → ds.length = 3 := by
  intro ds q x h
  unfold sp_poly_sum at h
  split at h
  · rfl
  · exact h.elim
def W_poly_sum (rx : Exn → Prop) : WS :=
    (wSeq (wDrop (wCall sp_need_both (wCons (wVar 0) (wCons (wVar 1) (wCons (wVar 2) wNil))) rx))
    (wRet (wCall sp_plus_by (wCons (wVar 0) (wCons (wVar 1) (wCons (wVar 2) wNil))) rx)))

theorem law_poly_sum : ∀ ds q x, sp_poly_sum ds q x → W_poly_sum x (startD 3 ds) { nx := fun _ => q (.val .non), rt := q } := by
  intro ds q x h
  unfold sp_poly_sum at h
  split at h
  rotate_left
  · exact h.elim
  rename_i P a b
  obtain ⟨oP, oa, ob, h1, h2⟩ := h
  simp [W_poly_sum, sp_need_both, oP, oa, ob]
  refine ⟨h1, fun p e hp => ?_⟩
  obtain ⟨h3, h4⟩ := h2 p e hp
  refine ⟨h3, fun as e1 => ?_⟩
  obtain ⟨h5, h6⟩ := h4 as e1
  refine ⟨h5, fun bs e2 => ?_⟩
  subst e
  obtain ⟨rfl, _, l1, _⟩ := polyO_some e1
  obtain ⟨rfl, _, l2, _⟩ := polyO_some e2
  simp only [P4] at hp
  simp [sp_plus_by]
  refine ⟨as, rfl, bs, rfl, by omega, by omega, by omega, ?_⟩
  exact h6 bs e2

theorem sc_poly_sum : FnScope ["prime", "one", "other"] ["prime", "one", "other"] (defScope s_poly_sum) := ⟨rfl, rfl, rfl, by decide +kernel, rfl, by decide +kernel, by decide +kernel⟩
theorem ok_poly_sum (D : DefAt K mg "poly_sum" s_poly_sum ["prime", "one", "other"] kb_poly_sum) (T : Txt K mg) (F_need_both : Cal3 P w K mg base W 6 "need_both" ["prime", "one", "other"] kb_need_both sp_need_both 3) (F_plus_by : Cal3 P w K mg base W 2 "plus_by" ["prime", "one", "other"] kb_plus_by sp_plus_by 3) : Cal3 P w K mg base W 7 "poly_sum" ["prime", "one", "other"] kb_poly_sum sp_poly_sum 3 :=
  have nd := sc_poly_sum.nd
  dok (N := ["prime", "one", "other"]) (wf := W_poly_sum) D sc_poly_sum rfl len_poly_sum (fun f cdv A outer s H G E rx hr c tk => (dss_cons (ds_expr (de_c c F_need_both hr (by decide) rfl (da_cons (de_var 0) (da_cons (de_var 1) (da_cons (de_var 2) da_nil)))))
      (dss_one (ds_ret (de_c c F_plus_by hr (by decide) rfl (da_cons (de_var 0) (da_cons (de_var 1) (da_cons (de_var 2) da_nil)))))))) law_poly_sum

end
end My

set_option maxRecDepth 100000
set_option maxHeartbeats 4000000
namespace My
open PySem PySem.Spec L2 L3
section
variable {P : Program} {w : World} {K : PySem.W.Frag} {mg : Str → Option Value} {base : Heap} {W : Wd}
abbrev kb_scaled : List (List Str × List Nat) := []
def sp_scaled : WF := fun ds q x => match ds with
  | [.int p, a, .int r] => ∃ as : List Int, a = .tup (dI as) ∧ 0 < p ∧ -1000000 ≤ r ∧ r ≤ 1000000 ∧ as.length ≤ 10000 ∧ q (.val (.tup (dI (scaleP p as r))))
  | _ => False
def mapF (f : Int → Int) : D → Option D
  | .int a => some (.int (f a))
  | _ => none
theorem map_fm (f : Int → Int) : ∀ as : List Int, (dI as).filterMap (mapF f) = dI (as.map f)
  | [] => rfl
  | a :: as => by
    have := map_fm f as
    simp [mapF] at this ⊢
    exact this

theorem len_scaled : ∀ ds q x, sp_scaled ds q x → ds.length = 3 := by
  intro ds q x h
  unfold sp_scaled at h
  split at h
  · rfl
  · exact h.elim
def W_scaled (rx : Exn → Prop) : WS :=
    (wRet (wCall sp_trimmed (wCons (wLc (wSeqI (wVar 1)) (gNm 3) wYes (wOp modW (wOp mulW (wVar 3) (wVar 2)) (wVar 0)) [3]) wNil) rx))

theorem law_scaled : ∀ ds q x, sp_scaled ds q x → W_scaled x (startD 4 ds) { nx := fun _ => q (.val .non), rt := q } := by
  intro ds q x h
  unfold sp_scaled at h
  split at h
  rotate_left
  · exact h.elim
  rename_i p a r
  obtain ⟨as, rfl, hp, r1, r2, ha, h⟩ := h
  simp [W_scaled]
  refine lc_pure (mapF fun a => a * r % p) _ [] (fun d hd Q hQ => ?_) (sz1000 (by simp; omega)) ?_
  · obtain ⟨i, hi, rfl⟩ := List.mem_map.mp hd
    simp [wipeD, List.set]
    exact ⟨.inr ⟨by omega, by omega⟩, hp, hQ⟩
  · rw [List.nil_append, map_fm (fun a => a * r % p)]
    simp [sp_trimmed]
    exact ⟨as.map fun i => i * r % p, by simp, by simp; omega, h⟩

theorem sc_scaled : FnScope ["prime", "poly", "rest", "item"] ["prime", "poly", "rest"] (defScope s_scaled) := ⟨rfl, rfl, rfl, by decide +kernel, rfl, by decide +kernel, by decide +kernel⟩
theorem ok_scaled (D : DefAt K mg "scaled" s_scaled ["prime", "poly", "rest"] kb_scaled) (T : Txt K mg) (F_trimmed : Cal3 P w K mg base W 1 "trimmed" ["numbers"] kb_trimmed sp_trimmed 1) : Cal3 P w K mg base W 2 "scaled" ["prime", "poly", "rest"] kb_scaled sp_scaled 3 :=
  have nd := sc_scaled.nd
  dok (N := ["prime", "poly", "rest", "item"]) (wf := W_scaled) D sc_scaled rfl len_scaled (fun f cdv A outer s H G E rx hr c tk => (dss_one (ds_ret (de_c c F_trimmed hr (by decide) rfl (da_cons (de_lc (own := [("item", 3)]) c nd (by decide) (di_seq c.hK (de_var 1)) (blkOk_by rfl) (fun _ _ _ _ _ c => (dg_name 3 nd)) (fun _ _ _ _ _ c => dts_nil) (fun _ _ _ _ _ c => (de_mod (de_mul c.hK (de_var 3) (de_var 2)) (de_var 0)))) da_nil))))) law_scaled

end
end My

set_option maxRecDepth 100000
set_option maxHeartbeats 4000000
namespace My
open PySem PySem.Spec L2 L3
section
variable {P : Program} {w : World} {K : PySem.W.Frag} {mg : Str → Option Value} {base : Heap} {W : Wd}
abbrev kb_minus_by : List (List Str × List Nat) := []
def sp_minus_by : WF := fun ds q x => match ds with
  | [.int p, a, b] => ∃ as bs : List Int, a = .tup (dI as) ∧ b = .tup (dI bs) ∧ 0 < p ∧ p ≤ 1000 ∧ as.length ≤ 10000 ∧ bs.length ≤ 10000 ∧ q (.val (.tup (dI (lessP p as bs))))
  | _ => False

theorem len_minus_by : ∀ ds q x, sp_minus_by ds q x → ds.length = 3 := by
  intro ds q x h
  unfold sp_minus_by at h
  split at h
  · rfl
  · exact h.elim
def W_minus_by (rx : Exn → Prop) : WS :=
    (wRet (wCall sp_plus_by (wCons (wVar 0) (wCons (wVar 1) (wCons (wCall sp_scaled (wCons (wVar 0) (wCons (wVar 2) (wCons (wOp subW (wVar 0) (wC (.int 1))) wNil))) rx) wNil))) rx))

theorem law_minus_by : ∀ ds q x, sp_minus_by ds q x → W_minus_by x (startD 3 ds) { nx := fun _ => q (.val .non), rt := q } := by
  intro ds q x h
  unfold sp_minus_by at h
  split at h
  rotate_left
  · exact h.elim
  rename_i p a b
  obtain ⟨as, bs, rfl, rfl, hp, hp2, ha, hb, h⟩ := h
  have hl := scale_len p bs (p - 1)
  simp [W_minus_by, sp_scaled]
  refine ⟨bs, rfl, hp, by omega, by omega, hb, ?_⟩
  simp [sp_plus_by]
  exact ⟨as, rfl, _, rfl, hp, ha, by omega, h⟩

theorem sc_minus_by : FnScope ["prime", "one", "other"] ["prime", "one", "other"] (defScope s_minus_by) := ⟨rfl, rfl, rfl, by decide +kernel, rfl, by decide +kernel, by decide +kernel⟩
theorem ok_minus_by (D : DefAt K mg "minus_by" s_minus_by ["prime", "one", "other"] kb_minus_by) (T : Txt K mg) (F_plus_by : Cal3 P w K mg base W 2 "plus_by" ["prime", "one", "other"] kb_plus_by sp_plus_by 3) (F_scaled : Cal3 P w K mg base W 2 "scaled" ["prime", "poly", "rest"] kb_scaled sp_scaled 3) : Cal3 P w K mg base W 3 "minus_by" ["prime", "one", "other"] kb_minus_by sp_minus_by 3 :=
  have nd := sc_minus_by.nd
  dok (N := ["prime", "one", "other"]) (wf := W_minus_by) D sc_minus_by rfl len_minus_by (fun f cdv A outer s H G E rx hr c tk => (dss_one (ds_ret (de_c c F_plus_by hr (by decide) rfl (da_cons (de_var 0) (da_cons (de_var 1) (da_cons (de_c c F_scaled hr (by decide) rfl (da_cons (de_var 0) (da_cons (de_var 2) (da_cons (de_sub (de_var 0) de_int) da_nil)))) da_nil))))))) law_minus_by

end
end My

set_option maxRecDepth 100000
set_option maxHeartbeats 4000000
namespace My
open PySem PySem.Spec L2 L3
section
variable {P : Program} {w : World} {K : PySem.W.Frag} {mg : Str → Option Value} {base : Heap} {W : Wd}
abbrev kb_poly_less : List (List Str × List Nat) := []
def sp_poly_less : WF := fun ds q x => match ds with
  | [P, a, b] => okA P = true ∧ okA a = true ∧ okA b = true ∧ both2 P a b x (fun p as bs => q (.val (.tup (dI (lessP p as bs)))))
  | _ => False
theorem poly_less_of {P a b : D} {q : R → Prop} {x : Exn → Prop} (oP : okA P = true) (oa : okA a = true) (ob : okA b = true) (h : both2 P a b x (fun p as bs => q (.val (.tup (dI (lessP p as bs)))))) : sp_poly_less [P, a, b] q x := ⟨oP, oa, ob, h⟩

theorem len_poly_less : ∀ ds q x, sp_poly_less ds q x → ds.length = 3 := by
  intro ds q x h
  unfold sp_poly_less at h
  split at h
  · rfl
  · exact h.elim
def W_poly_less (rx : Exn → Prop) : WS :=
    (wSeq (wDrop (wCall sp_need_both (wCons (wVar 0) (wCons (wVar 1) (wCons (wVar 2) wNil))) rx))
    (wRet (wCall sp_minus_by (wCons (wVar 0) (wCons (wVar 1) (wCons (wVar 2) wNil))) rx)))

theorem law_poly_less : ∀ ds q x, sp_poly_less ds q x → W_poly_less x (startD 3 ds) { nx := fun _ => q (.val .non), rt := q } := by
  intro ds q x h
  unfold sp_poly_less at h
  split at h
  rotate_left
  · exact h.elim
  rename_i P a b
  obtain ⟨oP, oa, ob, h1, h2⟩ := h
  simp [W_poly_less, sp_need_both, oP, oa, ob]
  refine ⟨h1, fun p e hp => ?_⟩
  obtain ⟨h3, h4⟩ := h2 p e hp
  refine ⟨h3, fun as e1 => ?_⟩
  obtain ⟨h5, h6⟩ := h4 as e1
  refine ⟨h5, fun bs e2 => ?_⟩
  subst e
  obtain ⟨rfl, _, l1, _⟩ := polyO_some e1
  obtain ⟨rfl, _, l2, _⟩ := polyO_some e2
  simp only [P4] at hp
  simp [sp_minus_by]
  refine ⟨as, rfl, bs, rfl, by omega, by omega, by omega, by omega, ?_⟩
  exact h6 bs e2

theorem sc_poly_less : FnScope ["prime", "one", "other"] ["prime", "one", "other"] (defScope s_poly_less) := ⟨rfl, rfl, rfl, by decide +kernel, rfl, by decide +kernel, by decide +kernel⟩
theorem ok_poly_less (D : DefAt K mg "poly_less" s_poly_less ["prime", "one", "other"] kb_poly_less) (T : Txt K mg) (F_minus_by : Cal3 P w K mg base W 3 "minus_by" ["prime", "one", "other"] kb_minus_by sp_minus_by 3) (F_need_both : Cal3 P w K mg base W 6 "need_both" ["prime", "one", "other"] kb_need_both sp_need_both 3) : Cal3 P w K mg base W 7 "poly_less" ["prime", "one", "other"] kb_poly_less sp_poly_less 3 :=
  have nd := sc_poly_less.nd
  dok (N := ["prime", "one", "other"]) (wf := W_poly_less) D sc_poly_less rfl len_poly_less (fun f cdv A outer s H G E rx hr c tk => (dss_cons (ds_expr (de_c c F_need_both hr (by decide) rfl (da_cons (de_var 0) (da_cons (de_var 1) (da_cons (de_var 2) da_nil)))))
      (dss_one (ds_ret (de_c c F_minus_by hr (by decide) rfl (da_cons (de_var 0) (da_cons (de_var 1) (da_cons (de_var 2) da_nil)))))))) law_poly_less

end
end My

set_option maxRecDepth 100000
set_option maxHeartbeats 4000000
namespace My
open PySem PySem.Spec L2 L3
section
variable {P : Program} {w : World} {K : PySem.W.Frag} {mg : Str → Option Value} {base : Heap} {W : Wd}
abbrev kb_is_poly : List (List Str × List Nat) := [(["thing", "prime"], [1, 0])]
def sp_is_poly : WF := fun ds q x => match ds with
  | [P, d] => okA P = true ∧ okA d = true ∧ (primeB P = false → x ⟨"BadPrime", none⟩) ∧ ∀ p : Int, P = .int p → P4 p → q (.val (.bl (polyO p d).isSome))
  | _ => False
theorem is_poly_of {p : Int} {d : D} {q : R → Prop} {x : Exn → Prop} (hp : P4 p) (od : okA d = true) (h : q (.val (.bl (polyO p d).isSome))) : sp_is_poly [.int p, d] q x :=
  ⟨rfl, od, fun e => (nprime hp e).elim, fun p' e _ => (by cases e; exact h)⟩
theorem is_poly_err {P d : D} {q : R → Prop} {x : Exn → Prop} (hP : primeB P = false) (oP : okA P = true) (od : okA d = true) (h : x ⟨"BadPrime", none⟩) : sp_is_poly [P, d] q x :=
  ⟨oP, od, fun _ => h, fun p e hp => (by subst e; exact (nprime hp hP).elim)⟩

theorem len_is_poly : ∀ ds q x, sp_is_poly ds q x → ds.length = 2 := by
  intro ds q x h
  unfold sp_is_poly at h
  split at h
  · rfl
  · exact h.elim
def W_is_poly (rx : Exn → Prop) : WS :=
    (wSeq (wDrop (wCall sp_need_prime (wCons (wVar 0) wNil) rx))
    (wRet (wCall sp_is_poly_of (wCons (wVar 0) (wCons (wVar 1) wNil)) rx)))

theorem law_is_poly : ∀ ds q x, sp_is_poly ds q x → W_is_poly x (startD 2 ds) { nx := fun _ => q (.val .non), rt := q } := by
  intro ds q x h
  unfold sp_is_poly at h
  split at h
  rotate_left
  · exact h.elim
  rename_i P d
  obtain ⟨oP, od, h1, h2⟩ := h
  cases c : primeB P with
  | false =>
    simp [W_is_poly, sp_need_prime, okA_B oP, c]
    exact h1 c
  | true =>
    obtain ⟨p, rfl, hp⟩ := primeB_int c
    have hp3 : p ≤ 1000 := by simp only [P4] at hp; omega
    simp [W_is_poly, sp_need_prime, okA_B oP, c, sp_is_poly_of, od, hp3]
    exact h2 p rfl hp

theorem sc_is_poly : FnScope ["prime", "thing"] ["prime", "thing"] (defScope s_is_poly) := ⟨rfl, rfl, rfl, by decide +kernel, rfl, by decide +kernel, by decide +kernel⟩
theorem ok_is_poly (D : DefAt K mg "is_poly" s_is_poly ["prime", "thing"] kb_is_poly) (T : Txt K mg) (F_is_poly_of : Cal3 P w K mg base W 4 "is_poly_of" ["prime", "thing"] kb_is_poly_of sp_is_poly_of 2) (F_need_prime : Cal3 P w K mg base W 3 "need_prime" ["prime"] kb_need_prime sp_need_prime 1) : Cal3 P w K mg base W 5 "is_poly" ["prime", "thing"] kb_is_poly sp_is_poly 2 :=
  have nd := sc_is_poly.nd
  dok (N := ["prime", "thing"]) (wf := W_is_poly) D sc_is_poly rfl len_is_poly (fun f cdv A outer s H G E rx hr c tk => (dss_cons (ds_expr (de_c c F_need_prime hr (by decide) rfl (da_cons (de_var 0) da_nil)))
      (dss_one (ds_ret (de_c c F_is_poly_of hr (by decide) rfl (da_cons (de_var 0) (da_cons (de_var 1) da_nil))))))) law_is_poly

end
end My

set_option maxRecDepth 100000
set_option maxHeartbeats 4000000
namespace My
open PySem PySem.Spec L2 L3
section
variable {P : Program} {w : World} {K : PySem.W.Frag} {mg : Str → Option Value} {base : Heap} {W : Wd}
abbrev kb__law_no_prime : List (List Str × List Nat) := []
def sp__law_no_prime (d : Dw) : WF := fun ds q x => match ds with
  | [.obj u] => u = .ref d.ad ∧ ∀ v : D, primeB v = false → okA v = true → nbB [.val v] = true → q (.val v)
  | _ => False

theorem len__law_no_prime {d : Dw} : ∀ ds q x, sp__law_no_prime d ds q x → ds.length = 1 := by
  intro ds q x h
  unfold sp__law_no_prime at h
  split at h
  · rfl
  · exact h.elim
def W__law_no_prime (d : Dw) (rx : Exn → Prop) : WS :=
    (wRet (wCall (sp__law_pick d) (wCons (wVar 0) (wCons (wLst (wCons (wC .non) (wCons (wC (.int 0)) (wCons (wC (.int 1)) (wCons (wC (.int 4)) (wCons (wC (.int 6)) (wCons (wC (.int 9)) (wCons (wC (.int 11)) (wCons (wOp subW (wC (.int 0)) (wC (.int 2))) (wCons (wC (.bl true)) (wCons (wC (.str "2")) (wCons (wTup (wCons (wC (.int 2)) wNil)) wNil)))))))))))) wNil)) rx))

theorem law__law_no_prime {d : Dw} : ∀ ds q x, sp__law_no_prime d ds q x → W__law_no_prime d x (startD 1 ds) { nx := fun _ => q (.val .non), rt := q } := by
  intro ds q x h
  unfold sp__law_no_prime at h
  split at h
  rotate_left
  · exact h.elim
  rename_i u
  obtain ⟨rfl, h⟩ := h
  simp [W__law_no_prime, sp__law_pick]
  refine ⟨?_, ?_, ?_, ?_, ?_, ?_, ?_, ?_, ?_, ?_, ?_⟩ <;> exact h _ (by rfl) (by rfl) rfl

theorem sc__law_no_prime : FnScope ["draw"] ["draw"] (defScope s__law_no_prime) := ⟨rfl, rfl, rfl, by decide +kernel, rfl, by decide +kernel, by decide +kernel⟩
theorem ok__law_no_prime {d : Dw} (D : DefAt K mg "_law_no_prime" s__law_no_prime ["draw"] kb__law_no_prime) (T : Txt K mg) (F__law_pick : Cal3 P w K mg base (wdOf d) 3 "_law_pick" ["draw", "items"] kb__law_pick (sp__law_pick d) 2) : Cal3 P w K mg base (wdOf d) 4 "_law_no_prime" ["draw"] kb__law_no_prime (sp__law_no_prime d) 1 :=
  have nd := sc__law_no_prime.nd
  dok (N := ["draw"]) (wf := W__law_no_prime d) D sc__law_no_prime rfl len__law_no_prime (fun f cdv A outer s H G E rx hr c tk => (dss_one (ds_ret (de_c c F__law_pick hr (by decide) rfl (da_cons (de_var 0) (da_cons (de_lst (da_cons de_non (da_cons de_int (da_cons de_int (da_cons de_int (da_cons de_int (da_cons de_int (da_cons de_int (da_cons (de_sub de_int de_int) (da_cons de_bl (da_cons de_str (da_cons (de_tup (da_cons de_int da_nil)) da_nil)))))))))))) da_nil)))))) law__law_no_prime

end
end My

set_option maxRecDepth 100000
set_option maxHeartbeats 4000000
namespace My
open PySem PySem.Spec L2 L3
abbrev s_law : Stmt := top 40
section
variable {P : Program} {w : World} {K : PySem.W.Frag} {mg : Str → Option Value} {base : Heap} {W : Wd}
def Wl_1 (mg : Str → Option Value) (d : Dw) (a0 : Addr) (ns : List Int) (rx : Exn → Prop) : WS :=
    (wRet (wCall sp__law_says (wCons (wLst (wCons (wCall sp_poly_sum (wCons (wC (.int 3)) (wCons (wTup (wCons (wC (.int 1)) (wCons (wC (.int 2)) wNil))) (wCons (wTup (wCons (wC (.int 2)) (wCons (wC (.int 1)) wNil))) wNil))) rx) (wCons (wCall sp_poly_less (wCons (wC (.int 2)) (wCons (wTup (wCons (wC (.int 1)) (wCons (wC (.int 1)) wNil))) (wCons (wTup wNil) wNil))) rx) (wCons (wCall sp_is_poly (wCons (wC (.int 2)) (wCons (wTup (wCons (wC (.int 2)) wNil)) wNil)) rx) (wCons (wCall sp_is_poly (wCons (wC (.int 7)) (wCons (wTup (wCons (wC (.int 6)) wNil)) wNil)) rx) (wCons (wCall sp_is_poly (wCons (wC (.int 2)) (wCons (wTup wNil) wNil)) rx) wNil)))))) (wCons (wLst (wCons (wTup wNil) (wCons (wTup (wCons (wC (.int 1)) (wCons (wC (.int 1)) wNil))) (wCons (wC (.bl false)) (wCons (wC (.bl true)) (wCons (wC (.bl true)) wNil)))))) wNil)) rx))
def Wl_2 (mg : Str → Option Value) (d : Dw) (a0 : Addr) (ns : List Int) (rx : Exn → Prop) : WS :=
    (wRet (wC (.bl false)))
def Wl_3 (mg : Str → Option Value) (d : Dw) (a0 : Addr) (ns : List Int) (rx : Exn → Prop) : WS :=
    (wIfS (wTst (wOp (eqW true) (wVar 10) (wOp mulW (wLst (wCons (wC (.bl true)) wNil)) (wC (.int 7))))) (Wl_2 mg d a0 ns rx) wSkip)
def Wl_4 (mg : Str → Option Value) (d : Dw) (a0 : Addr) (ns : List Int) (rx : Exn → Prop) : WS :=
    (wApp 10 (wErr [("BadOne", false), ("BadOther", false), ("BadPoly", false), ("BadPrime", true)] fun rx => (wCall sp_is_poly (wCons (wCall (sp__law_no_prime d) (wCons (wVar 1) wNil) rx) (wCons (wTup wNil) wNil)) rx)))
def Wl_5 (mg : Str → Option Value) (d : Dw) (a0 : Addr) (ns : List Int) (rx : Exn → Prop) : WS :=
    (wSet 10 (wOp addW (wVar 10) (wLc (wSeqI (wLst (wCons (wC (.obj (fv mg "poly_sum"))) (wCons (wC (.obj (fv mg "poly_less"))) wNil)))) (gNm 11) wYes (wErr [("BadOne", false), ("BadOther", true), ("BadPoly", false), ("BadPrime", false)] fun rx => (wCallV mg 11 [("poly_sum", sp_poly_sum), ("poly_less", sp_poly_less)] (wCons (wVar 3) (wCons (wVar 5) (wCons (wVar 9) wNil))) rx)) [11])))
def Wl_6 (mg : Str → Option Value) (d : Dw) (a0 : Addr) (ns : List Int) (rx : Exn → Prop) : WS :=
    (wSet 10 (wOp addW (wVar 10) (wLc (wSeqI (wLst (wCons (wC (.obj (fv mg "poly_sum"))) (wCons (wC (.obj (fv mg "poly_less"))) wNil)))) (gNm 11) wYes (wErr [("BadOne", true), ("BadOther", false), ("BadPoly", false), ("BadPrime", false)] fun rx => (wCallV mg 11 [("poly_sum", sp_poly_sum), ("poly_less", sp_poly_less)] (wCons (wVar 3) (wCons (wVar 9) (wCons (wC .non) wNil))) rx)) [11])))
def Wl_7 (mg : Str → Option Value) (d : Dw) (a0 : Addr) (ns : List Int) (rx : Exn → Prop) : WS :=
    (wSet 10 (wLc (wSeqI (wLst (wCons (wC (.obj (fv mg "poly_sum"))) (wCons (wC (.obj (fv mg "poly_less"))) wNil)))) (gNm 11) wYes (wErr [("BadOne", false), ("BadOther", false), ("BadPoly", false), ("BadPrime", true)] fun rx => (wCallV mg 11 [("poly_sum", sp_poly_sum), ("poly_less", sp_poly_less)] (wCons (wCall (sp__law_no_prime d) (wCons (wVar 1) wNil) rx) (wCons (wC .non) (wCons (wC .non) wNil))) rx)) [11]))
def Wl_8 (mg : Str → Option Value) (d : Dw) (a0 : Addr) (ns : List Int) (rx : Exn → Prop) : WS :=
    (wRet (wC (.bl false)))
def Wl_9 (mg : Str → Option Value) (d : Dw) (a0 : Addr) (ns : List Int) (rx : Exn → Prop) : WS :=
    (wIfS (wNotT (wTru (wCall sp__law_says (wCons (wLst (wCons (wCall sp_is_poly (wCons (wVar 3) (wCons (wVar 9) wNil)) rx) (wCons (wCall sp_is_poly (wCons (wVar 3) (wCons (wVar 5) wNil)) rx) (wCons (wCallK sp_is_poly 2 [1, 0] (wCons (wCB listW (wCons (wVar 5) wNil)) (wCons (wVar 3) wNil)) rx) (wCons (wCall sp_is_poly (wCons (wVar 3) (wCons (wOp addW (wVar 5) (wTup (wCons (wC (.int 0)) wNil))) wNil)) rx) wNil))))) (wCons (wLst (wCons (wC (.bl false)) (wCons (wC (.bl true)) (wCons (wC (.bl false)) (wCons (wC (.bl false)) wNil))))) wNil)) rx))) (Wl_8 mg d a0 ns rx) wSkip)
def Wl_10 (mg : Str → Option Value) (d : Dw) (a0 : Addr) (ns : List Int) (rx : Exn → Prop) : WS :=
    (wSet 9 (wCall (sp__law_no_poly d) (wCons (wVar 1) (wCons (wVar 3) wNil)) rx))
def Wl_11 (mg : Str → Option Value) (d : Dw) (a0 : Addr) (ns : List Int) (rx : Exn → Prop) : WS :=
    (wRet (wC (.bl false)))
def Wl_12 (mg : Str → Option Value) (d : Dw) (a0 : Addr) (ns : List Int) (rx : Exn → Prop) : WS :=
    (wIfS (wNotT (wTru (wCall sp__law_says (wCons (wLst (wCons (wCall sp_poly_less (wCons (wVar 3) (wCons (wVar 5) (wCons (wVar 6) wNil))) rx) (wCons (wCall sp_poly_less (wCons (wVar 3) (wCons (wCall sp_poly_sum (wCons (wVar 3) (wCons (wVar 5) (wCons (wVar 6) wNil))) rx) (wCons (wVar 6) wNil))) rx) wNil))) (wCons (wLst (wCons (wCall sp__law_plus (wCons (wVar 3) (wCons (wVar 5) (wCons (wVar 8) wNil))) rx) (wCons (wVar 5) wNil))) wNil)) rx))) (Wl_11 mg d a0 ns rx) wSkip)
def Wl_13 (mg : Str → Option Value) (d : Dw) (a0 : Addr) (ns : List Int) (rx : Exn → Prop) : WS :=
    (wRet (wC (.bl false)))
def Wl_14 (mg : Str → Option Value) (d : Dw) (a0 : Addr) (ns : List Int) (rx : Exn → Prop) : WS :=
    (wIfS (wNotT (wTru (wCall sp__law_says (wCons (wLst (wCons (wCall sp_poly_sum (wCons (wVar 3) (wCons (wVar 5) (wCons (wVar 6) wNil))) rx) (wCons (wCallK sp_poly_sum 3 [2, 1, 0] (wCons (wVar 6) (wCons (wVar 5) (wCons (wVar 3) wNil))) rx) wNil))) (wCons (wOp mulW (wLst (wCons (wCall sp__law_plus (wCons (wVar 3) (wCons (wVar 5) (wCons (wVar 6) wNil))) rx) wNil)) (wC (.int 2))) wNil)) rx))) (Wl_13 mg d a0 ns rx) wSkip)
def Wl_15 (mg : Str → Option Value) (d : Dw) (a0 : Addr) (ns : List Int) (rx : Exn → Prop) : WS :=
    (wSet 8 (wCB tupW (wCons (wLc (wSeqI (wVar 6)) (gNm 7) wYes (wOp modW (wCB intW (wCons (wOp subW (wVar 3) (wVar 7)) wNil)) (wVar 3)) [7]) wNil)))
def Wl_16 (mg : Str → Option Value) (d : Dw) (a0 : Addr) (ns : List Int) (rx : Exn → Prop) : WS :=
    (wSet 6 (wCall sp__law_plus (wCons (wVar 3) (wCons (wCB tupW (wCons (wLc (wSeqI (wVar 5)) (gNm 7) wYes (wOp modW (wCB intW (wCons (wOp subW (wVar 3) (wVar 7)) wNil)) (wVar 3)) [7]) wNil)) (wCons (wCall (sp__law_poly d) (wCons (wVar 1) (wCons (wVar 3) (wCons (wC (.int 3)) wNil))) rx) wNil))) rx))
def Wl_17 (mg : Str → Option Value) (d : Dw) (a0 : Addr) (ns : List Int) (rx : Exn → Prop) : WS :=
    (wIfS (wTst (wOp (eqW false) (wCall (sp__law_take d) (wCons (wVar 1) (wCons (wC (.int 3)) wNil)) rx) (wC (.int 0)))) (Wl_16 mg d a0 ns rx) wSkip)
def Wl_18 (mg : Str → Option Value) (d : Dw) (a0 : Addr) (ns : List Int) (rx : Exn → Prop) : WS :=
    (wPar 5 6 (wCall (sp__law_poly d) (wCons (wVar 1) (wCons (wVar 3) (wCons (wVar 4) wNil))) rx) (wCall (sp__law_poly d) (wCons (wVar 1) (wCons (wVar 3) (wCons (wVar 4) wNil))) rx))
def Wl_19 (mg : Str → Option Value) (d : Dw) (a0 : Addr) (ns : List Int) (rx : Exn → Prop) : WS :=
    (wPar 3 4 (wCall (sp__law_prime d) (wCons (wVar 1) wNil) rx) (wCall (sp__law_pick d) (wCons (wVar 1) (wCons (wLst (wCons (wC (.int 3)) (wCons (wC (.int 12)) (wCons (wC (.int 60)) (wCons (wC (.int 200)) wNil))))) wNil)) rx))
def Wl_20 (mg : Str → Option Value) (d : Dw) (a0 : Addr) (ns : List Int) (rx : Exn → Prop) : WS :=
    (wFor (wRng1 (wOp addW (wC (.int 8)) (wCB minW (wCons (wLenS 0 a0 ns) (wCons (wC (.int 16)) wNil))))) (gNm 2) (wSeq (Wl_19 mg d a0 ns rx)
    (wSeq (Wl_18 mg d a0 ns rx)
    (wSeq (Wl_17 mg d a0 ns rx)
    (wSeq (Wl_15 mg d a0 ns rx)
    (wSeq (Wl_14 mg d a0 ns rx)
    (wSeq (Wl_12 mg d a0 ns rx)
    (wSeq (Wl_10 mg d a0 ns rx)
    (wSeq (Wl_9 mg d a0 ns rx)
    (wSeq (Wl_7 mg d a0 ns rx)
    (wSeq (Wl_6 mg d a0 ns rx)
    (wSeq (Wl_5 mg d a0 ns rx)
    (wSeq (Wl_4 mg d a0 ns rx)
    (Wl_3 mg d a0 ns rx))))))))))))))
def W_law (mg : Str → Option Value) (d : Dw) (a0 : Addr) (ns : List Int) (rx : Exn → Prop) : WS :=
    (wSeq (Wl_20 mg d a0 ns rx)
    (Wl_1 mg d a0 ns rx))

section
variable {mg : Str → Option Value} {d : Dw} {a : Addr} {ns : List Int} {rx : Exn → Prop} {b2 b3 b4 b5 b6 b7 b8 b9 b10 b11 : Option Sl} {q : EndsD} {p : Int} {as bs : List Int} {no : D}
abbrev SL (d : Dw) (a : Addr) (l : List (Option Sl)) : De := some (.val (.obj (.ref a))) :: some (.val (.obj (.ref d.ad))) :: l
theorem nszs_dI : ∀ vs : List Int, nszs (dI vs) = vs.length
  | [] => rfl
  | v :: vs => by
    have := nszs_dI vs
    simp only [List.map_cons, nszs, nsz, List.length_cons, this]
    omega
theorem t19 (h : ∀ (p m : Int), P4 p → 0 ≤ m → m ≤ 200 → q.nx (SL d a [b2, some (.val (.int p)), some (.val (.int m)), b5, b6, b7, b8, b9, b10, b11])) : Wl_19 mg d a ns rx (SL d a [b2, b3, b4, b5, b6, b7, b8, b9, b10, b11]) q := by
  simp [Wl_19, sp__law_prime, sp__law_pick, stD, List.set]
  refine ⟨?_, ?_, ?_, ?_⟩ <;> exact ⟨h _ 3 (by simp [P4]) (by decide) (by decide), h _ 12 (by simp [P4]) (by decide) (by decide), h _ 60 (by simp [P4]) (by decide) (by decide), h _ 200 (by simp [P4]) (by decide) (by decide)⟩
theorem t18 {m : Int} (hp : P4 p) (m0 : 0 ≤ m) (m1 : m ≤ 200) (h : ∀ as bs : List Int, Pol p as → Pol p bs → q.nx (SL d a [b2, some (.val (.int p)), some (.val (.int m)), some (.val (.tup (dI as))), some (.val (.tup (dI bs))), b7, b8, b9, b10, b11])) :
    Wl_18 mg d a ns rx (SL d a [b2, some (.val (.int p)), some (.val (.int m)), b5, b6, b7, b8, b9, b10, b11]) q := by
  simp only [P4] at hp
  simp [Wl_18, sp__law_poly, stD, List.set]
  refine ⟨by omega, by omega, m0, by omega, fun as a1 a2 a3 => ?_⟩
  refine ⟨by omega, by omega, m0, by omega, fun bs b1 b2 b3 => ?_⟩
  exact h as bs ⟨a1, a2, by omega⟩ ⟨b1, b2, by omega⟩
theorem turn_tup {te : WE} {δ : De} {Q : R → Prop} (hp : 0 < p) (hl : as.length ≤ 10000) (hte : ∀ (i : Int) (K : R → Prop), K (.val (.int ((p - i) % p))) → gNm 7 (.int i) (wipeD δ [7]) fun δ1 => te δ1 K) (h : Q (.own (dI (turnP p as)))) : lcW (gNm 7) wYes te (wipeD δ [7]) (dI as) [] Q := by
  refine lc_pure (mapF fun a => (p - a) % p) _ [] (fun d hd Q hQ => ?_) (sz1000 (by simp; omega)) ?_
  · obtain ⟨i, hi, rfl⟩ := List.mem_map.mp hd
    exact hte i _ ⟨trivial, hQ⟩
  · rw [List.nil_append, map_fm (fun a => (p - a) % p)]
    exact h
theorem t17 (hp : P4 p) (ha : Pol p as) (hb : Pol p bs) (h : ∀ bs : List Int, Pol p bs → q.nx (SL d a [b2, some (.val (.int p)), b4, some (.val (.tup (dI as))), some (.val (.tup (dI bs))), b7, b8, b9, b10, b11])) :
    Wl_17 mg d a ns rx (SL d a [b2, some (.val (.int p)), b4, some (.val (.tup (dI as))), some (.val (.tup (dI bs))), b7, b8, b9, b10, b11]) q := by
  have hp' := hp
  simp only [P4] at hp'
  have l1 := ha.2.2
  simp [Wl_17, stD, List.set]
  refine take_ok 3 _ _ (by decide) (by decide) fun r r0 r1 => ?_
  simp [dpt]
  by_cases c : r = 0
  · simp [c, Wl_16, stD, List.set]
    refine turn_tup (p := p) (as := as) (by omega) (by omega) (fun i K hK => ?_) ?_
    · simp [wipeD, List.set]
      exact ⟨by omega, by simpa using hK⟩
    · simp [sp__law_poly]
      refine ⟨by omega, by omega, fun cs c1 c2 c3 => ?_⟩
      simp [sp__law_plus]
      refine ⟨turnP p as, rfl, cs, rfl, by omega, by simp [turnP]; omega, by omega, ?_⟩
      refine h _ ⟨plus_tr _ _ _, plus_rst (by omega) _ _, ?_⟩
      have := plus_len p (turnP p as) cs
      have e : (turnP p as).length = as.length := by simp [turnP]
      omega
  · simp [c]
    exact h bs hb
theorem t15 (hp : P4 p) (hb : Pol p bs) (h : q.nx (SL d a [b2, some (.val (.int p)), b4, b5, some (.val (.tup (dI bs))), b7, some (.val (.tup (dI (turnP p bs)))), b9, b10, b11])) :
    Wl_15 mg d a ns rx (SL d a [b2, some (.val (.int p)), b4, b5, some (.val (.tup (dI bs))), b7, b8, b9, b10, b11]) q := by
  have l1 := hb.2.2
  simp only [P4] at hp
  simp [Wl_15, stD, List.set]
  refine turn_tup (p := p) (as := bs) (by omega) (by omega) (fun i K hK => ?_) ?_
  · simp [wipeD, List.set]
    exact ⟨by omega, by simpa using hK⟩
  · exact h
theorem t14 (hp : P4 p) (ha : Pol p as) (hb : Pol p bs) (h : q.nx (SL d a [b2, some (.val (.int p)), b4, some (.val (.tup (dI as))), some (.val (.tup (dI bs))), b7, b8, b9, b10, b11])) :
    Wl_14 mg d a ns rx (SL d a [b2, some (.val (.int p)), b4, some (.val (.tup (dI as))), some (.val (.tup (dI bs))), b7, b8, b9, b10, b11]) q := by
  have l1 := ha.2.2
  have l2 := hb.2.2
  have l3 := plus_len p as bs
  have hp' := hp
  simp only [P4] at hp'
  simp [Wl_14, stD, List.set]
  refine poly_sum_of rfl (okA_dI _) (okA_dI _) (b2_ok ha hb hp ?_)
  simp
  refine poly_sum_of rfl (okA_dI _) (okA_dI _) (b2_ok ha hb hp ?_)
  simp [sp__law_plus]
  refine ⟨as, rfl, bs, rfl, by omega, by omega, by omega, ?_⟩
  simp [sp__law_says, dpt, dpts, nsz, nszs, dpts_dI, nszs_dI, List.replicate]
  exact ⟨by omega, h⟩
theorem t12 (hp : P4 p) (ha : Pol p as) (hb : Pol p bs) (h : q.nx (SL d a [b2, some (.val (.int p)), b4, some (.val (.tup (dI as))), some (.val (.tup (dI bs))), b7, some (.val (.tup (dI (turnP p bs)))), b9, b10, b11])) :
    Wl_12 mg d a ns rx (SL d a [b2, some (.val (.int p)), b4, some (.val (.tup (dI as))), some (.val (.tup (dI bs))), b7, some (.val (.tup (dI (turnP p bs)))), b9, b10, b11]) q := by
  have l1 := ha.2.2
  have l2 := hb.2.2
  have hp' := hp
  simp only [P4] at hp'
  have l3 := plus_len p as bs
  have l4 := plus_len p as (turnP p bs)
  have e : (turnP p bs).length = bs.length := by simp [turnP]
  simp [Wl_12, stD, List.set]
  refine poly_less_of rfl (okA_dI _) (okA_dI _) (b2_ok ha hb hp ?_)
  simp
  refine poly_sum_of rfl (okA_dI _) (okA_dI _) (b2_ok ha hb hp ?_)
  simp
  refine poly_less_of rfl (okA_dI _) (okA_dI _) (b2_ok ⟨plus_tr _ _ _, plus_rst (by omega) _ _, by omega⟩ hb hp ?_)
  simp [sp__law_plus]
  refine ⟨as, rfl, turnP p bs, rfl, by omega, by omega, by omega, ?_⟩
  rw [less_plus (by omega) ha.2.1 ha.1, less_turn]
  simp [sp__law_says, dpt, dpts, nsz, nszs, dpts_dI, nszs_dI]
  exact ⟨by omega, h⟩
theorem t10 (hp : P4 p) (h : ∀ no : D, polyO p no = none → okA no = true → q.nx (SL d a [b2, some (.val (.int p)), b4, b5, b6, b7, b8, some (.val no), b10, b11])) :
    Wl_10 mg d a ns rx (SL d a [b2, some (.val (.int p)), b4, b5, b6, b7, b8, b9, b10, b11]) q := by
  simp only [P4] at hp
  simp [Wl_10, sp__law_no_poly, stD, List.set]
  exact ⟨by omega, fun v h1 h2 => h v h1 h2⟩
theorem not_poly0 {p : Int} (vs : List Int) : polyO p (.tup (dI vs ++ [.int 0])) = none := by
  cases e : polyO p (.tup (dI vs ++ [.int 0])) with
  | none => rfl
  | some us =>
    obtain ⟨h1, hr, _, h2⟩ := polyO_some e
    injection h1 with h1
    have h3 := intsOf_dI us
    have e2 : dI vs ++ [D.int 0] = dI (vs ++ [0]) := by simp
    rw [← h1, e2, intsOf_dI] at h3
    cases h3
    rw [trim_snoc, if_pos rfl] at h2
    have := congrArg List.length h2
    have l := trim_len vs
    simp at this
    omega
theorem t9 (hp : P4 p) (ha : Pol p as) (hn : polyO p no = none) (on : okA no = true) (h : q.nx (SL d a [b2, some (.val (.int p)), b4, some (.val (.tup (dI as))), b6, b7, b8, some (.val no), b10, b11])) :
    Wl_9 mg d a ns rx (SL d a [b2, some (.val (.int p)), b4, some (.val (.tup (dI as))), b6, b7, b8, some (.val no), b10, b11]) q := by
  have l1 := ha.2.2
  have ea : okA (.tup (dI as ++ [.int 0])) = true := by
    rw [show dI as ++ [D.int 0] = dI (as ++ [0]) by simp]; exact okA_dI _
  simp [Wl_9, stD, List.set]
  refine is_poly_of hp on ?_
  simp [hn]
  refine is_poly_of hp (okA_dI _) ?_
  simp [ha.o]
  refine is_poly_of hp (okA_dI _) ?_
  simp [polyO]
  refine ⟨sz1000 (by omega), is_poly_of hp ea ?_⟩
  rw [not_poly0]
  simp [sp__law_says, dpt, dpts, nsz, nszs]
  exact h
theorem work_lc {te : WE} {δ : De} {Q : R → Prop} (h1 : ∀ (f : D), (f = .obj (fv mg "poly_sum") ∨ f = .obj (fv mg "poly_less")) → ∀ K : R → Prop, K (.val (.bl true)) → gNm 11 f (wipeD δ [11]) fun δ1 => te δ1 K) (h : Q (.own [.bl true, .bl true])) : lcW (gNm 11) wYes te (wipeD δ [11]) [.obj (fv mg "poly_sum"), .obj (fv mg "poly_less")] [] Q := by
  refine lc_pure (fun _ => some (D.bl true)) _ [] (fun d hd Q hQ => ?_) (sz1000 (by simp)) h
  simp only [List.mem_cons, List.not_mem_nil, or_false] at hd
  exact h1 d hd _ ⟨trivial, hQ⟩
theorem t7 (h : q.nx (SL d a [b2, b3, b4, b5, b6, b7, b8, b9, some (.own [.bl true, .bl true]), b11])) : Wl_7 mg d a ns rx (SL d a [b2, b3, b4, b5, b6, b7, b8, b9, b10, b11]) q := by
  have lk : List.lookup ("BadPrime" : Str) [(("BadOne" : Str), false), (("BadOther" : Str), false), (("BadPoly" : Str), false), (("BadPrime" : Str), true)] = some true := by rfl
  simp [Wl_7, stD, List.set]
  refine work_lc (fun f hf K hK => ?_) h
  rcases hf with rfl | rfl
  · refine ⟨("poly_sum", sp_poly_sum), by simp, rfl, ?_⟩
    simp [wipeD, List.set, valD, sp__law_no_prime]
    intro v h1 h2
    refine poly_sum_of h2 rfl rfl (b2_prime h1 ?_)
    simp [lk]; exact hK
  · refine ⟨("poly_less", sp_poly_less), by simp, rfl, ?_⟩
    simp [wipeD, List.set, valD, sp__law_no_prime]
    intro v h1 h2
    refine poly_less_of h2 rfl rfl (b2_prime h1 ?_)
    simp [lk]; exact hK
theorem t6 (hp : P4 p) (hn : polyO p no = none) (on : okA no = true) (h : q.nx (SL d a [b2, some (.val (.int p)), b4, b5, b6, b7, b8, some (.val no), some (.own [.bl true, .bl true, .bl true, .bl true]), b11])) :
    Wl_6 mg d a ns rx (SL d a [b2, some (.val (.int p)), b4, b5, b6, b7, b8, some (.val no), some (.own [.bl true, .bl true]), b11]) q := by
  have lk : List.lookup ("BadOne" : Str) [(("BadOne" : Str), true), (("BadOther" : Str), false), (("BadPoly" : Str), false), (("BadPrime" : Str), false)] = some true := by rfl
  simp [Wl_6, stD, List.set]
  refine work_lc (fun f hf K hK => ?_) ⟨by decide, h⟩
  rcases hf with rfl | rfl
  · refine ⟨("poly_sum", sp_poly_sum), by simp, rfl, ?_⟩
    simp [wipeD, List.set, valD]
    refine poly_sum_of rfl on rfl (b2_one hp hn ?_)
    simp [lk]; exact hK
  · refine ⟨("poly_less", sp_poly_less), by simp, rfl, ?_⟩
    simp [wipeD, List.set, valD]
    refine poly_less_of rfl on rfl (b2_one hp hn ?_)
    simp [lk]; exact hK
theorem t5 (hp : P4 p) (ha : Pol p as) (hn : polyO p no = none) (on : okA no = true) (h : q.nx (SL d a [b2, some (.val (.int p)), b4, some (.val (.tup (dI as))), b6, b7, b8, some (.val no), some (.own [.bl true, .bl true, .bl true, .bl true, .bl true, .bl true]), b11])) :
    Wl_5 mg d a ns rx (SL d a [b2, some (.val (.int p)), b4, some (.val (.tup (dI as))), b6, b7, b8, some (.val no), some (.own [.bl true, .bl true, .bl true, .bl true]), b11]) q := by
  have lk : List.lookup ("BadOther" : Str) [(("BadOne" : Str), false), (("BadOther" : Str), true), (("BadPoly" : Str), false), (("BadPrime" : Str), false)] = some true := by rfl
  simp [Wl_5, stD, List.set]
  refine work_lc (fun f hf K hK => ?_) ⟨by decide, h⟩
  rcases hf with rfl | rfl
  · refine ⟨("poly_sum", sp_poly_sum), by simp, rfl, ?_⟩
    simp [wipeD, List.set, valD]
    refine poly_sum_of rfl (okA_dI _) on (b2_other hp ha hn ?_)
    simp [lk]; exact hK
  · refine ⟨("poly_less", sp_poly_less), by simp, rfl, ?_⟩
    simp [wipeD, List.set, valD]
    refine poly_less_of rfl (okA_dI _) on (b2_other hp ha hn ?_)
    simp [lk]; exact hK
theorem t4 (h : q.nx (SL d a [b2, b3, b4, b5, b6, b7, b8, b9, some (.own [.bl true, .bl true, .bl true, .bl true, .bl true, .bl true, .bl true]), b11])) :
    Wl_4 mg d a ns rx (SL d a [b2, b3, b4, b5, b6, b7, b8, b9, some (.own [.bl true, .bl true, .bl true, .bl true, .bl true, .bl true]), b11]) q := by
  have lk : List.lookup ("BadPrime" : Str) [(("BadOne" : Str), false), (("BadOther" : Str), false), (("BadPoly" : Str), false), (("BadPrime" : Str), true)] = some true := by rfl
  have s2 : 6 < sizeLine := by decide
  simp [Wl_4, stD, List.set, valD, sp__law_no_prime, s2]
  intro v h1 h2
  refine is_poly_err h1 h2 rfl ?_
  simp [lk]
  exact h
theorem t3 (h : q.nx (SL d a [b2, b3, b4, b5, b6, b7, b8, b9, some (.own [.bl true, .bl true, .bl true, .bl true, .bl true, .bl true, .bl true]), b11])) :
    Wl_3 mg d a ns rx (SL d a [b2, b3, b4, b5, b6, b7, b8, b9, some (.own [.bl true, .bl true, .bl true, .bl true, .bl true, .bl true, .bl true]), b11]) q := by
  simp [Wl_3, stD, List.set, dpt, dpts, eqP_self, List.replicate]
  exact h
theorem t1 (h : q.rt (.val (.bl true))) : Wl_1 mg d a ns rx (SL d a [b2, b3, b4, b5, b6, b7, b8, b9, b10, b11]) q := by
  have P12 : Pol 3 [1, 2] := ⟨by simp [trim], by intro z hz; simp at hz; omega, by decide⟩
  have P21 : Pol 3 [2, 1] := ⟨by simp [trim], by intro z hz; simp at hz; omega, by decide⟩
  have P11 : Pol 2 [1, 1] := ⟨by simp [trim], by intro z hz; simp at hz; omega, by decide⟩
  have P0 : Pol 2 [] := ⟨by simp [trim], by intro z hz; simp at hz, by decide⟩
  have e1 : plusP 3 [1, 2] [2, 1] = [] := by decide
  have e2 : lessP 2 [1, 1] [] = [1, 1] := by decide
  have e3 : polyO 2 (.tup [.int 2]) = none := no_out (by omega)
  have e4 : polyO 7 (.tup [.int 6]) = some [6] := by rfl
  have e5 : polyO 2 (.tup []) = some [] := by rfl
  simp [Wl_1]
  refine poly_sum_of rfl rfl rfl (b2_ok (p := 3) (as := [1, 2]) (bs := [2, 1]) P12 P21 (by simp [P4]) ?_)
  simp
  refine poly_less_of rfl rfl rfl (b2_ok (p := 2) (as := [1, 1]) (bs := []) P11 P0 (by simp [P4]) ?_)
  simp
  refine is_poly_of (by simp [P4]) rfl ?_
  simp [e3]
  refine is_poly_of (by simp [P4]) rfl ?_
  simp [e4]
  refine is_poly_of (by simp [P4]) rfl ?_
  simp [e5, e1, e2, sp__law_says, dpt, dpts, nsz, nszs]
  exact h
end

theorem law_law (mg : Str → Option Value) : ∀ (d : Dw) (a : Addr) (ns : List Int) (q : EndsD), ns.length ≤ 63 → q.rt (.val (.bl true)) → W_law mg d a ns (fun _ => False) (some (.val (.obj (.ref a))) :: some (.val (.obj (.ref d.ad))) :: List.replicate 10 none) q := by
  intro d a ns q hn hq
  show Wl_20 mg d a ns _ (SL d a [none, none, none, none, none, none, none, none, none, none]) _
  simp [Wl_20, -forW]
  refine ⟨by split <;> omega, by split <;> omega, ?_⟩
  refine forW_rng (fun _ δ => ∃ b2 b3 b4 b5 b6 b7 b8 b9 b10 b11, δ = SL d a [b2, b3, b4, b5, b6, b7, b8, b9, b10, b11]) _ _ ⟨_, _, _, _, _, _, _, _, _, _, rfl⟩ ?_ ?_
  · rintro i δ q' hi ⟨b2, b3, b4, b5, b6, b7, b8, b9, b10, b11, rfl⟩ hnx
    show Wl_19 mg d a ns (fun _ => False) (SL d a [some (.val (.int (0 + (i : Nat)))), b3, b4, b5, b6, b7, b8, b9, b10, b11]) _
    refine t19 (mg := mg) (ns := ns) (rx := fun _ => False) fun p m hp m0 m1 => ?_
    refine t18 (mg := mg) (ns := ns) (rx := fun _ => False) hp m0 m1 fun as bs ha hb => ?_
    refine t17 (mg := mg) (ns := ns) (rx := fun _ => False) hp ha hb fun bs hb => ?_
    refine t15 (mg := mg) (ns := ns) (rx := fun _ => False) hp hb ?_
    refine t14 (mg := mg) (ns := ns) (rx := fun _ => False) hp ha hb ?_
    refine t12 (mg := mg) (ns := ns) (rx := fun _ => False) hp ha hb ?_
    refine t10 (mg := mg) (ns := ns) (rx := fun _ => False) hp fun no n1 n2 => ?_
    refine t9 (mg := mg) (ns := ns) (rx := fun _ => False) hp ha n1 n2 ?_
    refine t7 (mg := mg) (ns := ns) (rx := fun _ => False) ?_
    refine t6 (mg := mg) (ns := ns) (rx := fun _ => False) hp n1 n2 ?_
    refine t5 (mg := mg) (ns := ns) (rx := fun _ => False) hp ha n1 n2 ?_
    refine t4 (mg := mg) (ns := ns) (rx := fun _ => False) ?_
    refine t3 (mg := mg) (ns := ns) (rx := fun _ => False) ?_
    exact hnx _ ⟨_, _, _, _, _, _, _, _, _, _, rfl⟩
  · rintro δ ⟨b2, b3, b4, b5, b6, b7, b8, b9, b10, b11, rfl⟩
    exact t1 (mg := mg) (ns := ns) (rx := fun _ => False) hq

theorem sc_law : FnScope ["script", "draw", "lap", "prime", "most", "one", "other", "item", "turned", "no", "errors", "work"] ["script"] (defScope s_law) := ⟨rfl, rfl, rfl, by decide +kernel, rfl, by decide +kernel, by decide +kernel⟩
theorem ok_law {TT : List (Addr × Str)} (D : DefAt K mg "law" s_law ["script"] []) (T : Txt K mg) (B : CalX P w K mg base 1 "_law_begun" ["script"] (spBeg K TT)) (F__law_no_poly : ∀ d : Dw, d.tabs = TT → Cal3 P w K mg base (wdOf d) 4 "_law_no_poly" ["draw", "prime"] kb__law_no_poly (sp__law_no_poly d) 2) (F__law_no_prime : ∀ d : Dw, d.tabs = TT → Cal3 P w K mg base (wdOf d) 4 "_law_no_prime" ["draw"] kb__law_no_prime (sp__law_no_prime d) 1) (F__law_pick : ∀ d : Dw, d.tabs = TT → Cal3 P w K mg base (wdOf d) 3 "_law_pick" ["draw", "items"] kb__law_pick (sp__law_pick d) 2) (F__law_plus : ∀ d : Dw, d.tabs = TT → Cal3 P w K mg base (wdOf d) 2 "_law_plus" ["prime", "one", "other"] kb__law_plus sp__law_plus 3) (F__law_poly : ∀ d : Dw, d.tabs = TT → Cal3 P w K mg base (wdOf d) 4 "_law_poly" ["draw", "prime", "most"] kb__law_poly (sp__law_poly d) 3) (F__law_prime : ∀ d : Dw, d.tabs = TT → Cal3 P w K mg base (wdOf d) 4 "_law_prime" ["draw"] kb__law_prime (sp__law_prime d) 1) (F__law_says : ∀ d : Dw, d.tabs = TT → Cal3 P w K mg base (wdOf d) 2 "_law_says" ["told", "due"] kb__law_says sp__law_says 2) (F__law_take : ∀ d : Dw, d.tabs = TT → Cal3 P w K mg base (wdOf d) 2 "_law_take" ["draw", "amount"] kb__law_take (sp__law_take d) 2) (F_is_poly : ∀ d : Dw, d.tabs = TT → Cal3 P w K mg base (wdOf d) 5 "is_poly" ["prime", "thing"] kb_is_poly sp_is_poly 2) (F_poly_less : ∀ d : Dw, d.tabs = TT → Cal3 P w K mg base (wdOf d) 7 "poly_less" ["prime", "one", "other"] kb_poly_less sp_poly_less 3) (F_poly_sum : ∀ d : Dw, d.tabs = TT → Cal3 P w K mg base (wdOf d) 7 "poly_sum" ["prime", "one", "other"] kb_poly_sum sp_poly_sum 3) (E_BadOne : ErrX K mg "BadOne" [("BadOne", true), ("BadOther", false), ("BadPoly", false), ("BadPrime", false)]) (E_BadOther : ErrX K mg "BadOther" [("BadOne", false), ("BadOther", true), ("BadPoly", false), ("BadPrime", false)]) (E_BadPrime : ErrX K mg "BadPrime" [("BadOne", false), ("BadOther", false), ("BadPoly", false), ("BadPrime", true)])
    (LC : ∀ (f : Addr) (cdv : Value), mg "law" = some (.ref f) → (∃ oc od dV kV doc pm an ct osl, K.lookup f = some ⟨oc, od, .func (PySem.W.fnOf "law" "law" (defArgs s_law) (defBody s_law) (defScope s_law) dV kV doc pm an cdv ct), osl⟩) → CodeAt base mg TT cdv "law.<locals>.<lambda>") : CalX P w K mg base 10 "law" ["script"] (spLaw K TT) :=
  have nd := sc_law.nd
  law_ok (k := 9) (n := 10) (N := ["script", "draw", "lap", "prime", "most", "one", "other", "item", "turned", "no", "errors", "work"]) (wl := fun d a ns => W_law mg d a ns (fun _ => False)) D sc_law rfl rfl B
    (fun f cdv A outer s H E g fd hr G1 gm gk gb pass => ps_set nd rfl (by first | exact .inl rfl | exact .inr rfl) (pe_call G1 (hr.mono (by decide)) rfl gm gk gb .nil pass (pa_cons (pe_var (i := 0) rfl (by first | exact Or.inl rfl | exact Or.inr (Or.inl rfl))) pa_nil rfl)))
    (fun f cdv A outer s H E d H0 G0 a0 ns et sc hr lk hm c tk => by
    have F__law_no_poly := F__law_no_poly d et
    have F__law_no_prime := F__law_no_prime d et
    have F__law_pick := F__law_pick d et
    have F__law_plus := F__law_plus d et
    have F__law_poly := F__law_poly d et
    have F__law_prime := F__law_prime d et
    have F__law_says := F__law_says d et
    have F__law_take := F__law_take d et
    have F_is_poly := F_is_poly d et
    have F_poly_less := F_poly_less d et
    have F_poly_sum := F_poly_sum d et
    have cd : CodeAt base mg d.tabs cdv "law.<locals>.<lambda>" := by rw [et]; exact LC f cdv hm lk
    exact (dss_cons (ds_for c (di_rng1 rfl T.b_range (de_add c.hK de_int (de_callB (call_min2 c.calm) (cd_min2) rfl T.b_min (by decide +kernel) (da_cons (de_lenS 0 c sc rfl T.b_len) (da_cons de_int da_nil))))) (dg_name 2 nd) (dss_cons (ds_parC (i := 3) (j := 4) c.calm nd (de_c c F__law_prime hr (by decide) rfl (da_cons (de_var 1) da_nil)) (de_c c F__law_pick hr (by decide) rfl (da_cons (de_var 1) (da_cons (de_lst (da_cons de_int (da_cons de_int (da_cons de_int (da_cons de_int da_nil))))) da_nil))))
      (dss_cons (ds_parC (i := 5) (j := 6) c.calm nd (de_c c F__law_poly hr (by decide) rfl (da_cons (de_var 1) (da_cons (de_var 3) (da_cons (de_var 4) da_nil)))) (de_c c F__law_poly hr (by decide) rfl (da_cons (de_var 1) (da_cons (de_var 3) (da_cons (de_var 4) da_nil)))))
      (dss_cons (ds_if (dt_cmpC (c_eq c.hu c.hK) (de_c c F__law_take hr (by decide) rfl (da_cons (de_var 1) (da_cons de_int da_nil))) de_int) (dss_one (ds_set 6 nd (de_c c F__law_plus hr (by decide) rfl (da_cons (de_var 3) (da_cons (de_callTy call_tuple_of (cd_tup c.hK) rfl T.b_tuple (by decide +kernel) (da_cons (de_lc (own := [("item", 7)]) c nd (by decide) (di_seq c.hK (de_var 5)) (blkOk_by rfl) (fun _ _ _ _ _ c => (dg_name 7 nd)) (fun _ _ _ _ _ c => dts_nil) (fun _ _ _ _ _ c => (de_mod (de_callTy call_int1 (cd_int) rfl T.b_int (by decide +kernel) (da_cons (de_sub (de_var 3) (de_var 7)) da_nil)) (de_var 3)))) da_nil)) (da_cons (de_c c F__law_poly hr (by decide) rfl (da_cons (de_var 1) (da_cons (de_var 3) (da_cons de_int da_nil)))) da_nil)))))) dss_nil)
      (dss_cons (ds_set 8 nd (de_callTy call_tuple_of (cd_tup c.hK) rfl T.b_tuple (by decide +kernel) (da_cons (de_lc (own := [("item", 7)]) c nd (by decide) (di_seq c.hK (de_var 6)) (blkOk_by rfl) (fun _ _ _ _ _ c => (dg_name 7 nd)) (fun _ _ _ _ _ c => dts_nil) (fun _ _ _ _ _ c => (de_mod (de_callTy call_int1 (cd_int) rfl T.b_int (by decide +kernel) (da_cons (de_sub (de_var 3) (de_var 7)) da_nil)) (de_var 3)))) da_nil)))
      (dss_cons (ds_if (dt_not (dt_tru c.hK (de_c c F__law_says hr (by decide) rfl (da_cons (de_lst (da_cons (de_c c F_poly_sum hr (by decide) rfl (da_cons (de_var 3) (da_cons (de_var 5) (da_cons (de_var 6) da_nil)))) (da_cons (de_ck (ks := ["other", "one", "prime"]) (ix := [2, 1, 0]) c F_poly_sum hr (by decide) rfl (by simp [kb_poly_sum]) (dk_cons (de_var 6) (dk_cons (de_var 5) (dk_cons (de_var 3) dk_nil)))) da_nil))) (da_cons (de_mul c.hK (de_lst (da_cons (de_c c F__law_plus hr (by decide) rfl (da_cons (de_var 3) (da_cons (de_var 5) (da_cons (de_var 6) da_nil)))) da_nil)) de_int) da_nil))))) (dss_one (ds_ret de_bl)) dss_nil)
      (dss_cons (ds_if (dt_not (dt_tru c.hK (de_c c F__law_says hr (by decide) rfl (da_cons (de_lst (da_cons (de_c c F_poly_less hr (by decide) rfl (da_cons (de_var 3) (da_cons (de_var 5) (da_cons (de_var 6) da_nil)))) (da_cons (de_c c F_poly_less hr (by decide) rfl (da_cons (de_var 3) (da_cons (de_c c F_poly_sum hr (by decide) rfl (da_cons (de_var 3) (da_cons (de_var 5) (da_cons (de_var 6) da_nil)))) (da_cons (de_var 6) da_nil)))) da_nil))) (da_cons (de_lst (da_cons (de_c c F__law_plus hr (by decide) rfl (da_cons (de_var 3) (da_cons (de_var 5) (da_cons (de_var 8) da_nil)))) (da_cons (de_var 5) da_nil))) da_nil))))) (dss_one (ds_ret de_bl)) dss_nil)
      (dss_cons (ds_set 9 nd (de_c c F__law_no_poly hr (by decide) rfl (da_cons (de_var 1) (da_cons (de_var 3) da_nil))))
      (dss_cons (ds_if (dt_not (dt_tru c.hK (de_c c F__law_says hr (by decide) rfl (da_cons (de_lst (da_cons (de_c c F_is_poly hr (by decide) rfl (da_cons (de_var 3) (da_cons (de_var 9) da_nil))) (da_cons (de_c c F_is_poly hr (by decide) rfl (da_cons (de_var 3) (da_cons (de_var 5) da_nil))) (da_cons (de_ck (ks := ["thing", "prime"]) (ix := [1, 0]) c F_is_poly hr (by decide) rfl (by simp [kb_is_poly]) (dk_cons (de_callTy call_list_of (cd_list c.hK) rfl T.b_list (by decide +kernel) (da_cons (de_var 5) da_nil)) (dk_cons (de_var 3) dk_nil))) (da_cons (de_c c F_is_poly hr (by decide) rfl (da_cons (de_var 3) (da_cons (de_add c.hK (de_var 5) (de_tup (da_cons de_int da_nil))) da_nil))) da_nil))))) (da_cons (de_lst (da_cons de_bl (da_cons de_bl (da_cons de_bl (da_cons de_bl da_nil))))) da_nil))))) (dss_one (ds_ret de_bl)) dss_nil)
      (dss_cons (ds_setLc (own := [("work", 11)]) (i := 10) c nd (by decide) (di_seq c.hK (de_lst (da_cons (de_fn c F_poly_sum rfl) (da_cons (de_fn c F_poly_less rfl) da_nil)))) (blkOk_by rfl) (fun _ _ _ _ _ c => (dg_name 11 nd)) (fun _ _ _ _ _ c => dts_nil) (fun _ _ _ _ _ c => (de_errX (ns := [("BadOne", false), ("BadOther", false), ("BadPoly", false), ("BadPrime", true)]) (k := 7) c E_BadPrime rfl T.b_isinstance rfl rfl cd hr (by decide) (LamX.lamS_by rfl) rfl (fun _ _ _ _ _ => rfl) (fun _ _ _ _ _ _ _ _ _ rx hr c => (de_cv (tbl := [("poly_sum", sp_poly_sum), ("poly_less", sp_poly_less)]) 11 c (List.forall_mem_cons.mpr ⟨⟨_, _, _, _, by decide, F_poly_sum⟩, (List.forall_mem_cons.mpr ⟨⟨_, _, _, _, by decide, F_poly_less⟩, List.forall_mem_nil _⟩)⟩) hr (da_cons (de_c c F__law_no_prime hr (by decide) rfl (da_cons (de_var 1) da_nil)) (da_cons de_non (da_cons de_non da_nil))))))) rfl rfl (sw_true rfl rfl rfl (by decide +kernel)))
      (dss_cons (ds_set 10 nd (de_add c.hK (de_var 10) (de_lc (own := [("work", 11)]) c nd (by decide) (di_seq c.hK (de_lst (da_cons (de_fn c F_poly_sum rfl) (da_cons (de_fn c F_poly_less rfl) da_nil)))) (blkOk_by rfl) (fun _ _ _ _ _ c => (dg_name 11 nd)) (fun _ _ _ _ _ c => dts_nil) (fun _ _ _ _ _ c => (de_errX (ns := [("BadOne", true), ("BadOther", false), ("BadPoly", false), ("BadPrime", false)]) (k := 7) c E_BadOne rfl T.b_isinstance rfl rfl cd hr (by decide) (LamX.lamS_by rfl) rfl (fun _ _ _ _ _ => rfl) (fun _ _ _ _ _ _ _ _ _ rx hr c => (de_cv (tbl := [("poly_sum", sp_poly_sum), ("poly_less", sp_poly_less)]) 11 c (List.forall_mem_cons.mpr ⟨⟨_, _, _, _, by decide, F_poly_sum⟩, (List.forall_mem_cons.mpr ⟨⟨_, _, _, _, by decide, F_poly_less⟩, List.forall_mem_nil _⟩)⟩) hr (da_cons (de_var 3) (da_cons (de_var 9) (da_cons de_non da_nil))))))))))
      (dss_cons (ds_set 10 nd (de_add c.hK (de_var 10) (de_lc (own := [("work", 11)]) c nd (by decide) (di_seq c.hK (de_lst (da_cons (de_fn c F_poly_sum rfl) (da_cons (de_fn c F_poly_less rfl) da_nil)))) (blkOk_by rfl) (fun _ _ _ _ _ c => (dg_name 11 nd)) (fun _ _ _ _ _ c => dts_nil) (fun _ _ _ _ _ c => (de_errX (ns := [("BadOne", false), ("BadOther", true), ("BadPoly", false), ("BadPrime", false)]) (k := 7) c E_BadOther rfl T.b_isinstance rfl rfl cd hr (by decide) (LamX.lamS_by rfl) rfl (fun _ _ _ _ _ => rfl) (fun _ _ _ _ _ _ _ _ _ rx hr c => (de_cv (tbl := [("poly_sum", sp_poly_sum), ("poly_less", sp_poly_less)]) 11 c (List.forall_mem_cons.mpr ⟨⟨_, _, _, _, by decide, F_poly_sum⟩, (List.forall_mem_cons.mpr ⟨⟨_, _, _, _, by decide, F_poly_less⟩, List.forall_mem_nil _⟩)⟩) hr (da_cons (de_var 3) (da_cons (de_var 5) (da_cons (de_var 9) da_nil))))))))))
      (dss_cons (ds_app 10 (de_errX (ns := [("BadOne", false), ("BadOther", false), ("BadPoly", false), ("BadPrime", true)]) (k := 5) c E_BadPrime rfl T.b_isinstance rfl rfl cd hr (by decide) (LamX.lamS_by rfl) rfl (fun _ _ _ _ _ => rfl) (fun _ _ _ _ _ _ _ _ _ rx hr c => (de_c c F_is_poly hr (by decide) rfl (da_cons (de_c c F__law_no_prime hr (by decide) rfl (da_cons (de_var 1) da_nil)) (da_cons (de_tup da_nil) da_nil))))))
      (dss_one (ds_if (dt_cmpC (c_ne c.hu c.hK) (de_var 10) (de_mul c.hK (de_lst (da_cons de_bl da_nil)) de_int)) (dss_one (ds_ret de_bl)) dss_nil)))))))))))))))
      (dss_one (ds_ret (de_c c F__law_says hr (by decide) rfl (da_cons (de_lst (da_cons (de_c c F_poly_sum hr (by decide) rfl (da_cons de_int (da_cons (de_tup (da_cons de_int (da_cons de_int da_nil))) (da_cons (de_tup (da_cons de_int (da_cons de_int da_nil))) da_nil)))) (da_cons (de_c c F_poly_less hr (by decide) rfl (da_cons de_int (da_cons (de_tup (da_cons de_int (da_cons de_int da_nil))) (da_cons (de_tup da_nil) da_nil)))) (da_cons (de_c c F_is_poly hr (by decide) rfl (da_cons de_int (da_cons (de_tup (da_cons de_int da_nil)) da_nil))) (da_cons (de_c c F_is_poly hr (by decide) rfl (da_cons de_int (da_cons (de_tup (da_cons de_int da_nil)) da_nil))) (da_cons (de_c c F_is_poly hr (by decide) rfl (da_cons de_int (da_cons (de_tup da_nil) da_nil))) da_nil)))))) (da_cons (de_lst (da_cons (de_tup da_nil) (da_cons (de_tup (da_cons de_int (da_cons de_int da_nil))) (da_cons de_bl (da_cons de_bl (da_cons de_bl da_nil)))))) da_nil)))))))
    (law_law mg)

end
end My

set_option maxRecDepth 100000
set_option maxHeartbeats 4000000
namespace My
open PySem PySem.Spec PyProof.Rows L2 L3
abbrev s__law_caught : Stmt := top 30
theorem len1 {α : Type} (us : List α) (h : us.length = 1) : ∃ a, us = [a] := List.length_eq_one_iff.mp h
theorem len2 {α : Type} (us : List α) (h : us.length = 2) : ∃ a b, us = [a, b] := match us, h with | [a, b], _ => ⟨a, b, rfl⟩
theorem len3 {α : Type} (us : List α) (h : us.length = 3) : ∃ a b c, us = [a, b, c] := match us, h with | [a, b, c], _ => ⟨a, b, c, rfl⟩
theorem all_mk {l : PySem.W.OpenLaw} {w : World} {K : PySem.W.Frag} {h : Heap} {mg : Str → Option Value} {fa : Addr} (X : K.In h) (G : h.Ns mainGlobals mg) (hfa : mg "law" = some (.ref fa))
    {f0 : Addr} {od0 an0 : Option Addr} {sl0 : Array (Option Value)} {oc0 kV0 dc0 pm0 cd0 ct0 : Value}
    {f1 : Addr} {od1 an1 : Option Addr} {sl1 : Array (Option Value)} {oc1 kV1 dc1 pm1 cd1 ct1 : Value}
    {f2 : Addr} {od2 an2 : Option Addr} {sl2 : Array (Option Value)} {oc2 kV2 dc2 pm2 cd2 ct2 : Value}
    {f3 : Addr} {od3 an3 : Option Addr} {sl3 : Array (Option Value)} {oc3 kV3 dc3 pm3 cd3 ct3 : Value}
    {f4 : Addr} {od4 an4 : Option Addr} {sl4 : Array (Option Value)} {oc4 kV4 dc4 pm4 cd4 ct4 : Value}
    {f5 : Addr} {od5 an5 : Option Addr} {sl5 : Array (Option Value)} {oc5 kV5 dc5 pm5 cd5 ct5 : Value}
    {f6 : Addr} {od6 an6 : Option Addr} {sl6 : Array (Option Value)} {oc6 kV6 dc6 pm6 cd6 ct6 : Value}
    {f7 : Addr} {od7 an7 : Option Addr} {sl7 : Array (Option Value)} {oc7 kV7 dc7 pm7 cd7 ct7 : Value}
    {f8 : Addr} {od8 an8 : Option Addr} {sl8 : Array (Option Value)} {oc8 kV8 dc8 pm8 cd8 ct8 : Value}
    {f9 : Addr} {od9 an9 : Option Addr} {sl9 : Array (Option Value)} {oc9 kV9 dc9 pm9 cd9 ct9 : Value}
    {f10 : Addr} {od10 an10 : Option Addr} {sl10 : Array (Option Value)} {oc10 kV10 dc10 pm10 cd10 ct10 : Value}
    {f11 : Addr} {od11 an11 : Option Addr} {sl11 : Array (Option Value)} {oc11 kV11 dc11 pm11 cd11 ct11 : Value}
    {f12 : Addr} {od12 an12 : Option Addr} {sl12 : Array (Option Value)} {oc12 kV12 dc12 pm12 cd12 ct12 : Value}
    {f13 : Addr} {od13 an13 : Option Addr} {sl13 : Array (Option Value)} {oc13 kV13 dc13 pm13 cd13 ct13 : Value}
    {f14 : Addr} {od14 an14 : Option Addr} {sl14 : Array (Option Value)} {oc14 kV14 dc14 pm14 cd14 ct14 : Value}
    {f15 : Addr} {od15 an15 : Option Addr} {sl15 : Array (Option Value)} {oc15 kV15 dc15 pm15 cd15 ct15 : Value}
    {f16 : Addr} {od16 an16 : Option Addr} {sl16 : Array (Option Value)} {oc16 kV16 dc16 pm16 cd16 ct16 : Value}
    {f17 : Addr} {od17 an17 : Option Addr} {sl17 : Array (Option Value)} {oc17 kV17 dc17 pm17 cd17 ct17 : Value}
    {f18 : Addr} {od18 an18 : Option Addr} {sl18 : Array (Option Value)} {oc18 kV18 dc18 pm18 cd18 ct18 : Value}
    {T18 : Addr} {to18 : Option Addr} {tn18 : Nat} {ts18 : Array (Option Value)} {tq18 : Tok}
    {f19 : Addr} {od19 an19 : Option Addr} {sl19 : Array (Option Value)} {oc19 kV19 dc19 pm19 cd19 ct19 : Value}
    {f20 : Addr} {od20 an20 : Option Addr} {sl20 : Array (Option Value)} {oc20 kV20 dc20 pm20 cd20 ct20 : Value}
    {f21 : Addr} {od21 an21 : Option Addr} {sl21 : Array (Option Value)} {oc21 kV21 dc21 pm21 cd21 ct21 : Value}
    {f22 : Addr} {od22 an22 : Option Addr} {sl22 : Array (Option Value)} {oc22 kV22 dc22 pm22 cd22 ct22 : Value}
    {f23 : Addr} {od23 an23 : Option Addr} {sl23 : Array (Option Value)} {oc23 kV23 dc23 pm23 cd23 ct23 : Value}
    {f24 : Addr} {od24 an24 : Option Addr} {sl24 : Array (Option Value)} {oc24 kV24 dc24 pm24 cd24 ct24 : Value}
    {f25 : Addr} {od25 an25 : Option Addr} {sl25 : Array (Option Value)} {oc25 kV25 dc25 pm25 cd25 ct25 : Value}
    {f26 : Addr} {od26 an26 : Option Addr} {sl26 : Array (Option Value)} {oc26 kV26 dc26 pm26 cd26 ct26 : Value}
    {f27 : Addr} {od27 an27 : Option Addr} {sl27 : Array (Option Value)} {oc27 kV27 dc27 pm27 cd27 ct27 : Value}
    {f28 : Addr} {od28 an28 : Option Addr} {sl28 : Array (Option Value)} {oc28 kV28 dc28 pm28 cd28 ct28 : Value}
    {f29 : Addr} {od29 an29 : Option Addr} {sl29 : Array (Option Value)} {oc29 kV29 dc29 pm29 cd29 ct29 : Value}
    {tk_MOST_NUMBERS : Tok}
    {tp_PRIMES : Addr} {to_PRIMES : Option Addr} {tn_PRIMES : Nat} {ts_PRIMES : Array (Option Value)} {tk0_PRIMES tk1_PRIMES tk2_PRIMES tk3_PRIMES : Tok}
    {CD : Addr} {bm : List Value} {C_BadOne : Addr} {C_BadOther : Addr} {C_BadPoly : Addr} {C_BadPrime : Addr}
    {c P : Addr}
    (a0 : PySem.W.nsIn K mainGlobals "_law_begun" = some (some (.ref f0)))
    (l0 : K.lookup f0 = some ⟨oc0, od0, .func (PySem.W.fnOf "_law_begun" "_law_begun" (defArgs s__law_begun) (defBody s__law_begun) (defScope s__law_begun) .none kV0 dc0 pm0 an0 cd0 ct0), sl0⟩)
    (c0 : PySem.W.codeIn K cd0 "_law_begun" = true)
    (k0 : PySem.W.keepIn K (.ref f0) = true)
    (a1 : PySem.W.nsIn K mainGlobals "_law_kinds" = some (some (.ref f1)))
    (l1 : K.lookup f1 = some ⟨oc1, od1, .func (PySem.W.fnOf "_law_kinds" "_law_kinds" (defArgs s__law_kinds) (defBody s__law_kinds) (defScope s__law_kinds) .none kV1 dc1 pm1 an1 cd1 ct1), sl1⟩)
    (c1 : PySem.W.codeIn K cd1 "_law_kinds" = true)
    (k1 : PySem.W.keepIn K (.ref f1) = true)
    (a2 : PySem.W.nsIn K mainGlobals "_law_says" = some (some (.ref f2)))
    (l2 : K.lookup f2 = some ⟨oc2, od2, .func (PySem.W.fnOf "_law_says" "_law_says" (defArgs s__law_says) (defBody s__law_says) (defScope s__law_says) .none kV2 dc2 pm2 an2 cd2 ct2), sl2⟩)
    (c2 : PySem.W.codeIn K cd2 "_law_says" = true)
    (k2 : PySem.W.keepIn K (.ref f2) = true)
    (a3 : PySem.W.nsIn K mainGlobals "_law_mixed" = some (some (.ref f3)))
    (l3 : K.lookup f3 = some ⟨oc3, od3, .func (PySem.W.fnOf "_law_mixed" "_law_mixed" (defArgs s__law_mixed) (defBody s__law_mixed) (defScope s__law_mixed) .none kV3 dc3 pm3 an3 cd3 ct3), sl3⟩)
    (c3 : PySem.W.codeIn K cd3 "_law_mixed" = true)
    (k3 : PySem.W.keepIn K (.ref f3) = true)
    (a4 : PySem.W.nsIn K mainGlobals "_law_take" = some (some (.ref f4)))
    (l4 : K.lookup f4 = some ⟨oc4, od4, .func (PySem.W.fnOf "_law_take" "_law_take" (defArgs s__law_take) (defBody s__law_take) (defScope s__law_take) .none kV4 dc4 pm4 an4 cd4 ct4), sl4⟩)
    (c4 : PySem.W.codeIn K cd4 "_law_take" = true)
    (k4 : PySem.W.keepIn K (.ref f4) = true)
    (a5 : PySem.W.nsIn K mainGlobals "_law_pick" = some (some (.ref f5)))
    (l5 : K.lookup f5 = some ⟨oc5, od5, .func (PySem.W.fnOf "_law_pick" "_law_pick" (defArgs s__law_pick) (defBody s__law_pick) (defScope s__law_pick) .none kV5 dc5 pm5 an5 cd5 ct5), sl5⟩)
    (c5 : PySem.W.codeIn K cd5 "_law_pick" = true)
    (k5 : PySem.W.keepIn K (.ref f5) = true)
    (a6 : PySem.W.nsIn K mainGlobals "_law_no_poly" = some (some (.ref f6)))
    (l6 : K.lookup f6 = some ⟨oc6, od6, .func (PySem.W.fnOf "_law_no_poly" "_law_no_poly" (defArgs s__law_no_poly) (defBody s__law_no_poly) (defScope s__law_no_poly) .none kV6 dc6 pm6 an6 cd6 ct6), sl6⟩)
    (c6 : PySem.W.codeIn K cd6 "_law_no_poly" = true)
    (k6 : PySem.W.keepIn K (.ref f6) = true)
    (a7 : PySem.W.nsIn K mainGlobals "_law_prime" = some (some (.ref f7)))
    (l7 : K.lookup f7 = some ⟨oc7, od7, .func (PySem.W.fnOf "_law_prime" "_law_prime" (defArgs s__law_prime) (defBody s__law_prime) (defScope s__law_prime) .none kV7 dc7 pm7 an7 cd7 ct7), sl7⟩)
    (c7 : PySem.W.codeIn K cd7 "_law_prime" = true)
    (k7 : PySem.W.keepIn K (.ref f7) = true)
    (a8 : PySem.W.nsIn K mainGlobals "_law_cut" = some (some (.ref f8)))
    (l8 : K.lookup f8 = some ⟨oc8, od8, .func (PySem.W.fnOf "_law_cut" "_law_cut" (defArgs s__law_cut) (defBody s__law_cut) (defScope s__law_cut) .none kV8 dc8 pm8 an8 cd8 ct8), sl8⟩)
    (c8 : PySem.W.codeIn K cd8 "_law_cut" = true)
    (k8 : PySem.W.keepIn K (.ref f8) = true)
    (a9 : PySem.W.nsIn K mainGlobals "_law_rests" = some (some (.ref f9)))
    (l9 : K.lookup f9 = some ⟨oc9, od9, .func (PySem.W.fnOf "_law_rests" "_law_rests" (defArgs s__law_rests) (defBody s__law_rests) (defScope s__law_rests) .none kV9 dc9 pm9 an9 cd9 ct9), sl9⟩)
    (c9 : PySem.W.codeIn K cd9 "_law_rests" = true)
    (k9 : PySem.W.keepIn K (.ref f9) = true)
    (a10 : PySem.W.nsIn K mainGlobals "_law_poly" = some (some (.ref f10)))
    (l10 : K.lookup f10 = some ⟨oc10, od10, .func (PySem.W.fnOf "_law_poly" "_law_poly" (defArgs s__law_poly) (defBody s__law_poly) (defScope s__law_poly) .none kV10 dc10 pm10 an10 cd10 ct10), sl10⟩)
    (c10 : PySem.W.codeIn K cd10 "_law_poly" = true)
    (k10 : PySem.W.keepIn K (.ref f10) = true)
    (a11 : PySem.W.nsIn K mainGlobals "_law_plus" = some (some (.ref f11)))
    (l11 : K.lookup f11 = some ⟨oc11, od11, .func (PySem.W.fnOf "_law_plus" "_law_plus" (defArgs s__law_plus) (defBody s__law_plus) (defScope s__law_plus) .none kV11 dc11 pm11 an11 cd11 ct11), sl11⟩)
    (c11 : PySem.W.codeIn K cd11 "_law_plus" = true)
    (k11 : PySem.W.keepIn K (.ref f11) = true)
    (a12 : PySem.W.nsIn K mainGlobals "is_whole" = some (some (.ref f12)))
    (l12 : K.lookup f12 = some ⟨oc12, od12, .func (PySem.W.fnOf "is_whole" "is_whole" (defArgs s_is_whole) (defBody s_is_whole) (defScope s_is_whole) .none kV12 dc12 pm12 an12 cd12 ct12), sl12⟩)
    (c12 : PySem.W.codeIn K cd12 "is_whole" = true)
    (k12 : PySem.W.keepIn K (.ref f12) = true)
    (a13 : PySem.W.nsIn K mainGlobals "is_prime" = some (some (.ref f13)))
    (l13 : K.lookup f13 = some ⟨oc13, od13, .func (PySem.W.fnOf "is_prime" "is_prime" (defArgs s_is_prime) (defBody s_is_prime) (defScope s_is_prime) .none kV13 dc13 pm13 an13 cd13 ct13), sl13⟩)
    (c13 : PySem.W.codeIn K cd13 "is_prime" = true)
    (k13 : PySem.W.keepIn K (.ref f13) = true)
    (a14 : PySem.W.nsIn K mainGlobals "need_prime" = some (some (.ref f14)))
    (l14 : K.lookup f14 = some ⟨oc14, od14, .func (PySem.W.fnOf "need_prime" "need_prime" (defArgs s_need_prime) (defBody s_need_prime) (defScope s_need_prime) .none kV14 dc14 pm14 an14 cd14 ct14), sl14⟩)
    (c14 : PySem.W.codeIn K cd14 "need_prime" = true)
    (k14 : PySem.W.keepIn K (.ref f14) = true)
    (a15 : PySem.W.nsIn K mainGlobals "is_within" = some (some (.ref f15)))
    (l15 : K.lookup f15 = some ⟨oc15, od15, .func (PySem.W.fnOf "is_within" "is_within" (defArgs s_is_within) (defBody s_is_within) (defScope s_is_within) .none kV15 dc15 pm15 an15 cd15 ct15), sl15⟩)
    (c15 : PySem.W.codeIn K cd15 "is_within" = true)
    (k15 : PySem.W.keepIn K (.ref f15) = true)
    (a16 : PySem.W.nsIn K mainGlobals "is_rest" = some (some (.ref f16)))
    (l16 : K.lookup f16 = some ⟨oc16, od16, .func (PySem.W.fnOf "is_rest" "is_rest" (defArgs s_is_rest) (defBody s_is_rest) (defScope s_is_rest) .none kV16 dc16 pm16 an16 cd16 ct16), sl16⟩)
    (c16 : PySem.W.codeIn K cd16 "is_rest" = true)
    (k16 : PySem.W.keepIn K (.ref f16) = true)
    (a17 : PySem.W.nsIn K mainGlobals "is_poly_of" = some (some (.ref f17)))
    (l17 : K.lookup f17 = some ⟨oc17, od17, .func (PySem.W.fnOf "is_poly_of" "is_poly_of" (defArgs s_is_poly_of) (defBody s_is_poly_of) (defScope s_is_poly_of) .none kV17 dc17 pm17 an17 cd17 ct17), sl17⟩)
    (c17 : PySem.W.codeIn K cd17 "is_poly_of" = true)
    (k17 : PySem.W.keepIn K (.ref f17) = true)
    (a18 : PySem.W.nsIn K mainGlobals "need_poly" = some (some (.ref f18)))
    (l18 : K.lookup f18 = some ⟨oc18, od18, .func (PySem.W.fnOf "need_poly" "need_poly" (defArgs s_need_poly) (defBody s_need_poly) (defScope s_need_poly) (.ref T18) kV18 dc18 pm18 an18 cd18 ct18), sl18⟩)
    (lT18 : K.lookup T18 = some ⟨.type "tuple", to18, .seq #[.str "poly" tq18] tn18, ts18⟩)
    (c18 : PySem.W.codeIn K cd18 "need_poly" = true)
    (k18 : PySem.W.keepIn K (.ref f18) = true)
    (a19 : PySem.W.nsIn K mainGlobals "need_both" = some (some (.ref f19)))
    (l19 : K.lookup f19 = some ⟨oc19, od19, .func (PySem.W.fnOf "need_both" "need_both" (defArgs s_need_both) (defBody s_need_both) (defScope s_need_both) .none kV19 dc19 pm19 an19 cd19 ct19), sl19⟩)
    (c19 : PySem.W.codeIn K cd19 "need_both" = true)
    (k19 : PySem.W.keepIn K (.ref f19) = true)
    (a20 : PySem.W.nsIn K mainGlobals "trimmed" = some (some (.ref f20)))
    (l20 : K.lookup f20 = some ⟨oc20, od20, .func (PySem.W.fnOf "trimmed" "trimmed" (defArgs s_trimmed) (defBody s_trimmed) (defScope s_trimmed) .none kV20 dc20 pm20 an20 cd20 ct20), sl20⟩)
    (c20 : PySem.W.codeIn K cd20 "trimmed" = true)
    (k20 : PySem.W.keepIn K (.ref f20) = true)
    (a21 : PySem.W.nsIn K mainGlobals "plus_by" = some (some (.ref f21)))
    (l21 : K.lookup f21 = some ⟨oc21, od21, .func (PySem.W.fnOf "plus_by" "plus_by" (defArgs s_plus_by) (defBody s_plus_by) (defScope s_plus_by) .none kV21 dc21 pm21 an21 cd21 ct21), sl21⟩)
    (c21 : PySem.W.codeIn K cd21 "plus_by" = true)
    (k21 : PySem.W.keepIn K (.ref f21) = true)
    (a22 : PySem.W.nsIn K mainGlobals "poly_sum" = some (some (.ref f22)))
    (l22 : K.lookup f22 = some ⟨oc22, od22, .func (PySem.W.fnOf "poly_sum" "poly_sum" (defArgs s_poly_sum) (defBody s_poly_sum) (defScope s_poly_sum) .none kV22 dc22 pm22 an22 cd22 ct22), sl22⟩)
    (c22 : PySem.W.codeIn K cd22 "poly_sum" = true)
    (k22 : PySem.W.keepIn K (.ref f22) = true)
    (a23 : PySem.W.nsIn K mainGlobals "scaled" = some (some (.ref f23)))
    (l23 : K.lookup f23 = some ⟨oc23, od23, .func (PySem.W.fnOf "scaled" "scaled" (defArgs s_scaled) (defBody s_scaled) (defScope s_scaled) .none kV23 dc23 pm23 an23 cd23 ct23), sl23⟩)
    (c23 : PySem.W.codeIn K cd23 "scaled" = true)
    (k23 : PySem.W.keepIn K (.ref f23) = true)
    (a24 : PySem.W.nsIn K mainGlobals "minus_by" = some (some (.ref f24)))
    (l24 : K.lookup f24 = some ⟨oc24, od24, .func (PySem.W.fnOf "minus_by" "minus_by" (defArgs s_minus_by) (defBody s_minus_by) (defScope s_minus_by) .none kV24 dc24 pm24 an24 cd24 ct24), sl24⟩)
    (c24 : PySem.W.codeIn K cd24 "minus_by" = true)
    (k24 : PySem.W.keepIn K (.ref f24) = true)
    (a25 : PySem.W.nsIn K mainGlobals "poly_less" = some (some (.ref f25)))
    (l25 : K.lookup f25 = some ⟨oc25, od25, .func (PySem.W.fnOf "poly_less" "poly_less" (defArgs s_poly_less) (defBody s_poly_less) (defScope s_poly_less) .none kV25 dc25 pm25 an25 cd25 ct25), sl25⟩)
    (c25 : PySem.W.codeIn K cd25 "poly_less" = true)
    (k25 : PySem.W.keepIn K (.ref f25) = true)
    (a26 : PySem.W.nsIn K mainGlobals "is_poly" = some (some (.ref f26)))
    (l26 : K.lookup f26 = some ⟨oc26, od26, .func (PySem.W.fnOf "is_poly" "is_poly" (defArgs s_is_poly) (defBody s_is_poly) (defScope s_is_poly) .none kV26 dc26 pm26 an26 cd26 ct26), sl26⟩)
    (c26 : PySem.W.codeIn K cd26 "is_poly" = true)
    (k26 : PySem.W.keepIn K (.ref f26) = true)
    (a27 : PySem.W.nsIn K mainGlobals "_law_caught" = some (some (.ref f27)))
    (l27 : K.lookup f27 = some ⟨oc27, od27, .func (PySem.W.fnOf "_law_caught" "_law_caught" (defArgs s__law_caught) (defBody s__law_caught) (defScope s__law_caught) .none kV27 dc27 pm27 an27 cd27 ct27), sl27⟩)
    (c27 : PySem.W.codeIn K cd27 "_law_caught" = true)
    (k27 : PySem.W.keepIn K (.ref f27) = true)
    (a28 : PySem.W.nsIn K mainGlobals "_law_no_prime" = some (some (.ref f28)))
    (l28 : K.lookup f28 = some ⟨oc28, od28, .func (PySem.W.fnOf "_law_no_prime" "_law_no_prime" (defArgs s__law_no_prime) (defBody s__law_no_prime) (defScope s__law_no_prime) .none kV28 dc28 pm28 an28 cd28 ct28), sl28⟩)
    (c28 : PySem.W.codeIn K cd28 "_law_no_prime" = true)
    (k28 : PySem.W.keepIn K (.ref f28) = true)
    (a29 : PySem.W.nsIn K mainGlobals "law" = some (some (.ref f29)))
    (l29 : K.lookup f29 = some ⟨oc29, od29, .func (PySem.W.fnOf "law" "law" (defArgs s_law) (defBody s_law) (defScope s_law) .none kV29 dc29 pm29 an29 cd29 ct29), sl29⟩)
    (c29 : PySem.W.codeIn K cd29 "law" = true)
    (k29 : PySem.W.keepIn K (.ref f29) = true)
    (z_all : PySem.W.nsIn K mainGlobals "all" = some none)
    (z_bool : PySem.W.nsIn K mainGlobals "bool" = some none)
    (z_dict : PySem.W.nsIn K mainGlobals "dict" = some none)
    (z_int : PySem.W.nsIn K mainGlobals "int" = some none)
    (z_isinstance : PySem.W.nsIn K mainGlobals "isinstance" = some none)
    (z_len : PySem.W.nsIn K mainGlobals "len" = some none)
    (z_list : PySem.W.nsIn K mainGlobals "list" = some none)
    (z_max : PySem.W.nsIn K mainGlobals "max" = some none)
    (z_min : PySem.W.nsIn K mainGlobals "min" = some none)
    (z_range : PySem.W.nsIn K mainGlobals "range" = some none)
    (z_repr : PySem.W.nsIn K mainGlobals "repr" = some none)
    (z_str : PySem.W.nsIn K mainGlobals "str" = some none)
    (z_tuple : PySem.W.nsIn K mainGlobals "tuple" = some none)
    (z_zip : PySem.W.nsIn K mainGlobals "zip" = some none)
    (p_MOST_NUMBERS : PySem.W.nsIn K mainGlobals "MOST_NUMBERS" = some (some (.int 200 tk_MOST_NUMBERS)))
    (p_PRIMES : PySem.W.nsIn K mainGlobals "PRIMES" = some (some (.ref tp_PRIMES)))
    (q_PRIMES : K.lookup tp_PRIMES = some ⟨.type "tuple", to_PRIMES, .seq #[.int 2 tk0_PRIMES, .int 3 tk1_PRIMES, .int 5 tk2_PRIMES, .int 7 tk3_PRIMES] tn_PRIMES, ts_PRIMES⟩)
    (aD : PySem.W.nsIn K mainGlobals "DigitError" = some (some (.ref CD)))
    (hbm : PySem.ExcBaseFacts "ValueError" "ValueError.__new__" "ValueError.__init__" bm)
    (hn : PySem.W.specialIn K (.builtin "object.__class__") "__get__" = some (some (.builtin "getset_descriptor.__get__")))
    (ht : PySem.W.takesIn K (.builtin "object.__class__") = some true)
    (e1_BadOne : PySem.W.nsIn K mainGlobals "BadOne" = some (some (.ref C_BadOne)))
    (e2_BadOne : PySem.W.excIn K C_BadOne bm "ValueError.__new__" = true)
    (e3_BadOne : PySem.W.keepIn K (.ref C_BadOne) = true)
    (e4_BadOne : PySem.W.subIn K (.ref C_BadOne) (.type "BaseException") = some true)
    (e5_BadOne : PySem.W.typeIn K (.ref C_BadOne) = some (.type "type"))
    (e6_BadOne : PySem.W.findIn K (.ref C_BadOne) "__getattribute__" = some (some (.builtin "BaseException.__getattribute__")))
    (e7_BadOne : PySem.W.findIn K (.ref C_BadOne) "__getattr__" = some none)
    (e8_BadOne : PySem.W.hasDictIn K C_BadOne = true)
    (e9_BadOne : PySem.W.findIn K (.ref C_BadOne) "__class__" = some (some (.builtin "object.__class__")))
    (e10_BadOne : PySem.W.mroIn K C_BadOne (.type "object") = some true)
    (e11_BadOne : PySem.W.exmOne K (.ref C_BadOne) (.ref CD) = some true)
    (e12_BadOne : PySem.W.kitOne K (.type "NoneType") (.ref C_BadOne) = some false)
    (e13_BadOne_BadOne : PySem.W.kitOne K (.ref C_BadOne) (.ref C_BadOne) = some true)
    (e13_BadOne_BadOther : PySem.W.kitOne K (.ref C_BadOne) (.ref C_BadOther) = some false)
    (e13_BadOne_BadPoly : PySem.W.kitOne K (.ref C_BadOne) (.ref C_BadPoly) = some false)
    (e13_BadOne_BadPrime : PySem.W.kitOne K (.ref C_BadOne) (.ref C_BadPrime) = some false)
    (e1_BadOther : PySem.W.nsIn K mainGlobals "BadOther" = some (some (.ref C_BadOther)))
    (e2_BadOther : PySem.W.excIn K C_BadOther bm "ValueError.__new__" = true)
    (e3_BadOther : PySem.W.keepIn K (.ref C_BadOther) = true)
    (e4_BadOther : PySem.W.subIn K (.ref C_BadOther) (.type "BaseException") = some true)
    (e5_BadOther : PySem.W.typeIn K (.ref C_BadOther) = some (.type "type"))
    (e6_BadOther : PySem.W.findIn K (.ref C_BadOther) "__getattribute__" = some (some (.builtin "BaseException.__getattribute__")))
    (e7_BadOther : PySem.W.findIn K (.ref C_BadOther) "__getattr__" = some none)
    (e8_BadOther : PySem.W.hasDictIn K C_BadOther = true)
    (e9_BadOther : PySem.W.findIn K (.ref C_BadOther) "__class__" = some (some (.builtin "object.__class__")))
    (e10_BadOther : PySem.W.mroIn K C_BadOther (.type "object") = some true)
    (e11_BadOther : PySem.W.exmOne K (.ref C_BadOther) (.ref CD) = some true)
    (e12_BadOther : PySem.W.kitOne K (.type "NoneType") (.ref C_BadOther) = some false)
    (e13_BadOther_BadOne : PySem.W.kitOne K (.ref C_BadOther) (.ref C_BadOne) = some false)
    (e13_BadOther_BadOther : PySem.W.kitOne K (.ref C_BadOther) (.ref C_BadOther) = some true)
    (e13_BadOther_BadPoly : PySem.W.kitOne K (.ref C_BadOther) (.ref C_BadPoly) = some false)
    (e13_BadOther_BadPrime : PySem.W.kitOne K (.ref C_BadOther) (.ref C_BadPrime) = some false)
    (e1_BadPoly : PySem.W.nsIn K mainGlobals "BadPoly" = some (some (.ref C_BadPoly)))
    (e2_BadPoly : PySem.W.excIn K C_BadPoly bm "ValueError.__new__" = true)
    (e3_BadPoly : PySem.W.keepIn K (.ref C_BadPoly) = true)
    (e4_BadPoly : PySem.W.subIn K (.ref C_BadPoly) (.type "BaseException") = some true)
    (e5_BadPoly : PySem.W.typeIn K (.ref C_BadPoly) = some (.type "type"))
    (e6_BadPoly : PySem.W.findIn K (.ref C_BadPoly) "__getattribute__" = some (some (.builtin "BaseException.__getattribute__")))
    (e7_BadPoly : PySem.W.findIn K (.ref C_BadPoly) "__getattr__" = some none)
    (e8_BadPoly : PySem.W.hasDictIn K C_BadPoly = true)
    (e9_BadPoly : PySem.W.findIn K (.ref C_BadPoly) "__class__" = some (some (.builtin "object.__class__")))
    (e10_BadPoly : PySem.W.mroIn K C_BadPoly (.type "object") = some true)
    (e11_BadPoly : PySem.W.exmOne K (.ref C_BadPoly) (.ref CD) = some true)
    (e12_BadPoly : PySem.W.kitOne K (.type "NoneType") (.ref C_BadPoly) = some false)
    (e13_BadPoly_BadOne : PySem.W.kitOne K (.ref C_BadPoly) (.ref C_BadOne) = some false)
    (e13_BadPoly_BadOther : PySem.W.kitOne K (.ref C_BadPoly) (.ref C_BadOther) = some false)
    (e13_BadPoly_BadPoly : PySem.W.kitOne K (.ref C_BadPoly) (.ref C_BadPoly) = some true)
    (e13_BadPoly_BadPrime : PySem.W.kitOne K (.ref C_BadPoly) (.ref C_BadPrime) = some false)
    (e1_BadPrime : PySem.W.nsIn K mainGlobals "BadPrime" = some (some (.ref C_BadPrime)))
    (e2_BadPrime : PySem.W.excIn K C_BadPrime bm "ValueError.__new__" = true)
    (e3_BadPrime : PySem.W.keepIn K (.ref C_BadPrime) = true)
    (e4_BadPrime : PySem.W.subIn K (.ref C_BadPrime) (.type "BaseException") = some true)
    (e5_BadPrime : PySem.W.typeIn K (.ref C_BadPrime) = some (.type "type"))
    (e6_BadPrime : PySem.W.findIn K (.ref C_BadPrime) "__getattribute__" = some (some (.builtin "BaseException.__getattribute__")))
    (e7_BadPrime : PySem.W.findIn K (.ref C_BadPrime) "__getattr__" = some none)
    (e8_BadPrime : PySem.W.hasDictIn K C_BadPrime = true)
    (e9_BadPrime : PySem.W.findIn K (.ref C_BadPrime) "__class__" = some (some (.builtin "object.__class__")))
    (e10_BadPrime : PySem.W.mroIn K C_BadPrime (.type "object") = some true)
    (e11_BadPrime : PySem.W.exmOne K (.ref C_BadPrime) (.ref CD) = some true)
    (e12_BadPrime : PySem.W.kitOne K (.type "NoneType") (.ref C_BadPrime) = some false)
    (e13_BadPrime_BadOne : PySem.W.kitOne K (.ref C_BadPrime) (.ref C_BadOne) = some false)
    (e13_BadPrime_BadOther : PySem.W.kitOne K (.ref C_BadPrime) (.ref C_BadOther) = some false)
    (e13_BadPrime_BadPoly : PySem.W.kitOne K (.ref C_BadPrime) (.ref C_BadPoly) = some false)
    (e13_BadPrime_BadPrime : PySem.W.kitOne K (.ref C_BadPrime) (.ref C_BadPrime) = some true)
    (cdl : cd29 = .ref c)
    (hP : h.get? P = some { cls := .none, data := .fields #[] })
    (nT : K.lookup P = none)
    (hC : PySem.W.codeHdIn K c P = true)
    : LamX.LawAtS l w K (L2.CX l.prog w) 10 63 "script" mg fa h := by
  have em := hfa.symm.trans (PySem.W.mg_of X G a29)
  cases em
  have T : Txt K mg := ⟨PySem.W.mg_none_of X G z_all, PySem.W.mg_none_of X G z_bool, PySem.W.mg_none_of X G z_dict, PySem.W.mg_none_of X G z_int, PySem.W.mg_none_of X G z_isinstance, PySem.W.mg_none_of X G z_len, PySem.W.mg_none_of X G z_list, PySem.W.mg_none_of X G z_max, PySem.W.mg_none_of X G z_min, PySem.W.mg_none_of X G z_range, PySem.W.mg_none_of X G z_repr, PySem.W.mg_none_of X G z_str, PySem.W.mg_none_of X G z_tuple, PySem.W.mg_none_of X G z_zip, ⟨_, PySem.W.mg_of X G p_MOST_NUMBERS⟩, ⟨_, _, _, _, PySem.W.mg_of X G p_PRIMES, q_PRIMES, rfl, rfl, (show 4 ≤ sizeLine by decide), .cons ⟨_, rfl⟩ (.cons ⟨_, rfl⟩ (.cons ⟨_, rfl⟩ (.cons ⟨_, rfl⟩ (.nil))))⟩, ⟨C_BadOne, bm, hbm, ⟨e2_BadOne, PySem.W.mg_of X G e1_BadOne, e3_BadOne, e4_BadOne, e5_BadOne⟩⟩, ⟨C_BadOther, bm, hbm, ⟨e2_BadOther, PySem.W.mg_of X G e1_BadOther, e3_BadOther, e4_BadOther, e5_BadOther⟩⟩, ⟨C_BadPoly, bm, hbm, ⟨e2_BadPoly, PySem.W.mg_of X G e1_BadPoly, e3_BadPoly, e4_BadPoly, e5_BadPoly⟩⟩, ⟨C_BadPrime, bm, hbm, ⟨e2_BadPrime, PySem.W.mg_of X G e1_BadPrime, e3_BadPrime, e4_BadPrime, e5_BadPrime⟩⟩⟩
  have D__law_begun : DefAt K mg "_law_begun" s__law_begun ["script"] kb__law_begun := def_at X G a0 l0 c0 k0 (fun _ _ _ _ _ _ us hl => match us, hl with | [_], _ => rfl) (fun _ _ _ _ _ _ p hp => (List.not_mem_nil hp).elim)
  have D__law_kinds : DefAt K mg "_law_kinds" s__law_kinds ["thing"] kb__law_kinds := def_at X G a1 l1 c1 k1 (fun _ _ _ _ _ _ us hl => match us, hl with | [_], _ => rfl) (fun _ _ _ _ _ _ p hp => (List.not_mem_nil hp).elim)
  have D__law_says : DefAt K mg "_law_says" s__law_says ["told", "due"] kb__law_says := def_at X G a2 l2 c2 k2 (fun _ _ _ _ _ _ us hl => match us, hl with | [_, _], _ => rfl) (fun _ _ _ _ _ _ p hp => (List.not_mem_nil hp).elim)
  have D__law_mixed : DefAt K mg "_law_mixed" s__law_mixed ["draw"] kb__law_mixed := def_at X G a3 l3 c3 k3 (fun _ _ _ _ _ _ us hl => match us, hl with | [_], _ => rfl) (fun _ _ _ _ _ _ p hp => (List.not_mem_nil hp).elim)
  have D__law_take : DefAt K mg "_law_take" s__law_take ["draw", "amount"] kb__law_take := def_at X G a4 l4 c4 k4 (fun _ _ _ _ _ _ us hl => match us, hl with | [_, _], _ => rfl) (fun _ _ _ _ _ _ p hp => (List.not_mem_nil hp).elim)
  have D__law_pick : DefAt K mg "_law_pick" s__law_pick ["draw", "items"] kb__law_pick := def_at X G a5 l5 c5 k5 (fun _ _ _ _ _ _ us hl => match us, hl with | [_, _], _ => rfl) (fun _ _ _ _ _ _ p hp => (List.not_mem_nil hp).elim)
  have D__law_no_poly : DefAt K mg "_law_no_poly" s__law_no_poly ["draw", "prime"] kb__law_no_poly := def_at X G a6 l6 c6 k6 (fun _ _ _ _ _ _ us hl => match us, hl with | [_, _], _ => rfl) (fun _ _ _ _ _ _ p hp => (List.not_mem_nil hp).elim)
  have D__law_prime : DefAt K mg "_law_prime" s__law_prime ["draw"] kb__law_prime := def_at X G a7 l7 c7 k7 (fun _ _ _ _ _ _ us hl => match us, hl with | [_], _ => rfl) (fun _ _ _ _ _ _ p hp => (List.not_mem_nil hp).elim)
  have D__law_cut : DefAt K mg "_law_cut" s__law_cut ["numbers"] kb__law_cut := def_at X G a8 l8 c8 k8 (fun _ _ _ _ _ _ us hl => match us, hl with | [_], _ => rfl) (fun _ _ _ _ _ _ p hp => (List.not_mem_nil hp).elim)
  have D__law_rests : DefAt K mg "_law_rests" s__law_rests ["draw", "prime", "many"] kb__law_rests := def_at X G a9 l9 c9 k9 (fun _ _ _ _ _ _ us hl => match us, hl with | [_, _, _], _ => rfl) (fun _ _ _ _ _ _ p hp => (List.not_mem_nil hp).elim)
  have D__law_poly : DefAt K mg "_law_poly" s__law_poly ["draw", "prime", "most"] kb__law_poly := def_at X G a10 l10 c10 k10 (fun _ _ _ _ _ _ us hl => match us, hl with | [_, _, _], _ => rfl) (fun _ _ _ _ _ _ p hp => (List.not_mem_nil hp).elim)
  have D__law_plus : DefAt K mg "_law_plus" s__law_plus ["prime", "one", "other"] kb__law_plus := def_at X G a11 l11 c11 k11 (fun _ _ _ _ _ _ us hl => match us, hl with | [_, _, _], _ => rfl) (fun _ _ _ _ _ _ p hp => (List.not_mem_nil hp).elim)
  have D_is_whole : DefAt K mg "is_whole" s_is_whole ["thing"] kb_is_whole := def_at X G a12 l12 c12 k12 (fun _ _ _ _ _ _ us hl => match us, hl with | [_], _ => rfl) (fun _ _ _ _ _ _ p hp => (List.not_mem_nil hp).elim)
  have D_is_prime : DefAt K mg "is_prime" s_is_prime ["thing"] kb_is_prime := def_at X G a13 l13 c13 k13 (fun _ _ _ _ _ _ us hl => match us, hl with | [_], _ => rfl) (fun _ _ _ _ _ _ p hp => (List.not_mem_nil hp).elim)
  have D_need_prime : DefAt K mg "need_prime" s_need_prime ["prime"] kb_need_prime := def_at X G a14 l14 c14 k14 (fun _ _ _ _ _ _ us hl => match us, hl with | [_], _ => rfl) (fun _ _ _ _ _ _ p hp => (List.not_mem_nil hp).elim)
  have D_is_within : DefAt K mg "is_within" s_is_within ["thing", "low", "high"] kb_is_within := def_at X G a15 l15 c15 k15 (fun _ _ _ _ _ _ us hl => match us, hl with | [_, _, _], _ => rfl) (fun _ _ _ _ _ _ p hp => (List.not_mem_nil hp).elim)
  have D_is_rest : DefAt K mg "is_rest" s_is_rest ["prime", "thing"] kb_is_rest := def_at X G a16 l16 c16 k16 (fun _ _ _ _ _ _ us hl => match us, hl with | [_, _], _ => rfl) (fun _ _ _ _ _ _ p hp => (List.not_mem_nil hp).elim)
  have D_is_poly_of : DefAt K mg "is_poly_of" s_is_poly_of ["prime", "thing"] kb_is_poly_of := def_at X G a17 l17 c17 k17 (fun _ _ _ _ _ _ us hl => match us, hl with | [_, _], _ => rfl) (fun _ _ _ _ _ _ p hp => (List.not_mem_nil hp).elim)
  have D_need_poly : DefAtD K mg "need_poly" s_need_poly ["prime", "poly", "which"] [.str "poly"] := def_atD X G a18 l18 c18 k18 lT18 (fun j hj T kV doc pm an cdv ct us its h1 h2 => by
      obtain ⟨y, rfl⟩ := len1 its h2
      have hj2 : j = 0 ∨ j = 1 := by omega
      rcases hj2 with rfl | rfl
      · obtain ⟨u0, u1, rfl⟩ := len2 us (by simpa using h1)
        exact ⟨_, rfl, rfl⟩
      · obtain ⟨u0, u1, u2, rfl⟩ := len3 us (by simpa using h1)
        exact ⟨_, rfl, rfl⟩) (by decide)
  have D_need_both : DefAt K mg "need_both" s_need_both ["prime", "one", "other"] kb_need_both := def_at X G a19 l19 c19 k19 (fun _ _ _ _ _ _ us hl => match us, hl with | [_, _, _], _ => rfl) (fun _ _ _ _ _ _ p hp => (List.not_mem_nil hp).elim)
  have D_trimmed : DefAt K mg "trimmed" s_trimmed ["numbers"] kb_trimmed := def_at X G a20 l20 c20 k20 (fun _ _ _ _ _ _ us hl => match us, hl with | [_], _ => rfl) (fun _ _ _ _ _ _ p hp => (List.not_mem_nil hp).elim)
  have D_plus_by : DefAt K mg "plus_by" s_plus_by ["prime", "one", "other"] kb_plus_by := def_at X G a21 l21 c21 k21 (fun _ _ _ _ _ _ us hl => match us, hl with | [_, _, _], _ => rfl) (fun _ _ _ _ _ _ p hp => (List.not_mem_nil hp).elim)
  have D_poly_sum : DefAt K mg "poly_sum" s_poly_sum ["prime", "one", "other"] kb_poly_sum := def_at X G a22 l22 c22 k22 (fun _ _ _ _ _ _ us hl => match us, hl with | [_, _, _], _ => rfl) (fun _ _ _ _ _ _ p hp s ws hw => by
      simp only [kb_poly_sum, List.mem_cons, List.not_mem_nil, or_false] at hp
      rcases hp with rfl
      all_goals exact (match ws, hw with | [_, _, _], _ => .of_eq rfl))
  have D_scaled : DefAt K mg "scaled" s_scaled ["prime", "poly", "rest"] kb_scaled := def_at X G a23 l23 c23 k23 (fun _ _ _ _ _ _ us hl => match us, hl with | [_, _, _], _ => rfl) (fun _ _ _ _ _ _ p hp => (List.not_mem_nil hp).elim)
  have D_minus_by : DefAt K mg "minus_by" s_minus_by ["prime", "one", "other"] kb_minus_by := def_at X G a24 l24 c24 k24 (fun _ _ _ _ _ _ us hl => match us, hl with | [_, _, _], _ => rfl) (fun _ _ _ _ _ _ p hp => (List.not_mem_nil hp).elim)
  have D_poly_less : DefAt K mg "poly_less" s_poly_less ["prime", "one", "other"] kb_poly_less := def_at X G a25 l25 c25 k25 (fun _ _ _ _ _ _ us hl => match us, hl with | [_, _, _], _ => rfl) (fun _ _ _ _ _ _ p hp => (List.not_mem_nil hp).elim)
  have D_is_poly : DefAt K mg "is_poly" s_is_poly ["prime", "thing"] kb_is_poly := def_at X G a26 l26 c26 k26 (fun _ _ _ _ _ _ us hl => match us, hl with | [_, _], _ => rfl) (fun _ _ _ _ _ _ p hp s ws hw => by
      simp only [kb_is_poly, List.mem_cons, List.not_mem_nil, or_false] at hp
      rcases hp with rfl
      all_goals exact (match ws, hw with | [_, _], _ => .of_eq rfl))
  have D__law_no_prime : DefAt K mg "_law_no_prime" s__law_no_prime ["draw"] kb__law_no_prime := def_at X G a28 l28 c28 k28 (fun _ _ _ _ _ _ us hl => match us, hl with | [_], _ => rfl) (fun _ _ _ _ _ _ p hp => (List.not_mem_nil hp).elim)
  have D_law : DefAt K mg "law" s_law ["script"] ([] : List (List Str × List Nat)) := def_at X G a29 l29 c29 k29 (fun _ _ _ _ _ _ us hl => match us, hl with | [_], _ => rfl) (fun _ _ _ _ _ _ p hp => (List.not_mem_nil hp).elim)
  have CA : CaughtAt K mg CD := ⟨f27, cd27, defScope s__law_caught, defArgs s__law_caught, defBody s__law_caught, .none, kV27, dc27, pm27, ct27, oc27, an27, od27, sl27, _, _, _, _, _, _, _, _, _, _, _, _, _, _, _, PySem.W.mg_of X G a27, k27, l27, c27, (fun_mk l27 c27 k27).binds (ps := ["work"]) (fun _ _ _ _ _ _ us hl => match us, hl with | [_], _ => rfl), ⟨rfl, rfl, rfl, by decide +kernel, rfl, by decide +kernel, by decide +kernel⟩, rfl, rfl, rfl, rfl, PySem.W.mg_of X G aD, rfl⟩
  have EC_BadOne : ExcC K C_BadOne := ⟨e6_BadOne, e7_BadOne, e4_BadOne, e8_BadOne, e9_BadOne, hn, ht, e10_BadOne⟩
  have EC_BadOther : ExcC K C_BadOther := ⟨e6_BadOther, e7_BadOther, e4_BadOther, e8_BadOther, e9_BadOther, hn, ht, e10_BadOther⟩
  have EC_BadPoly : ExcC K C_BadPoly := ⟨e6_BadPoly, e7_BadPoly, e4_BadPoly, e8_BadPoly, e9_BadPoly, hn, ht, e10_BadPoly⟩
  have EC_BadPrime : ExcC K C_BadPrime := ⟨e6_BadPrime, e7_BadPrime, e4_BadPrime, e8_BadPrime, e9_BadPrime, hn, ht, e10_BadPrime⟩
  have E_BadOne : ErrX K mg "BadOne" [("BadOne", true), ("BadOther", false), ("BadPoly", false), ("BadPrime", false)] := ⟨C_BadOne, CD, PySem.W.mg_of X G e1_BadOne, CA, ⟨e12_BadOne, fun p hp => by
      simp only [List.mem_cons, List.not_mem_nil, or_false] at hp
      rcases hp with rfl | rfl | rfl | rfl
      · exact ⟨C_BadOne, PySem.W.mg_of X G e1_BadOne, EC_BadOne, e11_BadOne, e13_BadOne_BadOne⟩
      · exact ⟨C_BadOther, PySem.W.mg_of X G e1_BadOther, EC_BadOther, e11_BadOther, e13_BadOther_BadOne⟩
      · exact ⟨C_BadPoly, PySem.W.mg_of X G e1_BadPoly, EC_BadPoly, e11_BadPoly, e13_BadPoly_BadOne⟩
      · exact ⟨C_BadPrime, PySem.W.mg_of X G e1_BadPrime, EC_BadPrime, e11_BadPrime, e13_BadPrime_BadOne⟩⟩⟩
  have E_BadOther : ErrX K mg "BadOther" [("BadOne", false), ("BadOther", true), ("BadPoly", false), ("BadPrime", false)] := ⟨C_BadOther, CD, PySem.W.mg_of X G e1_BadOther, CA, ⟨e12_BadOther, fun p hp => by
      simp only [List.mem_cons, List.not_mem_nil, or_false] at hp
      rcases hp with rfl | rfl | rfl | rfl
      · exact ⟨C_BadOne, PySem.W.mg_of X G e1_BadOne, EC_BadOne, e11_BadOne, e13_BadOne_BadOther⟩
      · exact ⟨C_BadOther, PySem.W.mg_of X G e1_BadOther, EC_BadOther, e11_BadOther, e13_BadOther_BadOther⟩
      · exact ⟨C_BadPoly, PySem.W.mg_of X G e1_BadPoly, EC_BadPoly, e11_BadPoly, e13_BadPoly_BadOther⟩
      · exact ⟨C_BadPrime, PySem.W.mg_of X G e1_BadPrime, EC_BadPrime, e11_BadPrime, e13_BadPrime_BadOther⟩⟩⟩
  have E_BadPrime : ErrX K mg "BadPrime" [("BadOne", false), ("BadOther", false), ("BadPoly", false), ("BadPrime", true)] := ⟨C_BadPrime, CD, PySem.W.mg_of X G e1_BadPrime, CA, ⟨e12_BadPrime, fun p hp => by
      simp only [List.mem_cons, List.not_mem_nil, or_false] at hp
      rcases hp with rfl | rfl | rfl | rfl
      · exact ⟨C_BadOne, PySem.W.mg_of X G e1_BadOne, EC_BadOne, e11_BadOne, e13_BadOne_BadPrime⟩
      · exact ⟨C_BadOther, PySem.W.mg_of X G e1_BadOther, EC_BadOther, e11_BadOther, e13_BadOther_BadPrime⟩
      · exact ⟨C_BadPoly, PySem.W.mg_of X G e1_BadPoly, EC_BadPoly, e11_BadPoly, e13_BadPoly_BadPrime⟩
      · exact ⟨C_BadPrime, PySem.W.mg_of X G e1_BadPrime, EC_BadPrime, e11_BadPrime, e13_BadPrime_BadPrime⟩⟩⟩
  refine law_at3 (c := c) (P := P) hfa l29 hP nT (PySem.W.codeHd_of_K X hC) (fun s u => .of_eq rfl) fun base XB GB TB => ?_
  have C__law_mixed : ∀ d : Dw, CalX l.prog w K mg base 1 "_law_mixed" ["draw"] (spMix d) := fun d => ok__law_mixed D__law_mixed T
  have C__law_begun : CalX l.prog w K mg base 1 "_law_begun" ["script"] (spBeg K [(P, "law.<locals>.<lambda>")]) := ok__law_begun D__law_begun T
  have C__law_kinds : ∀ d : Dw, Cal3 l.prog w K mg base (wdOf d) 1 "_law_kinds" ["thing"] kb__law_kinds sp__law_kinds 1 := fun d => ok__law_kinds D__law_kinds T
  have C__law_says : ∀ d : Dw, Cal3 l.prog w K mg base (wdOf d) 2 "_law_says" ["told", "due"] kb__law_says sp__law_says 2 := fun d => ok__law_says D__law_says T (C__law_kinds d)
  have C__law_take : ∀ d : Dw, Cal3 l.prog w K mg base (wdOf d) 2 "_law_take" ["draw", "amount"] kb__law_take (sp__law_take d) 2 := fun d => ok__law_take D__law_take T (C__law_mixed d)
  have C__law_pick : ∀ d : Dw, Cal3 l.prog w K mg base (wdOf d) 3 "_law_pick" ["draw", "items"] kb__law_pick (sp__law_pick d) 2 := fun d => ok__law_pick D__law_pick T (C__law_take d)
  have C__law_no_poly : ∀ d : Dw, Cal3 l.prog w K mg base (wdOf d) 4 "_law_no_poly" ["draw", "prime"] kb__law_no_poly (sp__law_no_poly d) 2 := fun d => ok__law_no_poly D__law_no_poly T (C__law_pick d)
  have C__law_prime : ∀ d : Dw, Cal3 l.prog w K mg base (wdOf d) 4 "_law_prime" ["draw"] kb__law_prime (sp__law_prime d) 1 := fun d => ok__law_prime D__law_prime T (C__law_pick d)
  have C__law_cut : ∀ d : Dw, Cal3 l.prog w K mg base (wdOf d) 1 "_law_cut" ["numbers"] kb__law_cut sp__law_cut 1 := fun d => ok__law_cut D__law_cut T
  have C__law_rests : ∀ d : Dw, Cal3 l.prog w K mg base (wdOf d) 3 "_law_rests" ["draw", "prime", "many"] kb__law_rests (sp__law_rests d) 3 := fun d => ok__law_rests D__law_rests T (C__law_take d)
  have C__law_poly : ∀ d : Dw, Cal3 l.prog w K mg base (wdOf d) 4 "_law_poly" ["draw", "prime", "most"] kb__law_poly (sp__law_poly d) 3 := fun d => ok__law_poly D__law_poly T (C__law_cut d) (C__law_rests d) (C__law_take d)
  have C__law_plus : ∀ d : Dw, Cal3 l.prog w K mg base (wdOf d) 2 "_law_plus" ["prime", "one", "other"] kb__law_plus sp__law_plus 3 := fun d => ok__law_plus D__law_plus T (C__law_cut d)
  have C_is_whole : ∀ d : Dw, Cal3 l.prog w K mg base (wdOf d) 1 "is_whole" ["thing"] kb_is_whole sp_is_whole 1 := fun d => ok_is_whole D_is_whole T
  have C_is_prime : ∀ d : Dw, Cal3 l.prog w K mg base (wdOf d) 2 "is_prime" ["thing"] kb_is_prime sp_is_prime 1 := fun d => ok_is_prime D_is_prime T (C_is_whole d)
  have C_need_prime : ∀ d : Dw, Cal3 l.prog w K mg base (wdOf d) 3 "need_prime" ["prime"] kb_need_prime sp_need_prime 1 := fun d => ok_need_prime D_need_prime T (C_is_prime d)
  have C_is_within : ∀ d : Dw, Cal3 l.prog w K mg base (wdOf d) 2 "is_within" ["thing", "low", "high"] kb_is_within sp_is_within 3 := fun d => ok_is_within D_is_within T (C_is_whole d)
  have C_is_rest : ∀ d : Dw, Cal3 l.prog w K mg base (wdOf d) 3 "is_rest" ["prime", "thing"] kb_is_rest sp_is_rest 2 := fun d => ok_is_rest D_is_rest T (C_is_within d)
  have C_is_poly_of : ∀ d : Dw, Cal3 l.prog w K mg base (wdOf d) 4 "is_poly_of" ["prime", "thing"] kb_is_poly_of sp_is_poly_of 2 := fun d => ok_is_poly_of D_is_poly_of T (C_is_rest d)
  have CD_need_poly := fun d : Dw => ok_need_poly (P := l.prog) (w := w) (base := base) (W := wdOf d) D_need_poly T (C_is_poly_of d)
  have C_need_poly : ∀ d : Dw, Cal3 l.prog w K mg base (wdOf d) 5 "need_poly" ["prime", "poly", "which"] kb_need_poly sp_need_poly 3 := fun d => (CD_need_poly d).1
  have C_need_poly_d1 : ∀ d : Dw, CalD l.prog w K mg base (wdOf d) 5 "need_poly" ["prime", "poly", "which"] [.str "poly"] sp_need_poly 3 := fun d => (CD_need_poly d).2
  have C_need_both : ∀ d : Dw, Cal3 l.prog w K mg base (wdOf d) 6 "need_both" ["prime", "one", "other"] kb_need_both sp_need_both 3 := fun d => ok_need_both D_need_both T (C_need_poly d) (C_need_prime d)
  have C_trimmed : ∀ d : Dw, Cal3 l.prog w K mg base (wdOf d) 1 "trimmed" ["numbers"] kb_trimmed sp_trimmed 1 := fun d => ok_trimmed D_trimmed T
  have C_plus_by : ∀ d : Dw, Cal3 l.prog w K mg base (wdOf d) 2 "plus_by" ["prime", "one", "other"] kb_plus_by sp_plus_by 3 := fun d => ok_plus_by D_plus_by T (C_trimmed d)
  have C_poly_sum : ∀ d : Dw, Cal3 l.prog w K mg base (wdOf d) 7 "poly_sum" ["prime", "one", "other"] kb_poly_sum sp_poly_sum 3 := fun d => ok_poly_sum D_poly_sum T (C_need_both d) (C_plus_by d)
  have C_scaled : ∀ d : Dw, Cal3 l.prog w K mg base (wdOf d) 2 "scaled" ["prime", "poly", "rest"] kb_scaled sp_scaled 3 := fun d => ok_scaled D_scaled T (C_trimmed d)
  have C_minus_by : ∀ d : Dw, Cal3 l.prog w K mg base (wdOf d) 3 "minus_by" ["prime", "one", "other"] kb_minus_by sp_minus_by 3 := fun d => ok_minus_by D_minus_by T (C_plus_by d) (C_scaled d)
  have C_poly_less : ∀ d : Dw, Cal3 l.prog w K mg base (wdOf d) 7 "poly_less" ["prime", "one", "other"] kb_poly_less sp_poly_less 3 := fun d => ok_poly_less D_poly_less T (C_minus_by d) (C_need_both d)
  have C_is_poly : ∀ d : Dw, Cal3 l.prog w K mg base (wdOf d) 5 "is_poly" ["prime", "thing"] kb_is_poly sp_is_poly 2 := fun d => ok_is_poly D_is_poly T (C_is_poly_of d) (C_need_prime d)
  have C__law_no_prime : ∀ d : Dw, Cal3 l.prog w K mg base (wdOf d) 4 "_law_no_prime" ["draw"] kb__law_no_prime (sp__law_no_prime d) 1 := fun d => ok__law_no_prime D__law_no_prime T (C__law_pick d)
  refine ok_law D_law T C__law_begun (fun d _ => C__law_no_poly d) (fun d _ => C__law_no_prime d) (fun d _ => C__law_pick d) (fun d _ => C__law_plus d) (fun d _ => C__law_poly d) (fun d _ => C__law_prime d) (fun d _ => C__law_says d) (fun d _ => C__law_take d) (fun d _ => C_is_poly d) (fun d _ => C_poly_less d) (fun d _ => C_poly_sum d) E_BadOne E_BadOther E_BadPrime fun f cdv hm lk => ?_
  obtain ⟨oc, od, dV, kV, doc, pm, an, ct, osl, lk⟩ := lk
  have ef := hm.symm.trans hfa
  cases ef
  have e1 := Option.some.inj (l29.symm.trans lk)
  have e2 := congrArg Obj.data e1
  injection e2 with e3
  have e4 : cd29 = cdv := congrArg FuncData.code e3
  exact ⟨c, P, e4 ▸ cdl, TB, List.mem_singleton.mpr rfl, fun p hp _ => by rw [List.mem_singleton.mp hp]⟩
end My

set_option maxRecDepth 100000
set_option maxHeartbeats 4000000
open PySem PySem.W PyProof.Rows
set_option maxRecDepth 100000 in
set_option maxHeartbeats 0 in
theorem PySem.Challenge.cw_rootsbydigits_k02_whole_sums_of_polys_holds : PySem.Challenge.rw_rootsbydigits_k02_whole_sums_of_polys.Holds := by
  w_on; o_law; k_head; (case hw => w_witness2)
  k_fill
  refine L3.walk3 (l := PySem.Challenge.rw_rootsbydigits_k02_whole_sums_of_polys) (k := 10) rfl rfl ⟨rfl, by decide, by decide⟩ ?F
  case F =>
    intro w mg fa h Y XP G hmg
    have X := PySem.W.km_in_of Y
    have TA := PySem.W.km_tabs_of Y
    refine ⟨_, X, ?_⟩
    refine' My.all_mk (P := 272) X G hmg ?a0 ?l0 ?c0 ?k0 ?a1 ?l1 ?c1 ?k1 ?a2 ?l2 ?c2 ?k2 ?a3 ?l3 ?c3 ?k3 ?a4 ?l4 ?c4 ?k4 ?a5 ?l5 ?c5 ?k5 ?a6 ?l6 ?c6 ?k6 ?a7 ?l7 ?c7 ?k7 ?a8 ?l8 ?c8 ?k8 ?a9 ?l9 ?c9 ?k9 ?a10 ?l10 ?c10 ?k10 ?a11 ?l11 ?c11 ?k11 ?a12 ?l12 ?c12 ?k12 ?a13 ?l13 ?c13 ?k13 ?a14 ?l14 ?c14 ?k14 ?a15 ?l15 ?c15 ?k15 ?a16 ?l16 ?c16 ?k16 ?a17 ?l17 ?c17 ?k17 ?a18 ?l18 ?lT18 ?c18 ?k18 ?a19 ?l19 ?c19 ?k19 ?a20 ?l20 ?c20 ?k20 ?a21 ?l21 ?c21 ?k21 ?a22 ?l22 ?c22 ?k22 ?a23 ?l23 ?c23 ?k23 ?a24 ?l24 ?c24 ?k24 ?a25 ?l25 ?c25 ?k25 ?a26 ?l26 ?c26 ?k26 ?a27 ?l27 ?c27 ?k27 ?a28 ?l28 ?c28 ?k28 ?a29 ?l29 ?c29 ?k29 ?z_all ?z_bool ?z_dict ?z_int ?z_isinstance ?z_len ?z_list ?z_max ?z_min ?z_range ?z_repr ?z_str ?z_tuple ?z_zip ?p_MOST_NUMBERS ?p_PRIMES ?q_PRIMES ?aD ?hbm ?hn ?ht ?e1_BadOne ?e2_BadOne ?e3_BadOne ?e4_BadOne ?e5_BadOne ?e6_BadOne ?e7_BadOne ?e8_BadOne ?e9_BadOne ?e10_BadOne ?e11_BadOne ?e12_BadOne ?e13_BadOne_BadOne ?e13_BadOne_BadOther ?e13_BadOne_BadPoly ?e13_BadOne_BadPrime ?e1_BadOther ?e2_BadOther ?e3_BadOther ?e4_BadOther ?e5_BadOther ?e6_BadOther ?e7_BadOther ?e8_BadOther ?e9_BadOther ?e10_BadOther ?e11_BadOther ?e12_BadOther ?e13_BadOther_BadOne ?e13_BadOther_BadOther ?e13_BadOther_BadPoly ?e13_BadOther_BadPrime ?e1_BadPoly ?e2_BadPoly ?e3_BadPoly ?e4_BadPoly ?e5_BadPoly ?e6_BadPoly ?e7_BadPoly ?e8_BadPoly ?e9_BadPoly ?e10_BadPoly ?e11_BadPoly ?e12_BadPoly ?e13_BadPoly_BadOne ?e13_BadPoly_BadOther ?e13_BadPoly_BadPoly ?e13_BadPoly_BadPrime ?e1_BadPrime ?e2_BadPrime ?e3_BadPrime ?e4_BadPrime ?e5_BadPrime ?e6_BadPrime ?e7_BadPrime ?e8_BadPrime ?e9_BadPrime ?e10_BadPrime ?e11_BadPrime ?e12_BadPrime ?e13_BadPrime_BadOne ?e13_BadPrime_BadOther ?e13_BadPrime_BadPoly ?e13_BadPrime_BadPrime ?cdl ?hP ?nT ?hC
    (case hbm => exact PySem.F.excBase_ValueError)
    (case a0 => k_is)
    (case l0 => k_is)
    (case c0 => k_is)
    (case k0 => k_is)
    (case a1 => k_is)
    (case l1 => k_is)
    (case c1 => k_is)
    (case k1 => k_is)
    (case a2 => k_is)
    (case l2 => k_is)
    (case c2 => k_is)
    (case k2 => k_is)
    (case a3 => k_is)
    (case l3 => k_is)
    (case c3 => k_is)
    (case k3 => k_is)
    (case a4 => k_is)
    (case l4 => k_is)
    (case c4 => k_is)
    (case k4 => k_is)
    (case a5 => k_is)
    (case l5 => k_is)
    (case c5 => k_is)
    (case k5 => k_is)
    (case a6 => k_is)
    (case l6 => k_is)
    (case c6 => k_is)
    (case k6 => k_is)
    (case a7 => k_is)
    (case l7 => k_is)
    (case c7 => k_is)
    (case k7 => k_is)
    (case a8 => k_is)
    (case l8 => k_is)
    (case c8 => k_is)
    (case k8 => k_is)
    (case a9 => k_is)
    (case l9 => k_is)
    (case c9 => k_is)
    (case k9 => k_is)
    (case a10 => k_is)
    (case l10 => k_is)
    (case c10 => k_is)
    (case k10 => k_is)
    (case a11 => k_is)
    (case l11 => k_is)
    (case c11 => k_is)
    (case k11 => k_is)
    (case a12 => k_is)
    (case l12 => k_is)
    (case c12 => k_is)
    (case k12 => k_is)
    (case a13 => k_is)
    (case l13 => k_is)
    (case c13 => k_is)
    (case k13 => k_is)
    (case a14 => k_is)
    (case l14 => k_is)
    (case c14 => k_is)
    (case k14 => k_is)
    (case a15 => k_is)
    (case l15 => k_is)
    (case c15 => k_is)
    (case k15 => k_is)
    (case a16 => k_is)
    (case l16 => k_is)
    (case c16 => k_is)
    (case k16 => k_is)
    (case a17 => k_is)
    (case l17 => k_is)
    (case c17 => k_is)
    (case k17 => k_is)
    (case a18 => k_is)
    (case l18 => k_is)
    (case lT18 => k_is)
    (case c18 => k_is)
    (case k18 => k_is)
    (case a19 => k_is)
    (case l19 => k_is)
    (case c19 => k_is)
    (case k19 => k_is)
    (case a20 => k_is)
    (case l20 => k_is)
    (case c20 => k_is)
    (case k20 => k_is)
    (case a21 => k_is)
    (case l21 => k_is)
    (case c21 => k_is)
    (case k21 => k_is)
    (case a22 => k_is)
    (case l22 => k_is)
    (case c22 => k_is)
    (case k22 => k_is)
    (case a23 => k_is)
    (case l23 => k_is)
    (case c23 => k_is)
    (case k23 => k_is)
    (case a24 => k_is)
    (case l24 => k_is)
    (case c24 => k_is)
    (case k24 => k_is)
    (case a25 => k_is)
    (case l25 => k_is)
    (case c25 => k_is)
    (case k25 => k_is)
    (case a26 => k_is)
    (case l26 => k_is)
    (case c26 => k_is)
    (case k26 => k_is)
    (case a27 => k_is)
    (case l27 => k_is)
    (case c27 => k_is)
    (case k27 => k_is)
    (case a28 => k_is)
    (case l28 => k_is)
    (case c28 => k_is)
    (case k28 => k_is)
    (case a29 => k_is)
    (case l29 => k_is)
    (case c29 => k_is)
    (case k29 => k_is)
    (case z_all => k_is)
    (case z_bool => k_is)
    (case z_dict => k_is)
    (case z_int => k_is)
    (case z_isinstance => k_is)
    (case z_len => k_is)
    (case z_list => k_is)
    (case z_max => k_is)
    (case z_min => k_is)
    (case z_range => k_is)
    (case z_repr => k_is)
    (case z_str => k_is)
    (case z_tuple => k_is)
    (case z_zip => k_is)
    (case p_MOST_NUMBERS => k_is)
    (case p_PRIMES => k_is)
    (case q_PRIMES => k_is)
    (case aD => k_is)
    (case hn => k_is)
    (case ht => k_is)
    (case e1_BadOne => k_is)
    (case e2_BadOne => first | rfl | kernel_rfl)
    (case e3_BadOne => k_is)
    (case e4_BadOne => k_is)
    (case e5_BadOne => k_is)
    (case e6_BadOne => k_is)
    (case e7_BadOne => k_is)
    (case e8_BadOne => k_is)
    (case e9_BadOne => k_is)
    (case e10_BadOne => k_is)
    (case e11_BadOne => first | rfl | kernel_rfl)
    (case e12_BadOne => first | rfl | kernel_rfl)
    (case e13_BadOne_BadOne => first | rfl | kernel_rfl)
    (case e13_BadOne_BadOther => first | rfl | kernel_rfl)
    (case e13_BadOne_BadPoly => first | rfl | kernel_rfl)
    (case e13_BadOne_BadPrime => first | rfl | kernel_rfl)
    (case e1_BadOther => k_is)
    (case e2_BadOther => first | rfl | kernel_rfl)
    (case e3_BadOther => k_is)
    (case e4_BadOther => k_is)
    (case e5_BadOther => k_is)
    (case e6_BadOther => k_is)
    (case e7_BadOther => k_is)
    (case e8_BadOther => k_is)
    (case e9_BadOther => k_is)
    (case e10_BadOther => k_is)
    (case e11_BadOther => first | rfl | kernel_rfl)
    (case e12_BadOther => first | rfl | kernel_rfl)
    (case e13_BadOther_BadOne => first | rfl | kernel_rfl)
    (case e13_BadOther_BadOther => first | rfl | kernel_rfl)
    (case e13_BadOther_BadPoly => first | rfl | kernel_rfl)
    (case e13_BadOther_BadPrime => first | rfl | kernel_rfl)
    (case e1_BadPoly => k_is)
    (case e2_BadPoly => first | rfl | kernel_rfl)
    (case e3_BadPoly => k_is)
    (case e4_BadPoly => k_is)
    (case e5_BadPoly => k_is)
    (case e6_BadPoly => k_is)
    (case e7_BadPoly => k_is)
    (case e8_BadPoly => k_is)
    (case e9_BadPoly => k_is)
    (case e10_BadPoly => k_is)
    (case e11_BadPoly => first | rfl | kernel_rfl)
    (case e12_BadPoly => first | rfl | kernel_rfl)
    (case e13_BadPoly_BadOne => first | rfl | kernel_rfl)
    (case e13_BadPoly_BadOther => first | rfl | kernel_rfl)
    (case e13_BadPoly_BadPoly => first | rfl | kernel_rfl)
    (case e13_BadPoly_BadPrime => first | rfl | kernel_rfl)
    (case e1_BadPrime => k_is)
    (case e2_BadPrime => first | rfl | kernel_rfl)
    (case e3_BadPrime => k_is)
    (case e4_BadPrime => k_is)
    (case e5_BadPrime => k_is)
    (case e6_BadPrime => k_is)
    (case e7_BadPrime => k_is)
    (case e8_BadPrime => k_is)
    (case e9_BadPrime => k_is)
    (case e10_BadPrime => k_is)
    (case e11_BadPrime => first | rfl | kernel_rfl)
    (case e12_BadPrime => first | rfl | kernel_rfl)
    (case e13_BadPrime_BadOne => first | rfl | kernel_rfl)
    (case e13_BadPrime_BadOther => first | rfl | kernel_rfl)
    (case e13_BadPrime_BadPoly => first | rfl | kernel_rfl)
    (case e13_BadPrime_BadPrime => first | rfl | kernel_rfl)
    (case cdl => rfl)
    (case hC => first | rfl | kernel_rfl)
    (case nT => first | rfl | kernel_rfl)
    (case hP => exact TA _ (by first | decide | simp))

